/- The document's player without its game: how it lies in memory; quintainref21.within, May, New, Head, Front, event, held, Mark, Told. -/
import Derived.Test.YteoldcfapaiobaaGreatA10Core
import Derived.Test.YteoldcfapaiobaaGreatA12Mul
import Derived.Test.YteoldcfapaiobaaGreatA01Row
import Derived.Test.YteoldcfapaiobaaGreatA06Ref
import Derived.Test.YteoldcfapaiobaaGreatA11Rank
import Derived.ProofKit
import Derived.Deep.Slices
import Derived.Deep.Strs
import Derived.Test.YteoldcfapaiobaaGreatA05Vm
import Derived.Test.YteoldcfapaiobaaGreatA09CoQ
namespace Go.Proofs.YteoldcfapaiobaaGreat
open Tryz
open List (take_zero nil_append drop_eq_nil_of_le cons_append append_nil ext_getElem? set_set mem_singleton range_succ getElem?_set_ne getElem?_set_self replicate_succ' map_singleton getLastD_eq_getLast? map_replicate)
open Go.RowKit
set_option linter.unusedVariables false
set_option linter.unusedSimpArgs false
set_option maxRecDepth 10000
set_option synthInstance.maxSize 4000
set_option synthInstance.maxHeartbeats 400000
section
theorem du (z:Value)(h:z.cells=#[z])(n:Nat):(madeCells z.cells (n*1)).toList=List.replicate n z:=by
 apply ext_getElem?;intro i;rw[madeCells,Array.getElem?_toList,Array.getElem?_map,Array.getElem?_range,h,List.getElem?_replicate];by_cases hi:i<n
 ·simp[hi,Nat.mod_one]
 ·simp[hi]
theorem lH (n:Nat):(madeCells (Value.agg #[.int .i64 0,.int .u32 0]).cells (n*2)).toList=rows (λ_:Pe=>[Value.int .i64 0,.int .u32 0]) (List.replicate n (fw 0)):=by
 have hl:∀ m:Nat,(madeCells (Value.agg #[.int .i64 0,.int .u32 0]).cells m).toList=(List.range m).map λi=>if i%2=0 then Value.int .i64 0 else .int .u32 0:=by
  intro m;apply ext_getElem?;intro i;rw[madeCells,Array.getElem?_toList,Array.getElem?_map,Array.getElem?_range,bn];by_cases hi:i<m
  ·rcases Nat.mod_two_eq_zero_or_one i with h | h <;> simp[hi,Value.cells,h]
  ·simp[hi]
 rw[hl]
 induction n with
 | zero=>rfl
 | succ n ih =>
  rw[Nat.succ_mul,replicate_succ',j5,← ih,range_succ,range_succ];simp only[cU,dw]
  congr 1
  have h1:n*2%2=0:=by omega
  have h2:¬ (n*2+1)%2=0:=by omega
  simp[h1,h2,rows]
def bG (lb lo c:Nat)(ls:List (List UInt8)):SP:=λh=>∃ xs:List ea,bj xs=ls∧ck [Sl 65 1 (some ⟨lb,lo,none⟩) ls.length c (xs.map aI),ah a7 xs] h
structure ou where
 cb:Nat
 lb:Nat
 lo:Nat
 cL:Nat
 hb:Nat
 dW:Nat
 wb:Nat
 xb:Nat
structure mo where
 cj:Option Addr
 cM:Nat
 adE:Option Addr
 cE:Nat
abbrev cZ (k:Ks)(B:ou)(A:mo):List Value:=[.int .i64 k.n,.int .i64 k.me,.int .i64 k.id,.int .i64 k.aH,.int .i64 k.bo,.int .i64 k.ba,.int .i64 k.order,.int .i64 k.cr,.int .i64 k.workers,.int .i64 k.room,
 .slice (some ⟨B.lb,B.lo,none⟩) k.ls.length B.cL,.int .i64 k.now,.slice (some ⟨B.hb,0,none⟩) k.n k.n,.slice (some ⟨B.dW,0,none⟩) k.n k.n,.slice (some ⟨B.wb,0,none⟩) k.n k.n,.slice (some ⟨B.xb,0,none⟩) k.n k.n,.slice A.cj k.mr.length A.cM,.slice A.adE k.ev.length A.cE,.bool k.cl]
def e5 (l:List Pe):List Value:=l.map λp=>Value.int .i64 (p.heard:Int)
def eQ (l:List Pe):List Value:=l.map λp=>Value.int .i64 (p.has:Int)
def e6 (l:List Pe):List Value:=l.map λp=>Value.bool p.apart
abbrev e7 (p:Pe):List Value:=[.int .i64 p.frame,.int .u32 p.sum]
theorem AB (p:Pe):(e7 p).length=2:=rfl
def aW (B:ou)(k:Ks):SP:=λh=>∃ A:mo,ck [aa B.cb 72 (cZ k B A),bG B.lb B.lo B.cL k.ls,aa B.hb 3 (e5 k.ps),aa B.dW 3 (eQ k.ps),aa B.wb 313 (rows e7 k.ps),aa B.xb 4 (e6 k.ps),Sl 100 1 A.cj k.mr.length A.cM (c6 k.mr),Sl 102 3 A.adE k.ev.length A.cE (rows bS k.ev)] h
section
variable {W w:World}{L R:List SP}{c m lb lo i:Nat}{ad:Option Addr}{ls:List (List UInt8)}{k:Ks}{A:mo}{B:ou}
theorem bG.open (I:V W w (bG lb lo c ls::L)):∃ xs:List ea,bj xs=ls∧V W w (Sl 65 1 (some ⟨lb,lo,none⟩) ls.length c (xs.map aI)::ah a7 xs::L):=by
 obtain⟨xs,h1,I⟩:=I.jj (ι:=List ea) (p:=λxs=>bj xs=ls) (B:=λxs h=>ck [Sl 65 1 (some ⟨lb,lo,none⟩) ls.length c (xs.map aI),ah a7 xs] h) λ_ ⟨xs,h1,h2⟩=>⟨xs,h1,h2⟩;exact⟨xs,h1,I.open (M:=[_,_]) λ_ h=>h⟩
theorem bG.close {xs:List ea}(I:V W w (Sl 65 1 (some ⟨lb,lo,none⟩) ls.length c (xs.map aI)::ah a7 xs::L))(h:bj xs=ls):V W w (bG lb lo c ls::L) :=
 V.shut (M:=[_,_]) I λ_ h'=>⟨xs,h,h'⟩
theorem V.ov {xs:List ea}{el:TypeId}{m:Nat}(I:V W w (Sl el 1 ad m c (xs.map aI)::ah a7 xs::L)):iH w ad xs:=by
 have hl:=(I.sl ad).1;rw[bf,Nat.mul_one]at hl;refine⟨λh0=>?_,λx hx=>?_⟩
 ·obtain⟨b,off,h1,h2⟩:=I.bY ad (by omega);exact⟨b,off,h1,h2⟩
 ·obtain⟨i,hi,rfl⟩:=List.getElem_of_mem hx;have h2:=(I.tail).fE hi;exact V.cF (L:=a7 xs[i]::_) h2 _ _ (k:=(fL.head:fL (Sl 5 1 xs[i].1 xs[i].2.2.length xs[i].2.1 (bc xs[i].2.2)::_) xs[i].1 _ _ _ _ _ _)) rfl rfl
theorem aW.open (I:V W w (aW B k::L)):∃ A:mo,V W w (aa B.cb 72 (cZ k B A)::bG B.lb B.lo B.cL k.ls::aa B.hb 3 (e5 k.ps)::aa B.dW 3 (eQ k.ps)::aa B.wb 313 (rows e7 k.ps)::aa B.xb 4 (e6 k.ps)::Sl 100 1 A.cj k.mr.length A.cM (c6 k.mr)::Sl 102 3 A.adE k.ev.length A.cE (rows bS k.ev)::L):=by
 obtain⟨A,_,I⟩:=I.jj (ι:=mo) (p:=λ_=>True) (B:=λA h=>ck [aa B.cb 72 (cZ k B A),bG B.lb B.lo B.cL k.ls,aa B.hb 3 (e5 k.ps),aa B.dW 3 (eQ k.ps),aa B.wb 313 (rows e7 k.ps),aa B.xb 4 (e6 k.ps),Sl 100 1 A.cj k.mr.length A.cM (c6 k.mr),Sl 102 3 A.adE k.ev.length A.cE (rows bS k.ev)] h) λ_ ⟨A,h⟩=>⟨A,trivial,h⟩;exact⟨A,I.open (M:=[_,_,_,_,_,_,_,_]) λ_ h=>h⟩
theorem aW.fold (I:V W w L)(B:ou)(k:Ks)(A:mo)[kk:fD L [aa B.cb 72 (cZ k B A),bG B.lb B.lo B.cL k.ls,aa B.hb 3 (e5 k.ps),aa B.dW 3 (eQ k.ps),aa B.wb 313 (rows e7 k.ps),aa B.xb 4 (e6 k.ps),Sl 100 1 A.cj k.mr.length A.cM (c6 k.mr),Sl 102 3 A.adE k.ev.length A.cE (rows bS k.ev)] R]:V W w (aW B k::R) :=
 V.shut (M:=[_,_,_,_,_,_,_,_]) (I.perm kk.perm) λ_ h=>⟨A,h⟩
end
theorem ZL {l:List Pe}{i:Nat}{p:Pe}(h:l[i]?=some p):(e5 l)[i]?=some (.int .i64 p.heard):=by rw[e5,bn,h];rfl
theorem vZ {l:List Pe}{i:Nat}{p:Pe}(h:l[i]?=some p):(eQ l)[i]?=some (.int .i64 p.has):=by rw[eQ,bn,h];rfl
theorem ZM {l:List Pe}{i:Nat}{p:Pe}(h:l[i]?=some p):(e6 l)[i]?=some (.bool p.apart):=by rw[e6,bn,h];rfl
theorem ya {α β:Type}(f:α→β){l:List α}{i:Nat}{x:α}{v:β}(h:f x=v):(l.map f).set i v=(l.set i x).map f:=by rw[← h,map_set]
theorem AD {β:Type}(f:Pe→β){l:List Pe}{i:Nat}{p q:Pe}(h:l[i]?=some p)(hf:f q=f p):(l.set i q).map f=l.map f:=by
 apply ext_getElem?;intro j;rw[bn,bn,jA];by_cases hj:i=j
 ·subst hj;have hi:=(a1.1 h).1;rw[al rfl,al hi,h];simp[hf]
 ·rw[ae hj]
theorem ZN (f:Pe→List Value){l:List Pe}{i:Nat}{p q:Pe}(h:l[i]?=some p)(hf:f q=f p):rows f (l.set i q)=rows f l:=by
 rw[rows,rows,List.flatMap_def,List.flatMap_def,AD f h hf]
theorem Fi {l:List Pe}{i:Nat}{p:Pe}(h:l[i]?=some p)(q:Pe)(hf:q.heard=p.heard):e5 (l.set i q)=e5 l:=AD _ h (by rw[hf])
theorem Fj {l:List Pe}{i:Nat}{p:Pe}(h:l[i]?=some p)(q:Pe)(hf:q.has=p.has):eQ (l.set i q)=eQ l:=AD _ h (by rw[hf])
theorem Fk {l:List Pe}{i:Nat}{p:Pe}(h:l[i]?=some p)(q:Pe)(hf:q.apart=p.apart):e6 (l.set i q)=e6 l:=AD _ h (by rw[hf])
theorem Fl {l:List Pe}{i:Nat}{p:Pe}(h:l[i]?=some p)(q:Pe)(hf:q.frame=p.frame)(I:q.sum=p.sum):rows e7 (l.set i q)=rows e7 l:=ZN _ h (by rw[e7,e7,hf,I])
theorem ZO {l:List Pe}{i:Nat}(q:Pe){v:Int}(h:(q.heard:Int)=v):(e5 l).set i (.int .i64 v)=e5 (l.set i q):=ya _ (by rw[h])
theorem ZP {l:List Pe}{i:Nat}(q:Pe){v:Int}(h:(q.has:Int)=v):(eQ l).set i (.int .i64 v)=eQ (l.set i q):=ya _ (by rw[h])
section
variable {W w:World}{L:List SP}{n c lb lo i f cl:Nat}{ad:Option Addr}{ls:List (List UInt8)}{k:Ks}{A:mo}{B:ou}{x:UInt8}
theorem rj (I:V W w (aW B k::L))(hk:WC k):Calls prog 20 #[pt B.cb] w λr w'=>r=.returned (.int .i64 (aF k))∧V W w' (aW B k::L):=by
 have eA:k.me<k.ls.length:=by rw[hk.ls];exact hk.me
 obtain⟨A,I⟩:=aW.open I;refine EN func20 ntmps20 rfl rfl λa E=>?_;refine bL 3 [8] [0,1,2,4,5,6,7,3003,1008,9,10,1011,12,13] E I λa w E I hH U=>?_;obtain⟨xs,a8,I⟩:=bG.open (I.pick (bG B.lb B.lo B.cL k.ls));have ch:xs.length=k.ls.length:=by rw[← a8,gM]
 obtain⟨mx,ol,y,Fm,hy,ot,pw⟩:=(V.ov I).at (i:=k.me) (by omega);cases Fm;have jY:aF k=y.2.2.length:=by
  show (k.ls.getD k.me []).length=_;rw[← a8,sT hy]
 replace hH:=Hd.gq I;refine RH 11 E I hH U λa E=>?_;refine SS E (ag E (ot)) λa E=>?_;rw[aI]at E;refine RH 2 E I hH U λa E=>?_;refine RT 0 E I ?_;refine⟨by rw[jY],?_⟩;exact (aW.fold (bG.close I a8) B k A).sub
theorem Fo (I:V W w (aW B k::L))(hk:WC k):Calls prog 19 #[pt B.cb] w λr w'=>r=.returned (.int .i64 (ax k))∧V W w' (aW B k::L):=by
 have hn:=hk.n;have ff:=hk.ls;obtain⟨A,I⟩:=aW.open I;refine EN func19 ntmps19 rfl rfl λa E=>?_;refine RN 7 E I λa E=>?_;obtain⟨xs,a8,I⟩:=bG.open (I.pick (bG B.lb B.lo B.cL k.ls));have ch:xs.length=k.ls.length:=by rw[← a8,gM]
 rw[← ch]at E;refine CL 0 E I (E6 (xs:=xs) I (by omega) (by omega) (λw' hw=>V.ov hw)) λa w E I=>?_;refine RT 1 E I ?_;refine⟨by rw[a8];rfl,?_⟩;exact (aW.fold (bG.close I a8) B k A).sub
theorem Fp {kd pl fr:Nat}(I:V W w (aW B k::L))(hl:k.ev.length≤100):Calls prog 112 #[pt B.cb,.int .i64 kd,.int .i64 pl,.int .i64 fr] w λr w'=>r=.returned (.tuple #[])∧V W w' (aW B { k with ev:=k.ev++[(kd,pl,fr)] }::L):=by
 obtain⟨A,I⟩:=aW.open I;refine EN func112 ntmps112 rfl rfl λa E=>?_;refine RN 9 E I λa E=>?_;refine cm E rfl I underlying70 Ty.t102 rfl rfl rfl rfl (by decide) (by decide) λcV a w E I ho=>?_;clear ho;refine RN 0 E I λa E=>?_;refine cJ E rfl I underlying70 Ty.t102 rfl rfl I.ai rfl (Em (kd,pl,fr)) (by decide) (by decide) (by omega) λFq Fs a w E I=>?_;rw[show rows bS k.ev++_=rows bS (k.ev++[(kd,pl,fr)]) from by rw[j5];rfl,show k.ev.length+1=(k.ev++[(kd,pl,fr)]).length from by simp]at I;rw[show k.ev.length+1=(k.ev++[(kd,pl,fr)]).length from by simp]at E;refine ST 2 E I (λa w E I=>?_);refine RT 0 E I ?_;exact⟨rfl,(aW.fold I B { k with ev:=k.ev++[(kd,pl,fr)] } { A with adE:=Fq,cE:=Fs }).sub⟩
theorem ZQ (I:V W w (aW B k::L)):Calls prog 51 #[pt B.cb] w λr w'=>∃ ad c,r=.returned (.slice ad k.ev.length c)∧V W w' (Sl 102 3 ad k.ev.length c (rows bS k.ev)::aW B { k with ev:=[] }::L):=by
 obtain⟨A,I⟩:=aW.open I;refine EN func51 ntmps51 rfl rfl λa E=>?_;refine ST 12 E I (λa w E I=>?_);refine RT 3 E I ?_;refine⟨A.adE,A.cE,rfl,?_⟩;replace I:=I.bH 102 3 none;have h2:V W w (aa B.cb 72 (cZ { k with ev:=[] } B ⟨A.cj,A.cM,none,0⟩)::bG B.lb B.lo B.cL k.ls::aa B.hb 3 (e5 k.ps)::aa B.dW 3 (eQ k.ps)::aa B.wb 313 (rows e7 k.ps)::aa B.xb 4 (e6 k.ps)::Sl 100 1 A.cj k.mr.length A.cM (c6 k.mr)::Sl 102 3 none 0 0 []::Sl 102 3 A.adE k.ev.length A.cE (rows bS k.ev)::L):=I.sub (M:=aa B.cb 72 _::bG B.lb B.lo B.cL k.ls::aa B.hb 3 (e5 k.ps)::aa B.dW 3 (eQ k.ps)::aa B.wb 313 (rows e7 k.ps)::aa B.xb 4 (e6 k.ps)::Sl 100 1 A.cj k.mr.length A.cM (c6 k.mr)::Sl 102 3 none 0 0 []::Sl 102 3 A.adE k.ev.length A.cE (rows bS k.ev)::L);refine V.perm (L:=aW B { k with ev:=[] }::Sl 102 3 A.adE k.ev.length A.cE (rows bS k.ev)::L) ?_ (List.Perm.swap _ _ _);exact V.shut (M:=[_,_,_,_,_,_,_,_]) h2 λ_ h=>⟨⟨A.cj,A.cM,none,0⟩,h⟩
theorem LX (I:V W w (aW B k::L))(hk:WC k):Calls prog 153 #[pt B.cb] w λr w'=>r=.returned (.tuple #[])∧V W w' (aW B (kJ k)::L):=by
 have eE:k.ps.length=k.n:=hk.ps;have hn:=hk.n;refine EN func153 ntmps153 rfl rfl λa E=>?_;refine RN 2 E I λa E=>?_;refine aS (λμ a w=>∃ (i:Nat),(μ=k.n-i∧i≤k.n)∧Fr a 68 [(0,pt B.cb),(2,.int .i64 i)]∧V W w (aW B (gi k i)::L)) (k.n) (⟨0,⟨rfl,by omega⟩,E.ab [0,2],I⟩) ?_;clear E I;rintro μ a w ⟨i,⟨rfl,hi⟩,E,I⟩;have jG:=hk.gi (i:=i) hi;have eK:=Aa k i;have ug:(gi k i).n=k.n:=by obtain⟨ps,ev,h1,_⟩:=xN k i;rw[h1]
 have e8:gi k (i+1)=kI (gi k i) i:=rfl;rw[kI]at e8;generalize m7:gi k i=kk at I jG eK e8 ug;obtain⟨A,I⟩:=aW.open I;refine IF 9 E I (λaj a E=>?_) λaj a E=>?_
 ·
  have aJ:i<kk.ps.length:=by omega
  have ij:=jG.pg (i:=i) (by omega);have eZ:=tZ aJ;have fc:=jv AB (I.ai (b:=B.wb)) eZ;rw[Nat.zero_add]at fc;refine RN 8 E I λa E=>?_;refine SS E (bO E underlying313 rfl Ty.t313 (fc)) λa E=>?_;refine AL 0 E I λb3 a w E I=>?_;refine SA 0 E I λa w E I=>?_;refine bL 1 [19,20,29,30,34] [0,1,2,4,1003,5,1006,7,8,9,1010,11,12,13,14,16,17,18,3015,1019,1020,21,22,23,24,25,26,28,33,3027,3029,3030,31,3032,1034,35,36] E I λa w E I hH U=>?_;have js:Rd w B.cb 0 (cZ kk B A):=I.ai (b:=B.cb);have v7:Rd w b3 0 (e7 (au kk i)):=I.ai (b:=b3);have mI:=I.bu (b:=B.xb) (ZM eZ);refine RH 4 E I hH U λa E=>?_;refine SS E (ag E (js 15 _ rfl)) λa E=>?_;refine RH 1 E I hH U λa E=>?_;refine SS E (ag E (mI)) λa E=>?_;refine RH 2 E I hH U λa E=>?_;refine E.by (s:=28) (λfb E=>?_) (λfb E=>?_)
  ·
   refine RH 1 E I hH U λa E=>?_;refine bz E (cW E rfl (s:=28)) (ag E (v7 0 _ rfl)) rfl λa E=>?_;refine RH 3 E I hH U λa E=>?_;refine E.by (s:=33) (λmU E=>?_) (λmU E=>?_)
   ·
    refine RH 4 E I hH U λa E=>?_;refine QH E (λw hc=>ag E (hc.cell (v7 0 _ rfl))) U λa E=>?_;refine RH 0 E I hH U λa E=>?_;refine bz E (cW E rfl (s:=33)) (ag E (js 16 _ rfl)) rfl λa E=>?_;refine RH 4 E I hH U λa E=>?_;refine E.by (s:=43) (λl8 E=>?_) (λl8 E=>?_)
    ·
     have lR:(au kk i).frame-1<kk.mr.length:=by omega
     obtain⟨Er,Es,eA,ld⟩:=(I.pick (Sl 100 1 A.cj kk.mr.length A.cM (c6 kk.mr))).bY A.cj (by omega);have xQ:=js 16 _ rfl;rw[eA]at xQ;refine RH 5 E I hH U λa E=>?_;refine QH E (λw hc=>ag E (hc.cell (xQ))) U λa E=>?_;refine QH E (λw hc=>ag E (hc.cell (v7 0 _ rfl))) U λa E=>?_;refine RH 1 E I hH U λa E=>?_;rw[show (((au kk i).frame:Nat):Int)-1=(((au kk i).frame-1:Nat):Int) from by omega]at E;refine RH 1 E I hH U λa E=>?_;refine QH E (λw hc=>ag E (hc.cell (ld ((au kk i).frame-1) _ (Af lR)))) U λa E=>?_;refine RH 0 E I hH U λa E=>?_;refine bz E (cW E rfl (s:=43)) (ag E (v7 1 _ rfl)) rfl λa E=>?_;refine RH 2 E I hH U λa E=>?_;refine IF 0 E I (λan a E=>?_) λan a E=>?_
     ·
      refine RN 1 E I λa E=>?_;rw[al ⟨fb,by omega,by omega,by omega⟩]at e8;refine ST 6 E I (λa w E I=>?_) (hlt:=(by rw[e6,bf];exact aJ));rw[show (e6 kk.ps).set i (.bool true)=e6 (kk.ps.set i { au kk i with apart:=true }) from ya _ rfl,← Fi eZ { au kk i with apart:=true } rfl,← Fj eZ { au kk i with apart:=true } rfl,← Fl eZ { au kk i with apart:=true } rfl rfl]at I;replace I:=aW.fold I B { kk with ps:=kk.ps.set i { au kk i with apart:=true } } A;refine CL 4 E I (Fp (kd:=3) (pl:=i) (fr:=(au kk i).frame) I (by have:=jG.kK;show kk.ev.length≤100;omega)) λa w E I=>?_;refine RN 3 E I λa E=>?_;exact⟨k.n-(i+1),by omega,i+1,⟨rfl,by omega⟩,E.ab [0,2],by rw[e8];exact I.sub⟩
     refine RN 3 E I λa E=>?_;rw[ae (λh=>by have:=h.2.2.2;omega)]at e8;exact⟨k.n-(i+1),by omega,i+1,⟨rfl,by omega⟩,E.ab [0,2],by rw[e8];exact (aW.fold I B kk A).sub⟩
    refine RH 13 E I hH U λa E=>?_;refine RN 4 E I λa E=>?_;rw[ae (λh=>by have:=h.2.2.1;omega)]at e8;exact⟨k.n-(i+1),by omega,i+1,⟨rfl,by omega⟩,E.ab [0,2],by rw[e8];exact (aW.fold I B kk A).sub⟩
   refine RH 23 E I hH U λa E=>?_;refine RN 4 E I λa E=>?_;rw[ae (λh=>by have:=h.2.1;omega)]at e8;exact⟨k.n-(i+1),by omega,i+1,⟨rfl,by omega⟩,E.ab [0,2],by rw[e8];exact (aW.fold I B kk A).sub⟩
  refine RH 28 E I hH U λa E=>?_;refine RN 4 E I λa E=>?_;rw[ae (λh=>by have:=h.1;rw[fb]at this;cases this)]at e8;exact⟨k.n-(i+1),by omega,i+1,⟨rfl,by omega⟩,E.ab [0,2],by rw[e8];exact (aW.fold I B kk A).sub⟩
 refine RT 0 E I ?_;obtain rfl:i=k.n:=by omega
 refine⟨rfl,?_⟩;rw[kJ,eE,m7];exact (aW.fold I B kk A).sub
theorem ZR {s:Nat}(I:V W w (aW B k::L))(hk:WC k)(hl:k.mr.length<1000)(xf:s<4294967296):Calls prog 105 #[pt B.cb,.int .u32 s] w λr w'=>r=.returned (.tuple #[])∧V W w' (aW B (k7 k s)::L):=by
 have xR : WC { k with mr := k.mr ++ [s] } := { hk with
     mr:=by show (k.mr++[s]).length≤1000;rw[aK,ja];omega
     q4:=λx hx=>by
      rcases eV.1 hx with hx | hx
      ·exact hk.q4 x hx
      ·rw[mem_singleton]at hx;rw[hx];exact xf }
 obtain⟨A,I⟩:=aW.open I;refine EN func105 ntmps105 rfl rfl λa E=>?_;refine RN 8 E I λa E=>?_;rw[dd (by omega)]at E;refine RN 7 E I λa E=>?_;refine cm E rfl I underlying69 Ty.t100 rfl rfl rfl rfl (by decide) (by decide) λtN a w E I ho=>?_;clear ho;refine RN 0 E I λa E=>?_;refine cJ E rfl I underlying69 Ty.t100 rfl rfl I.ai rfl (by simp[Value.oneCell']) (by decide) (by decide) (by omega) λZS ZT a w E I=>?_;rw[show c6 k.mr++_=c6 (k.mr++[s]) from by rw[c6,c6,cU];rfl,show k.mr.length+1=(k.mr++[s]).length from by simp]at I;rw[show k.mr.length+1=(k.mr++[s]).length from by simp]at E;refine ST 2 E I (λa w E I=>?_);refine RN 0 E I λa E=>?_;replace I:=aW.fold I B { k with mr:=k.mr++[s] } { A with cj:=ZS,cM:=ZT };refine CL 1 E I (LX I xR) λa w E I=>?_;refine RT 0 E I ?_;exact⟨rfl,by rw[k7,al hl];exact I.sub⟩
theorem ZU (I:V W w (aW B k::L))(hk:WC k):Calls prog 111 #[pt B.cb,.int .u8 (x.toNat:Nat)] w λr w'=>r=.returned (.int .i64 (c3 x k).1)∧V W w' (aW B (c3 x k).2::L):=by
 have eA:k.me<k.ls.length:=by rw[hk.ls];exact hk.me
 have gL:=hk.lG;have fq:=hk.nq;obtain⟨A0,I⟩:=aW.open I;refine EN func111 ntmps111 rfl rfl λa E=>?_;refine IF 9 E I (λaj a E=>?_) λaj a E=>?_
 ·
  replace I:=aW.fold I B k A0;refine RT 2 E I ?_;exact⟨by rw[c3,al aj],by rw[c3,al aj];exact I⟩
 have cd:¬ k.cl=true:=by rw[aj];decide
 replace I:=aW.fold I B k A0;refine CL 2 E I (rj I hk) λa w E I=>?_;refine IF 2 E I (λan a E=>?_) λan a E=>?_
 ·
  refine RT 2 E I ?_;exact⟨by rw[c3,ae cd,al (by omega)],by rw[c3,ae cd,al (by omega)];exact I⟩
 refine aY 1 (λw0 w'=>w'.cell? ⟨B.cb,4,none⟩=some (.int .i64 k.bo)) [1,3,4] [0,2,5,6,7,8,3009,1001,1003,1004,10,11] E I λa w E I hH=>?_;have U:w.cell? ⟨B.cb,4,none⟩=some (.int .i64 k.bo):=by
  obtain⟨A1,I⟩:=aW.open I;exact I.bu (b:=B.cb) rfl
 refine RH 6 E I hH U λa E=>?_;refine QH E (λw hc=>ag E (hc)) U λa E=>?_;refine RH 0 E I hH U λa E=>?_;refine CL 0 E I (rj I hk) λa w E I=>?_;replace U:=hH.at w (by obtain⟨A1,I⟩:=aW.open I;exact I.bu (b:=B.cb) rfl);refine RH 0 E I hH U λa E=>?_;refine CL 0 E I (Fo I hk) λa w E I=>?_;replace U:=hH.at w (by obtain⟨A1,I⟩:=aW.open I;exact I.bu (b:=B.cb) rfl);refine RH 3 E I hH U λa E=>?_;refine IF 0 E I (λay a E=>?_) λay a E=>?_
 ·
  refine RT 2 E I ?_;exact⟨by rw[c3,ae cd,ae (by omega),al (by omega)],by rw[c3,ae cd,ae (by omega),al (by omega)];exact I⟩
 refine RN 1 E I λa E=>?_;obtain⟨A,I⟩:=aW.open I;have ua:c3 x k=(0,{ k with ls:=k.ls.set k.me (k.ls.getD k.me []++[x]) }):=by rw[c3,ae cd,ae (by omega),ae (by omega)]
 rw[ua];obtain⟨xs,a8,I⟩:=bG.open (I.pick (bG B.lb B.lo B.cL k.ls));have ch:xs.length=k.ls.length:=by rw[← a8,gM]
 obtain⟨y,hy⟩:∃ y,xs[k.me]?=some y:=⟨_,aO (by omega)⟩;obtain⟨yb,x8⟩:=a1.1 hy;have jY:k.ls.getD k.me []=y.2.2:=by rw[← a8,sT hy]
 refine bL 0 [8] [0,1,2,4,5,6,7,3003,1008,9,10] E I λa w E I hH U=>?_;refine RH 11 E I hH U λa E=>?_;refine RN 5 E I λa E=>?_;refine SS E (ag E ((I.cX B.lb B.lo (by omega)) k.me (aI y) (by rw[bn,hy];rfl))) λa E=>?_;rw[aI]at E;replace I:=(I.pick (ah a7 xs)).fE yb;rw[x8]at I;have gx:V W w (Sl 5 1 y.1 y.2.2.length y.2.1 (bc y.2.2)::_):=I;clear I;have I:=gx;clear gx;have LY:y.2.2.length≤1000:=by rw[← jY];exact gL
 refine RN 1 E I λa E=>?_;refine cm E rfl I underlying22 Ty.t5 rfl rfl rfl rfl (by decide) (by decide) λZV a w E I ho=>?_;clear ho;refine RN 0 E I λa E=>?_;refine cJ E rfl I underlying22 Ty.t5 rfl rfl I.ai rfl (ek [x]) (by decide) (by decide) (by omega) λm3 kP a w E I=>?_;rw[show bc y.2.2++_=bc (y.2.2++[x]) from (fI _ [_]).symm,show y.2.2.length+1=(y.2.2++[x]).length from by simp]at I;rw[show y.2.2.length+1=(y.2.2++[x]).length from by simp]at E;refine RN 2 E I λa E=>?_;refine lN (off:=B.lo) (k:=k.me) E rfl I Ty.t22 rfl (by omega) (by rw[bf];exact yb) λa w E I=>?_;rw[show (xs.map aI).set k.me (.slice m3 (y.2.2++[x]).length kP)=(xs.set k.me (m3,kP,y.2.2++[x])).map aI from ya _ rfl]at I;have h2:=I.arr (M:=[Sl 5 1 m3 (y.2.2++[x]).length kP (bc (y.2.2++[x])),ah a7 (xs.eraseIdx k.me)]);simp only[cons_append,nil_append]at h2;have h3:=V.ko (f:=a7) (x:=(m3,kP,y.2.2++[x])) yb h2;have ff:(k.ls.set k.me (k.ls.getD k.me []++[x])).length=k.ls.length:=br;have aZ:bj (xs.set k.me (m3,kP,y.2.2++[x]))=k.ls.set k.me (k.ls.getD k.me []++[x]):=by rw[bj,map_set,← bj,a8,jY]
 have h4:=h3.arr (M:=[Sl 65 1 (some ⟨B.lb,B.lo,none⟩) k.ls.length B.cL ((xs.set k.me (m3,kP,y.2.2++[x])).map aI),ah a7 (xs.set k.me (m3,kP,y.2.2++[x]))]);simp only[cons_append,nil_append]at h4;rw[show k.ls.length=(k.ls.set k.me (k.ls.getD k.me []++[x])).length from ff.symm]at h4;have h5:=bG.close (xs:=xs.set k.me (m3,kP,y.2.2++[x])) h4 aZ;clear I;have I:=h5;rw[show cZ k B A=cZ { k with ls:=k.ls.set k.me (k.ls.getD k.me []++[x]) } B A from by simp only[cZ,br]]at I;refine RT 2 E I ?_;exact⟨rfl,(aW.fold I B { k with ls:=k.ls.set k.me (k.ls.getD k.me []++[x]) } A).sub⟩
end
section
variable {W w:World}{L R:List SP}{n c m lb lo i f cl:Nat}{ad:Option Addr}{ls:List (List UInt8)}{k:Ks}{A:mo}{B:ou}{x:UInt8}{bs:List UInt8}
theorem bG.out {ls:List (List UInt8)}(I:V W w (bG lb lo c ls::L))(hi:i<ls.length):∃ (xs:List ea) (y:ea),bj xs=ls∧xs[i]?=some y∧y.2.2=ls.getD i [] ∧
   V W w (Sl 5 1 y.1 y.2.2.length y.2.1 (bc y.2.2)::Sl 65 1 (some ⟨lb,lo,none⟩) ls.length c (xs.map aI)::ah a7 (xs.eraseIdx i)::L):=by
 obtain⟨xs,a8,I⟩:=bG.open I;have ch:xs.length=ls.length:=by rw[← a8,gM]
 have hy:xs[i]?=some xs[i]:=aO (by omega);refine⟨xs,xs[i],a8,hy,by have:=sT hy;rw[a8]at this;exact this.symm,?_⟩;have h1:=(I.pick (ah a7 xs)).fE (i:=i) (by omega);exact V.sub (M:=a7 xs[i]::Sl 65 1 (some ⟨lb,lo,none⟩) ls.length c (xs.map aI)::ah a7 (xs.eraseIdx i)::L) h1
theorem bG.put {xs:List ea}{q:List UInt8}(I:V W w L)(a8:bj xs=ls)(hi:i<ls.length)[kk:fD L [Sl 5 1 ad q.length cl (bc q),Sl 65 1 (some ⟨lb,lo,none⟩) ls.length c ((xs.map aI).set i (.slice ad q.length cl)),ah a7 (xs.eraseIdx i)] R]:V W w (bG lb lo c (ls.set i q)::R):=by
 have ch:xs.length=ls.length:=by rw[← a8,gM]
 have h1:V W w (a7 (ad,cl,q)::Sl 65 1 (some ⟨lb,lo,none⟩) ls.length c ((xs.map aI).set i (.slice ad q.length cl))::ah a7 (xs.eraseIdx i)::R):=I.perm kk.perm;rw[show (xs.map aI).set i (.slice ad q.length cl)=(xs.set i (ad,cl,q)).map aI from ya _ rfl]at h1;have h2:=V.ko (f:=a7) (x:=(ad,cl,q)) (l:=xs) (i:=i) (by omega) (h1.sub (M:=a7 (ad,cl,q)::ah a7 (xs.eraseIdx i)::Sl 65 1 (some ⟨lb,lo,none⟩) ls.length c ((xs.set i (ad,cl,q)).map aI)::R));refine bG.close (xs:=xs.set i (ad,cl,q)) ?_ (by rw[bj,map_set,← bj,a8]);rw[br];exact h2.perm (List.Perm.swap _ _ _)
theorem bG.hd (I:V W w (bG lb lo c ls::L))(hi:i<ls.length):∃ ad c',w.cell? ⟨lb,lo+i,none⟩=some (.slice ad (ls.getD i []).length c'):=by
 obtain⟨xs,y,h1,h2,h3,h4⟩:=bG.out I hi;rw[← h3];exact⟨_,_,(h4.tail.cX lb lo (by omega)) i (aI y) (by rw[bn,h2];rfl)⟩
theorem ZW {f:Nat}(I:V W w (bG lb lo c ls::L))(hi:i<ls.length)(hl:(ls.getD i []).length≤1000)(hb:bs.length≤65536)(hp:∀ w',V W w' L→a6 w' ad bs.length bs) :
   Calls prog 190 #[.pointer (some ⟨lb,lo+i,none⟩),.int .i64 f,.slice ad bs.length cl] w λr w'=>∃ n er:Int,r=.returned (.tuple #[.int .i64 n,.int .i64 er])∧V W w' (bG lb lo c (ls.set i (dr (ls.getD i []) f bs))::L):=by
 obtain⟨l0,v8⟩:∃ l0,l0=ls.getD i []:=⟨_,rfl⟩;rw[← v8];rw[← v8]at hl;have LZ:ls.set i l0=ls:=by rw[v8];exact J7
 refine EN func190 ntmps190 rfl rfl λa E=>?_;refine RN 7 E I λa E=>?_;rw[bq (by omega)]at E;refine RN 3 E I λa E=>?_;obtain⟨fS,ga,L1⟩:=bG.hd I hi;rw[← v8]at L1;refine RN 4 E I λa E=>?_;refine SS E (ag E (L1)) λa E=>?_;refine IF 2 E I (λan a E=>?_) λan a E=>?_
 ·
  refine RT 3 E I ?_;exact⟨_,_,rfl,by rw[dr,al (by omega),LZ];exact I⟩
 refine RN 5 E I λa E=>?_;have gw:f≤l0.length:=by omega
 refine aS (λμ a w=>∃ (j:Nat) (q:List UInt8),(μ=bs.length-j∧j≤bs.length∧q=l0++(bs.drop (l0.length-f)).take (j-(l0.length-f))∧q.length=l0.length+(j-(l0.length-f))∧q.length≤1000)∧Fr a 57 [(0,.pointer (some ⟨lb,lo+i,none⟩)),(1,.int .i64 f),(2,.slice ad bs.length cl),(8,.int .i64 (j-(l0.length-f):Nat)),(9,.int .i64 j)]∧V W w (bG lb lo c (ls.set i q)::L)) (bs.length) (⟨0,l0,⟨rfl,by omega,by rw[Nat.zero_sub,take_zero,append_nil],by omega,hl⟩,by rw[Nat.zero_sub];exact E.ab [0,1,2,8,9],by rw[LZ];exact I⟩) ?_;clear E I;rintro μ a w ⟨j,q,⟨rfl,hj,hq,R8,ly⟩,E,I⟩;refine IF 6 E I (λay a E=>?_) λay a E=>?_
 ·
  have dK:i<(ls.set i q).length:=by rw[br];exact hi
  have pZ:(ls.set i q).getD i []=q:=by rw[bl,getElem?_set_self hi];rfl
  obtain⟨adq,cq,ot⟩:=bG.hd I dK;rw[pZ]at ot;have L2:j<bs.length:=by omega
  have sf:=(hp _ I.tail).get (by omega);refine RN 7 E I λa E=>?_;refine SS E (ag E (ot)) λa E=>?_;refine IF 4 E I (λbg a E=>?_) λbg a E=>?_
  ·
   refine RN 3 E I λa E=>?_;exact⟨bs.length-(j+1),by omega,j+1,q,⟨rfl,by omega,by rw[hq,show j-(l0.length-f)=0 from by omega,show j+1-(l0.length-f)=0 from by omega],by omega,ly⟩,by rw[show j+1-(l0.length-f)=j-(l0.length-f) from by omega];exact E.ab [0,1,2,8,9],I⟩
  refine RN 5 E I λa E=>?_;refine SS E (ag E (ot)) λa E=>?_;refine IF 2 E I (λbM a E=>?_) λbM a E=>?_
  ·
   refine RT 4 E I ?_;exact⟨_,_,rfl,by rw[dr,ae (by omega),show 1000-l0.length=j-(l0.length-f) from by omega,← hq];exact I⟩
  refine bL 1 [8,9] [0,1,2,3,5,6,7,3004,1008,1009,1010,11,12,1013] E I λa w E I hH U=>?_;obtain⟨bb,oo,rfl,_⟩:=sf;obtain⟨xs,y,a8,hy,uj,I⟩:=bG.out I dK;rw[pZ]at uj;rw[uj]at I;have sJ:=(I.tail.cX lb lo (by omega)) i (aI y) (by rw[bn,hy];rfl);rw[aI,uj]at sJ;have zL:=(hp _ I.tail.tail.tail).rd (by omega);have yc:i<xs.length:=(a1.1 hy).1;replace hH:=Hd.gq I;refine RH 7 E I hH U λa E=>?_;refine QH E (λw hc=>ag E (hc.cell (sJ))) U λa E=>?_;refine RH 0 E I hH U λa E=>?_;refine SS E (ag E (zL j _ (dR L2))) λa E=>?_;refine RH 0 E I hH U λa E=>?_;refine cm E rfl I underlying22 Ty.t5 rfl rfl rfl rfl (by decide) (by decide) λb50 a w E I ho=>?_;replace U:=U.trans ho;clear ho;refine RH 0 E I hH U λa E=>?_;refine cJ E rfl I underlying22 Ty.t5 rfl rfl I.ai rfl (ek [bs[j]]) (by decide) (by decide) (by omega) λJH JI a w E I=>?_;rw[show bc q++_=bc (q++[bs[j]]) from (fI _ [_]).symm,show q.length+1=(q++[bs[j]]).length from by simp]at I;rw[show q.length+1=(q++[bs[j]]).length from by simp]at E;refine RN 2 E I λa E=>?_;refine lN (off:=lo) (k:=i) E rfl I Ty.t22 rfl (by omega) (by rw[bf];exact yc) λa w E I=>?_;refine RN 6 E I λa E=>?_;have h9:=bG.put (q:=q++[bs[j]]) (ad:=JH) (cl:=JI) (lb:=lb) (lo:=lo) (c:=c) I a8 dK;rw[set_set]at h9;exact⟨bs.length-(j+1),by omega,j+1,q++[bs[j]],⟨rfl,by omega,by rw[JU gw L2 (by omega) (by omega),← hq],by rw[aK,ja];omega,by rw[aK,ja];omega⟩,by rw[show ((j+1-(l0.length-f):Nat):Int)=((j-(l0.length-f):Nat):Int)+1 from by omega];exact E.ab [0,1,2,8,9],h9.sub⟩
 refine RT 4 E I ?_;obtain rfl:j=bs.length:=by omega
 refine⟨_,_,rfl,?_⟩;rw[dr,ae (by omega),fX (by rw[c7];omega)];rw[hq,fX (by rw[c7];omega)]at I;exact I
abbrev yd (n me:Nat)(id:Int)(aH bo:Nat)(ba order cr workers room:Int)(b8 cY bV cV:Nat)(ad:Option Addr)(i c:Nat):List Value:=[.int .i64 n,.int .i64 me,.int .i64 id,.int .i64 aH,.int .i64 bo,.int .i64 ba,.int .i64 order,.int .i64 cr,.int .i64 workers,.int .i64 room,.slice ad i c,.int .i64 0,.slice (some ⟨b8,0,none⟩) n n,.slice (some ⟨cY,0,none⟩) n n,.slice (some ⟨bV,0,none⟩) n n,.slice (some ⟨cV,0,none⟩) n n,.slice none 0 0,.slice none 0 0,.bool false]
theorem ZX (n d:Nat):e5 (List.replicate n (fw d))=ints .i64 n (λ_=>0):=by rw[e5,map_replicate];exact p7 _ _ _
theorem ZY (n d:Nat):eQ (List.replicate n (fw d))=ints .i64 n (λ_=>d):=by rw[eQ,map_replicate];exact p7 _ _ _
theorem ZZ (n d:Nat):e6 (List.replicate n (fw d))=List.replicate n (.bool false):=by rw[e6,map_replicate];rfl
theorem Z0 (n d:Nat):rows e7 (List.replicate n (fw d))=rows (λ_:Pe=>[Value.int .i64 0,.int .u32 0]) (List.replicate n (fw 0)):=by
 induction n with
 | zero=>rfl
 | succ n ih=>rw[List.replicate_succ,List.replicate_succ,nG,nG,ih];rfl
theorem Z1 (d:Nat):List.replicate d (Value.int .u8 0)=bc (List.replicate d 0):=by rw[bc,map_replicate];rfl
theorem Z2 {n me aH bo:Nat}{id ba order cr workers room:Int}(I:V W w L)(h:fg ⟨n,me,id,aH,bo,ba,order,cr,workers,room⟩) :
   Calls prog 65 #[.agg (b7 ⟨n,me,id,aH,bo,ba,order,cr,workers,room⟩).toArray] w λr w'=>∃ B:ou,r=.returned (pt B.cb)∧V W w' (aW B (fh ⟨n,me,id,aH,bo,ba,order,cr,workers,room⟩)::L):=by
 obtain⟨⟨h1,h2,h3⟩,⟨h4,h5,h6,h7⟩,h8,h9,fF,mH⟩:=h;simp only[fv] at *;refine EN func65 ntmps65 rfl rfl λa E=>?_;refine BX 1 E I λb1 a w E I=>?_;change V W w (aa b1 28 [.int .i64 n,.int .i64 me,.int .i64 id,.int .i64 aH,.int .i64 bo,.int .i64 ba,.int .i64 order,.int .i64 cr,.int .i64 workers,.int .i64 room]::_) at I;refine RN 1 E I λa E=>?_;refine bZ (M:=λa w=>∃ b8 cY bV cV cR:Nat,Fr a 48 [(1,pt b1),(3,pt cR)]∧V W w (aa cR 72 [.int .i64 n,.int .i64 me,.int .i64 id,.int .i64 aH,.int .i64 bo,.int .i64 ba,.int .i64 order,.int .i64 cr,.int .i64 workers,.int .i64 room,.slice none 0 0,.int .i64 0,.slice (some ⟨b8,0,none⟩) n n,.slice (some ⟨cY,0,none⟩) n n,.slice (some ⟨bV,0,none⟩) n n,.slice (some ⟨cV,0,none⟩) n n,.slice none 0 0,.slice none 0 0,.bool false]::aa b8 3 (List.replicate n (.int .i64 0))::aa cY 3 (List.replicate n (.int .i64 0))::aa bV 313 (rows (λ_:Pe=>[Value.int .i64 0,.int .u32 0]) (List.replicate n (fw 0)))::aa cV 4 (List.replicate n (.bool false))::aa b1 28 [.int .i64 n,.int .i64 me,.int .i64 id,.int .i64 aH,.int .i64 bo,.int .i64 ba,.int .i64 order,.int .i64 cr,.int .i64 workers,.int .i64 room]::L)) ?_ ?_
 ·
  refine bL 0 [2,3,5,6,8,9,11,12] [1,4,7,10,3000,3002,3005,3008,3011,2003,2006,2009,1012,13,1014,15] E I λa w E I hH U=>?_;refine RH 9 E I hH U λa E=>?_;refine DN [(3,[2006,2009,1012,13,1014,15]),(6,[2003,2009,1012,13,1014,15]),(9,[2003,2006,1012,13,1014,15]),(12,[2003,2006,1009,13,1014,15])] (by kernel_rfl) rfl ⟨⟨_,rfl,?_⟩,⟨_,rfl,?_⟩,⟨_,rfl,?_⟩,⟨_,rfl,?_⟩,trivial⟩
  ·
   refine RH 0 E I hH U λa E=>?_;refine cg E rfl I underlying53 Ty.t3 rfl (by omega) (by omega) λb8 a w E I ho=>?_;replace U:=U.trans ho;clear ho;rw[du _ rfl]at I;refine RH 0 E I hH U λa E=>?_;refine DN [(6,[2009,1012,13,1014,15]),(9,[2006,1012,13,1014,15]),(12,[2006,1009,13,1014,15])] (by kernel_rfl) rfl ⟨⟨_,rfl,?_⟩,⟨_,rfl,?_⟩,⟨_,rfl,?_⟩,trivial⟩
   ·
    refine RH 0 E I hH U λa E=>?_;refine cg E rfl I underlying53 Ty.t3 rfl (by omega) (by omega) λcY a w E I ho=>?_;replace U:=U.trans ho;clear ho;rw[du _ rfl]at I;refine RH 0 E I hH U λa E=>?_;refine DN [(9,[1012,13,1014,15]),(12,[1009,13,1014,15])] (by kernel_rfl) rfl ⟨⟨_,rfl,?_⟩,⟨_,rfl,?_⟩,trivial⟩
    ·
     refine RH 0 E I hH U λa E=>?_;refine cg E rfl I underlying67 Ty.t313 rfl (by omega) (by omega) λbV a w E I ho=>?_;replace U:=U.trans ho;clear ho;rw[lH]at I;refine RH 0 E I hH U λa E=>?_;refine cg E rfl I underlying68 Ty.t4 rfl (by omega) (by omega) λcV a w E I ho=>?_;replace U:=U.trans ho;clear ho;rw[du _ rfl]at I;refine RH 1 E I hH U λa E=>?_;refine gF E rfl I rfl λcR a w E I ho=>?_;replace U:=U.trans ho;clear ho;refine RH 1 E I hH U λa E=>?_;exact⟨b8,cY,bV,cV,cR,E.ab [1,3],I.sub⟩
    refine RH 0 E I hH U λa E=>?_;refine cg E rfl I underlying68 Ty.t4 rfl (by omega) (by omega) λcV a w E I ho=>?_;replace U:=U.trans ho;clear ho;rw[du _ rfl]at I;refine RH 0 E I hH U λa E=>?_;refine cg E rfl I underlying67 Ty.t313 rfl (by omega) (by omega) λbV a w E I ho=>?_;replace U:=U.trans ho;clear ho;rw[lH]at I;refine RH 1 E I hH U λa E=>?_;refine gF E rfl I rfl λcR a w E I ho=>?_;replace U:=U.trans ho;clear ho;refine RH 1 E I hH U λa E=>?_;exact⟨b8,cY,bV,cV,cR,E.ab [1,3],I.sub⟩
   ·
    refine RH 0 E I hH U λa E=>?_;refine cg E rfl I underlying67 Ty.t313 rfl (by omega) (by omega) λbV a w E I ho=>?_;replace U:=U.trans ho;clear ho;rw[lH]at I;refine RH 0 E I hH U λa E=>?_;refine DN [(6,[1012,13,1014,15]),(12,[1006,13,1014,15])] (by kernel_rfl) rfl ⟨⟨_,rfl,?_⟩,⟨_,rfl,?_⟩,trivial⟩
    ·
     refine RH 0 E I hH U λa E=>?_;refine cg E rfl I underlying53 Ty.t3 rfl (by omega) (by omega) λcY a w E I ho=>?_;replace U:=U.trans ho;clear ho;rw[du _ rfl]at I;refine RH 0 E I hH U λa E=>?_;refine cg E rfl I underlying68 Ty.t4 rfl (by omega) (by omega) λcV a w E I ho=>?_;replace U:=U.trans ho;clear ho;rw[du _ rfl]at I;refine RH 1 E I hH U λa E=>?_;refine gF E rfl I rfl λcR a w E I ho=>?_;replace U:=U.trans ho;clear ho;refine RH 1 E I hH U λa E=>?_;exact⟨b8,cY,bV,cV,cR,E.ab [1,3],I.sub⟩
    refine RH 0 E I hH U λa E=>?_;refine cg E rfl I underlying68 Ty.t4 rfl (by omega) (by omega) λcV a w E I ho=>?_;replace U:=U.trans ho;clear ho;rw[du _ rfl]at I;refine RH 0 E I hH U λa E=>?_;refine cg E rfl I underlying53 Ty.t3 rfl (by omega) (by omega) λcY a w E I ho=>?_;replace U:=U.trans ho;clear ho;rw[du _ rfl]at I;refine RH 1 E I hH U λa E=>?_;refine gF E rfl I rfl λcR a w E I ho=>?_;replace U:=U.trans ho;clear ho;refine RH 1 E I hH U λa E=>?_;exact⟨b8,cY,bV,cV,cR,E.ab [1,3],I.sub⟩
   refine RH 0 E I hH U λa E=>?_;refine cg E rfl I underlying68 Ty.t4 rfl (by omega) (by omega) λcV a w E I ho=>?_;replace U:=U.trans ho;clear ho;rw[du _ rfl]at I;refine RH 0 E I hH U λa E=>?_;refine DN [(6,[1009,13,1014,15]),(9,[1006,13,1014,15])] (by kernel_rfl) rfl ⟨⟨_,rfl,?_⟩,⟨_,rfl,?_⟩,trivial⟩
   ·
    refine RH 0 E I hH U λa E=>?_;refine cg E rfl I underlying53 Ty.t3 rfl (by omega) (by omega) λcY a w E I ho=>?_;replace U:=U.trans ho;clear ho;rw[du _ rfl]at I;refine RH 0 E I hH U λa E=>?_;refine cg E rfl I underlying67 Ty.t313 rfl (by omega) (by omega) λbV a w E I ho=>?_;replace U:=U.trans ho;clear ho;rw[lH]at I;refine RH 1 E I hH U λa E=>?_;refine gF E rfl I rfl λcR a w E I ho=>?_;replace U:=U.trans ho;clear ho;refine RH 1 E I hH U λa E=>?_;exact⟨b8,cY,bV,cV,cR,E.ab [1,3],I.sub⟩
   refine RH 0 E I hH U λa E=>?_;refine cg E rfl I underlying67 Ty.t313 rfl (by omega) (by omega) λbV a w E I ho=>?_;replace U:=U.trans ho;clear ho;rw[lH]at I;refine RH 0 E I hH U λa E=>?_;refine cg E rfl I underlying53 Ty.t3 rfl (by omega) (by omega) λcY a w E I ho=>?_;replace U:=U.trans ho;clear ho;rw[du _ rfl]at I;refine RH 1 E I hH U λa E=>?_;refine gF E rfl I rfl λcR a w E I ho=>?_;replace U:=U.trans ho;clear ho;refine RH 1 E I hH U λa E=>?_;exact⟨b8,cY,bV,cV,cR,E.ab [1,3],I.sub⟩
  ·
   refine RH 0 E I hH U λa E=>?_;refine cg E rfl I underlying53 Ty.t3 rfl (by omega) (by omega) λcY a w E I ho=>?_;replace U:=U.trans ho;clear ho;rw[du _ rfl]at I;refine RH 0 E I hH U λa E=>?_;refine DN [(3,[2009,1012,13,1014,15]),(9,[2003,1012,13,1014,15]),(12,[2003,1009,13,1014,15])] (by kernel_rfl) rfl ⟨⟨_,rfl,?_⟩,⟨_,rfl,?_⟩,⟨_,rfl,?_⟩,trivial⟩
   ·
    refine RH 0 E I hH U λa E=>?_;refine cg E rfl I underlying53 Ty.t3 rfl (by omega) (by omega) λb8 a w E I ho=>?_;replace U:=U.trans ho;clear ho;rw[du _ rfl]at I;refine RH 0 E I hH U λa E=>?_;refine DN [(9,[1012,13,1014,15]),(12,[1009,13,1014,15])] (by kernel_rfl) rfl ⟨⟨_,rfl,?_⟩,⟨_,rfl,?_⟩,trivial⟩
    ·
     refine RH 0 E I hH U λa E=>?_;refine cg E rfl I underlying67 Ty.t313 rfl (by omega) (by omega) λbV a w E I ho=>?_;replace U:=U.trans ho;clear ho;rw[lH]at I;refine RH 0 E I hH U λa E=>?_;refine cg E rfl I underlying68 Ty.t4 rfl (by omega) (by omega) λcV a w E I ho=>?_;replace U:=U.trans ho;clear ho;rw[du _ rfl]at I;refine RH 1 E I hH U λa E=>?_;refine gF E rfl I rfl λcR a w E I ho=>?_;replace U:=U.trans ho;clear ho;refine RH 1 E I hH U λa E=>?_;exact⟨b8,cY,bV,cV,cR,E.ab [1,3],I.sub⟩
    refine RH 0 E I hH U λa E=>?_;refine cg E rfl I underlying68 Ty.t4 rfl (by omega) (by omega) λcV a w E I ho=>?_;replace U:=U.trans ho;clear ho;rw[du _ rfl]at I;refine RH 0 E I hH U λa E=>?_;refine cg E rfl I underlying67 Ty.t313 rfl (by omega) (by omega) λbV a w E I ho=>?_;replace U:=U.trans ho;clear ho;rw[lH]at I;refine RH 1 E I hH U λa E=>?_;refine gF E rfl I rfl λcR a w E I ho=>?_;replace U:=U.trans ho;clear ho;refine RH 1 E I hH U λa E=>?_;exact⟨b8,cY,bV,cV,cR,E.ab [1,3],I.sub⟩
   ·
    refine RH 0 E I hH U λa E=>?_;refine cg E rfl I underlying67 Ty.t313 rfl (by omega) (by omega) λbV a w E I ho=>?_;replace U:=U.trans ho;clear ho;rw[lH]at I;refine RH 0 E I hH U λa E=>?_;refine DN [(3,[1012,13,1014,15]),(12,[1003,13,1014,15])] (by kernel_rfl) rfl ⟨⟨_,rfl,?_⟩,⟨_,rfl,?_⟩,trivial⟩
    ·
     refine RH 0 E I hH U λa E=>?_;refine cg E rfl I underlying53 Ty.t3 rfl (by omega) (by omega) λb8 a w E I ho=>?_;replace U:=U.trans ho;clear ho;rw[du _ rfl]at I;refine RH 0 E I hH U λa E=>?_;refine cg E rfl I underlying68 Ty.t4 rfl (by omega) (by omega) λcV a w E I ho=>?_;replace U:=U.trans ho;clear ho;rw[du _ rfl]at I;refine RH 1 E I hH U λa E=>?_;refine gF E rfl I rfl λcR a w E I ho=>?_;replace U:=U.trans ho;clear ho;refine RH 1 E I hH U λa E=>?_;exact⟨b8,cY,bV,cV,cR,E.ab [1,3],I.sub⟩
    refine RH 0 E I hH U λa E=>?_;refine cg E rfl I underlying68 Ty.t4 rfl (by omega) (by omega) λcV a w E I ho=>?_;replace U:=U.trans ho;clear ho;rw[du _ rfl]at I;refine RH 0 E I hH U λa E=>?_;refine cg E rfl I underlying53 Ty.t3 rfl (by omega) (by omega) λb8 a w E I ho=>?_;replace U:=U.trans ho;clear ho;rw[du _ rfl]at I;refine RH 1 E I hH U λa E=>?_;refine gF E rfl I rfl λcR a w E I ho=>?_;replace U:=U.trans ho;clear ho;refine RH 1 E I hH U λa E=>?_;exact⟨b8,cY,bV,cV,cR,E.ab [1,3],I.sub⟩
   refine RH 0 E I hH U λa E=>?_;refine cg E rfl I underlying68 Ty.t4 rfl (by omega) (by omega) λcV a w E I ho=>?_;replace U:=U.trans ho;clear ho;rw[du _ rfl]at I;refine RH 0 E I hH U λa E=>?_;refine DN [(3,[1009,13,1014,15]),(9,[1003,13,1014,15])] (by kernel_rfl) rfl ⟨⟨_,rfl,?_⟩,⟨_,rfl,?_⟩,trivial⟩
   ·
    refine RH 0 E I hH U λa E=>?_;refine cg E rfl I underlying53 Ty.t3 rfl (by omega) (by omega) λb8 a w E I ho=>?_;replace U:=U.trans ho;clear ho;rw[du _ rfl]at I;refine RH 0 E I hH U λa E=>?_;refine cg E rfl I underlying67 Ty.t313 rfl (by omega) (by omega) λbV a w E I ho=>?_;replace U:=U.trans ho;clear ho;rw[lH]at I;refine RH 1 E I hH U λa E=>?_;refine gF E rfl I rfl λcR a w E I ho=>?_;replace U:=U.trans ho;clear ho;refine RH 1 E I hH U λa E=>?_;exact⟨b8,cY,bV,cV,cR,E.ab [1,3],I.sub⟩
   refine RH 0 E I hH U λa E=>?_;refine cg E rfl I underlying67 Ty.t313 rfl (by omega) (by omega) λbV a w E I ho=>?_;replace U:=U.trans ho;clear ho;rw[lH]at I;refine RH 0 E I hH U λa E=>?_;refine cg E rfl I underlying53 Ty.t3 rfl (by omega) (by omega) λb8 a w E I ho=>?_;replace U:=U.trans ho;clear ho;rw[du _ rfl]at I;refine RH 1 E I hH U λa E=>?_;refine gF E rfl I rfl λcR a w E I ho=>?_;replace U:=U.trans ho;clear ho;refine RH 1 E I hH U λa E=>?_;exact⟨b8,cY,bV,cV,cR,E.ab [1,3],I.sub⟩
  ·
   refine RH 0 E I hH U λa E=>?_;refine cg E rfl I underlying67 Ty.t313 rfl (by omega) (by omega) λbV a w E I ho=>?_;replace U:=U.trans ho;clear ho;rw[lH]at I;refine RH 0 E I hH U λa E=>?_;refine DN [(3,[2006,1012,13,1014,15]),(6,[2003,1012,13,1014,15]),(12,[2003,1006,13,1014,15])] (by kernel_rfl) rfl ⟨⟨_,rfl,?_⟩,⟨_,rfl,?_⟩,⟨_,rfl,?_⟩,trivial⟩
   ·
    refine RH 0 E I hH U λa E=>?_;refine cg E rfl I underlying53 Ty.t3 rfl (by omega) (by omega) λb8 a w E I ho=>?_;replace U:=U.trans ho;clear ho;rw[du _ rfl]at I;refine RH 0 E I hH U λa E=>?_;refine DN [(6,[1012,13,1014,15]),(12,[1006,13,1014,15])] (by kernel_rfl) rfl ⟨⟨_,rfl,?_⟩,⟨_,rfl,?_⟩,trivial⟩
    ·
     refine RH 0 E I hH U λa E=>?_;refine cg E rfl I underlying53 Ty.t3 rfl (by omega) (by omega) λcY a w E I ho=>?_;replace U:=U.trans ho;clear ho;rw[du _ rfl]at I;refine RH 0 E I hH U λa E=>?_;refine cg E rfl I underlying68 Ty.t4 rfl (by omega) (by omega) λcV a w E I ho=>?_;replace U:=U.trans ho;clear ho;rw[du _ rfl]at I;refine RH 1 E I hH U λa E=>?_;refine gF E rfl I rfl λcR a w E I ho=>?_;replace U:=U.trans ho;clear ho;refine RH 1 E I hH U λa E=>?_;exact⟨b8,cY,bV,cV,cR,E.ab [1,3],I.sub⟩
    refine RH 0 E I hH U λa E=>?_;refine cg E rfl I underlying68 Ty.t4 rfl (by omega) (by omega) λcV a w E I ho=>?_;replace U:=U.trans ho;clear ho;rw[du _ rfl]at I;refine RH 0 E I hH U λa E=>?_;refine cg E rfl I underlying53 Ty.t3 rfl (by omega) (by omega) λcY a w E I ho=>?_;replace U:=U.trans ho;clear ho;rw[du _ rfl]at I;refine RH 1 E I hH U λa E=>?_;refine gF E rfl I rfl λcR a w E I ho=>?_;replace U:=U.trans ho;clear ho;refine RH 1 E I hH U λa E=>?_;exact⟨b8,cY,bV,cV,cR,E.ab [1,3],I.sub⟩
   ·
    refine RH 0 E I hH U λa E=>?_;refine cg E rfl I underlying53 Ty.t3 rfl (by omega) (by omega) λcY a w E I ho=>?_;replace U:=U.trans ho;clear ho;rw[du _ rfl]at I;refine RH 0 E I hH U λa E=>?_;refine DN [(3,[1012,13,1014,15]),(12,[1003,13,1014,15])] (by kernel_rfl) rfl ⟨⟨_,rfl,?_⟩,⟨_,rfl,?_⟩,trivial⟩
    ·
     refine RH 0 E I hH U λa E=>?_;refine cg E rfl I underlying53 Ty.t3 rfl (by omega) (by omega) λb8 a w E I ho=>?_;replace U:=U.trans ho;clear ho;rw[du _ rfl]at I;refine RH 0 E I hH U λa E=>?_;refine cg E rfl I underlying68 Ty.t4 rfl (by omega) (by omega) λcV a w E I ho=>?_;replace U:=U.trans ho;clear ho;rw[du _ rfl]at I;refine RH 1 E I hH U λa E=>?_;refine gF E rfl I rfl λcR a w E I ho=>?_;replace U:=U.trans ho;clear ho;refine RH 1 E I hH U λa E=>?_;exact⟨b8,cY,bV,cV,cR,E.ab [1,3],I.sub⟩
    refine RH 0 E I hH U λa E=>?_;refine cg E rfl I underlying68 Ty.t4 rfl (by omega) (by omega) λcV a w E I ho=>?_;replace U:=U.trans ho;clear ho;rw[du _ rfl]at I;refine RH 0 E I hH U λa E=>?_;refine cg E rfl I underlying53 Ty.t3 rfl (by omega) (by omega) λb8 a w E I ho=>?_;replace U:=U.trans ho;clear ho;rw[du _ rfl]at I;refine RH 1 E I hH U λa E=>?_;refine gF E rfl I rfl λcR a w E I ho=>?_;replace U:=U.trans ho;clear ho;refine RH 1 E I hH U λa E=>?_;exact⟨b8,cY,bV,cV,cR,E.ab [1,3],I.sub⟩
   refine RH 0 E I hH U λa E=>?_;refine cg E rfl I underlying68 Ty.t4 rfl (by omega) (by omega) λcV a w E I ho=>?_;replace U:=U.trans ho;clear ho;rw[du _ rfl]at I;refine RH 0 E I hH U λa E=>?_;refine DN [(3,[1006,13,1014,15]),(6,[1003,13,1014,15])] (by kernel_rfl) rfl ⟨⟨_,rfl,?_⟩,⟨_,rfl,?_⟩,trivial⟩
   ·
    refine RH 0 E I hH U λa E=>?_;refine cg E rfl I underlying53 Ty.t3 rfl (by omega) (by omega) λb8 a w E I ho=>?_;replace U:=U.trans ho;clear ho;rw[du _ rfl]at I;refine RH 0 E I hH U λa E=>?_;refine cg E rfl I underlying53 Ty.t3 rfl (by omega) (by omega) λcY a w E I ho=>?_;replace U:=U.trans ho;clear ho;rw[du _ rfl]at I;refine RH 1 E I hH U λa E=>?_;refine gF E rfl I rfl λcR a w E I ho=>?_;replace U:=U.trans ho;clear ho;refine RH 1 E I hH U λa E=>?_;exact⟨b8,cY,bV,cV,cR,E.ab [1,3],I.sub⟩
   refine RH 0 E I hH U λa E=>?_;refine cg E rfl I underlying53 Ty.t3 rfl (by omega) (by omega) λcY a w E I ho=>?_;replace U:=U.trans ho;clear ho;rw[du _ rfl]at I;refine RH 0 E I hH U λa E=>?_;refine cg E rfl I underlying53 Ty.t3 rfl (by omega) (by omega) λb8 a w E I ho=>?_;replace U:=U.trans ho;clear ho;rw[du _ rfl]at I;refine RH 1 E I hH U λa E=>?_;refine gF E rfl I rfl λcR a w E I ho=>?_;replace U:=U.trans ho;clear ho;refine RH 1 E I hH U λa E=>?_;exact⟨b8,cY,bV,cV,cR,E.ab [1,3],I.sub⟩
  refine RH 0 E I hH U λa E=>?_;refine cg E rfl I underlying68 Ty.t4 rfl (by omega) (by omega) λcV a w E I ho=>?_;replace U:=U.trans ho;clear ho;rw[du _ rfl]at I;refine RH 0 E I hH U λa E=>?_;refine DN [(3,[2006,1009,13,1014,15]),(6,[2003,1009,13,1014,15]),(9,[2003,1006,13,1014,15])] (by kernel_rfl) rfl ⟨⟨_,rfl,?_⟩,⟨_,rfl,?_⟩,⟨_,rfl,?_⟩,trivial⟩
  ·
   refine RH 0 E I hH U λa E=>?_;refine cg E rfl I underlying53 Ty.t3 rfl (by omega) (by omega) λb8 a w E I ho=>?_;replace U:=U.trans ho;clear ho;rw[du _ rfl]at I;refine RH 0 E I hH U λa E=>?_;refine DN [(6,[1009,13,1014,15]),(9,[1006,13,1014,15])] (by kernel_rfl) rfl ⟨⟨_,rfl,?_⟩,⟨_,rfl,?_⟩,trivial⟩
   ·
    refine RH 0 E I hH U λa E=>?_;refine cg E rfl I underlying53 Ty.t3 rfl (by omega) (by omega) λcY a w E I ho=>?_;replace U:=U.trans ho;clear ho;rw[du _ rfl]at I;refine RH 0 E I hH U λa E=>?_;refine cg E rfl I underlying67 Ty.t313 rfl (by omega) (by omega) λbV a w E I ho=>?_;replace U:=U.trans ho;clear ho;rw[lH]at I;refine RH 1 E I hH U λa E=>?_;refine gF E rfl I rfl λcR a w E I ho=>?_;replace U:=U.trans ho;clear ho;refine RH 1 E I hH U λa E=>?_;exact⟨b8,cY,bV,cV,cR,E.ab [1,3],I.sub⟩
   refine RH 0 E I hH U λa E=>?_;refine cg E rfl I underlying67 Ty.t313 rfl (by omega) (by omega) λbV a w E I ho=>?_;replace U:=U.trans ho;clear ho;rw[lH]at I;refine RH 0 E I hH U λa E=>?_;refine cg E rfl I underlying53 Ty.t3 rfl (by omega) (by omega) λcY a w E I ho=>?_;replace U:=U.trans ho;clear ho;rw[du _ rfl]at I;refine RH 1 E I hH U λa E=>?_;refine gF E rfl I rfl λcR a w E I ho=>?_;replace U:=U.trans ho;clear ho;refine RH 1 E I hH U λa E=>?_;exact⟨b8,cY,bV,cV,cR,E.ab [1,3],I.sub⟩
  ·
   refine RH 0 E I hH U λa E=>?_;refine cg E rfl I underlying53 Ty.t3 rfl (by omega) (by omega) λcY a w E I ho=>?_;replace U:=U.trans ho;clear ho;rw[du _ rfl]at I;refine RH 0 E I hH U λa E=>?_;refine DN [(3,[1009,13,1014,15]),(9,[1003,13,1014,15])] (by kernel_rfl) rfl ⟨⟨_,rfl,?_⟩,⟨_,rfl,?_⟩,trivial⟩
   ·
    refine RH 0 E I hH U λa E=>?_;refine cg E rfl I underlying53 Ty.t3 rfl (by omega) (by omega) λb8 a w E I ho=>?_;replace U:=U.trans ho;clear ho;rw[du _ rfl]at I;refine RH 0 E I hH U λa E=>?_;refine cg E rfl I underlying67 Ty.t313 rfl (by omega) (by omega) λbV a w E I ho=>?_;replace U:=U.trans ho;clear ho;rw[lH]at I;refine RH 1 E I hH U λa E=>?_;refine gF E rfl I rfl λcR a w E I ho=>?_;replace U:=U.trans ho;clear ho;refine RH 1 E I hH U λa E=>?_;exact⟨b8,cY,bV,cV,cR,E.ab [1,3],I.sub⟩
   refine RH 0 E I hH U λa E=>?_;refine cg E rfl I underlying67 Ty.t313 rfl (by omega) (by omega) λbV a w E I ho=>?_;replace U:=U.trans ho;clear ho;rw[lH]at I;refine RH 0 E I hH U λa E=>?_;refine cg E rfl I underlying53 Ty.t3 rfl (by omega) (by omega) λb8 a w E I ho=>?_;replace U:=U.trans ho;clear ho;rw[du _ rfl]at I;refine RH 1 E I hH U λa E=>?_;refine gF E rfl I rfl λcR a w E I ho=>?_;replace U:=U.trans ho;clear ho;refine RH 1 E I hH U λa E=>?_;exact⟨b8,cY,bV,cV,cR,E.ab [1,3],I.sub⟩
  refine RH 0 E I hH U λa E=>?_;refine cg E rfl I underlying67 Ty.t313 rfl (by omega) (by omega) λbV a w E I ho=>?_;replace U:=U.trans ho;clear ho;rw[lH]at I;refine RH 0 E I hH U λa E=>?_;refine DN [(3,[1006,13,1014,15]),(6,[1003,13,1014,15])] (by kernel_rfl) rfl ⟨⟨_,rfl,?_⟩,⟨_,rfl,?_⟩,trivial⟩
  ·
   refine RH 0 E I hH U λa E=>?_;refine cg E rfl I underlying53 Ty.t3 rfl (by omega) (by omega) λb8 a w E I ho=>?_;replace U:=U.trans ho;clear ho;rw[du _ rfl]at I;refine RH 0 E I hH U λa E=>?_;refine cg E rfl I underlying53 Ty.t3 rfl (by omega) (by omega) λcY a w E I ho=>?_;replace U:=U.trans ho;clear ho;rw[du _ rfl]at I;refine RH 1 E I hH U λa E=>?_;refine gF E rfl I rfl λcR a w E I ho=>?_;replace U:=U.trans ho;clear ho;refine RH 1 E I hH U λa E=>?_;exact⟨b8,cY,bV,cV,cR,E.ab [1,3],I.sub⟩
  refine RH 0 E I hH U λa E=>?_;refine cg E rfl I underlying53 Ty.t3 rfl (by omega) (by omega) λcY a w E I ho=>?_;replace U:=U.trans ho;clear ho;rw[du _ rfl]at I;refine RH 0 E I hH U λa E=>?_;refine cg E rfl I underlying53 Ty.t3 rfl (by omega) (by omega) λb8 a w E I ho=>?_;replace U:=U.trans ho;clear ho;rw[du _ rfl]at I;refine RH 1 E I hH U λa E=>?_;refine gF E rfl I rfl λcR a w E I ho=>?_;replace U:=U.trans ho;clear ho;refine RH 1 E I hH U λa E=>?_;exact⟨b8,cY,bV,cV,cR,E.ab [1,3],I.sub⟩
 clear E;(try clear I);rintro a w ⟨b8,cY,bV,cV,cR,E,I⟩;refine RN 3 E I λa E=>?_;replace I:=I.bH 65 1 none;replace I:=V.iG (f:=a7) I;rw[p7]at I;refine aS (λμ a w=>∃ (i:Nat) (xs:List ea) (adL:Option Addr) (cL:Nat),(μ=n-i∧i≤n∧bj xs=List.replicate i (List.replicate aH 0))∧Fr a 48 [(1,pt b1),(3,pt cR),(4,.int .i64 i)]∧V W w (aa cR 72 (yd n me id aH bo ba order cr workers room b8 cY bV cV adL i cL)::Sl 65 1 adL i cL (xs.map aI)::ah a7 xs::aa b8 3 (ints .i64 n (λ_=>0))::aa cY 3 (ints .i64 n (λj=>if j<i then aH else 0))::aa bV 313 (rows (λ_:Pe=>[Value.int .i64 0,.int .u32 0]) (List.replicate n (fw 0)))::aa cV 4 (List.replicate n (.bool false))::aa b1 28 [.int .i64 n,.int .i64 me,.int .i64 id,.int .i64 aH,.int .i64 bo,.int .i64 ba,.int .i64 order,.int .i64 cr,.int .i64 workers,.int .i64 room]::L)) (n) (⟨0,[],none,0,⟨rfl,by omega,rfl⟩,E.ab [1,3,4],(I.sub:V W w (aa cR 72 (yd n me id aH bo ba order cr workers room b8 cY bV cV none 0 0)::Sl 65 1 none 0 0 []::ah a7 []::aa b8 3 (ints .i64 n (λ_=>0))::aa cY 3 (ints .i64 n (λ_=>0))::aa bV 313 (rows (λ_:Pe=>[Value.int .i64 0,.int .u32 0]) (List.replicate n (fw 0)))::aa cV 4 (List.replicate n (.bool false))::aa b1 28 [.int .i64 n,.int .i64 me,.int .i64 id,.int .i64 aH,.int .i64 bo,.int .i64 ba,.int .i64 order,.int .i64 cr,.int .i64 workers,.int .i64 room]::L))⟩) ?_;clear E I;rintro μ a w ⟨i,xs,adL,cL,⟨rfl,hi,a8⟩,E,I⟩;refine IF 6 E I (λaj a E=>?_) λaj a E=>?_
 ·
  refine bL 2 [6,7,8,9] [0,1,2,3,5,3004,1006,1007,1008,1009,1010,11,12,1013] E I λa w E I hH U=>?_;refine RH 7 E I hH U λa E=>?_;refine cg E rfl I underlying22 Ty.t5 rfl (by omega) (by omega) λjS a w E I ho=>?_;replace U:=U.trans ho;clear ho;rw[du _ rfl,Z1]at I;replace I:=I.J0 (m:=aH) (sz:=1) (by rw[dx,j8,Nat.mul_one]);refine RH 1 E I hH U λa E=>?_;refine cm E rfl I underlying66 Ty.t65 rfl rfl rfl rfl (by decide) (by decide) λb35 a w E I ho=>?_;replace U:=U.trans ho;clear ho;refine RH 0 E I hH U λa E=>?_;refine cJ E rfl I underlying66 Ty.t65 rfl rfl I.ai rfl (by simp[Value.oneCell']) (by decide) (by decide) (by omega) λFt Fu a w E I=>?_;rw[show List.map aI xs++_=List.map aI (xs++[(some (⟨jS,0,none⟩:Addr),aH,List.replicate aH 0)]) from by rw[cU,map_singleton,aI,j8];rfl]at I;refine ST 2 E I (λa w E I=>?_);refine RN 0 E I λa E=>?_;refine bL 0 [6] [0,1,2,4,5,3003,1006,7,1008] E I λa w E I hH U=>?_;refine RH 8 E I hH U λa E=>?_;refine ST 0 E I (λa w E I=>?_) (hlt:=(by rw[di];omega));rw[ints_set,wJ (g:=λj=>if j=i then (aH:Int) else if j<i then (aH:Int) else 0) (g':=λj=>if j<i+1 then (aH:Int) else 0) (λj _=>by
   by_cases h1:j=i
   ·subst h1;simp
   ·by_cases h2:j<i
    ·simp[h1,h2,show j<i+1 from by omega]
    ·simp[h1,h2,show ¬ j<i+1 from by omega])]at I
  refine RN 3 E I λa E=>?_;have dy:=V.jB (f:=a7) (x:=(some (⟨jS,0,none⟩:Addr),aH,List.replicate aH 0)) (by
   show V _ _ (Sl 5 1 (some (⟨jS,0,none⟩:Addr)) (List.replicate aH (0:UInt8)).length aH (bc (List.replicate aH 0))::_);rw[j8];exact I.sub (M:=Sl 5 1 (some ⟨jS,0,none⟩) aH aH (bc (List.replicate aH 0))::ah a7 xs::aa cR 72 (yd n me id aH bo ba order cr workers room b8 cY bV cV Ft (i+1) Fu)::Sl 65 1 Ft (i+1) Fu ((xs++[(some (⟨jS,0,none⟩:Addr),aH,List.replicate aH 0)]).map aI)::aa b8 3 (ints .i64 n (λ_=>0))::aa cY 3 (ints .i64 n (λj=>if j<i+1 then (aH:Int) else 0))::aa bV 313 (rows (λ_:Pe=>[Value.int .i64 0,.int .u32 0]) (List.replicate n (fw 0)))::aa cV 4 (List.replicate n (.bool false))::aa b1 28 [.int .i64 n,.int .i64 me,.int .i64 id,.int .i64 aH,.int .i64 bo,.int .i64 ba,.int .i64 order,.int .i64 cr,.int .i64 workers,.int .i64 room]::L))
  exact⟨n-(i+1),by omega,i+1,xs++[(some (⟨jS,0,none⟩:Addr),aH,List.replicate aH 0)],Ft,Fu,⟨rfl,by omega,by rw[bj,cU,← bj,a8,replicate_succ'];rfl⟩,E.ab [1,3,4],dy.sub⟩
 refine RT 3 E I ?_;obtain rfl:i=n:=by omega
 obtain⟨lb,lo,rfl,_⟩:=(I.pick (Sl 65 1 adL i cL (xs.map aI))).bY adL (by omega);rw[wJ (g:=λj=>if j<i then (aH:Int) else 0) (g':=λ_=>(aH:Int)) (λj hj=>by simp[hj])]at I;refine⟨⟨cR,lb,lo,cL,b8,cY,bV,cV⟩,rfl,?_⟩;have ia:(fh ⟨i,me,id,aH,bo,ba,order,cr,workers,room⟩).ls.length=i:=by simp[fh]
 have h9:=I.sub (M:=Sl 65 1 (some ⟨lb,lo,none⟩) i cL (xs.map aI)::ah a7 xs::aa cR 72 (yd i me id aH bo ba order cr workers room b8 cY bV cV (some ⟨lb,lo,none⟩) i cL)::aa b8 3 (ints .i64 i (λ_=>0))::aa cY 3 (ints .i64 i (λ_=>(aH:Int)))::aa bV 313 (rows (λ_:Pe=>[Value.int .i64 0,.int .u32 0]) (List.replicate i (fw 0)))::aa cV 4 (List.replicate i (.bool false))::L);have h8:=bG.close (ls:=List.replicate i (List.replicate aH 0)) (by rw[j8];exact h9) a8;replace h8:=V.bH (V.bH h8 100 1 none) 102 3 none;refine V.shut (M:=[_,_,_,_,_,_,_,_]) (A:=aW _ _) ?_ (λ_ h=>⟨⟨none,0,none,0⟩,h⟩);have gz:(fh ⟨i,me,id,aH,bo,ba,order,cr,workers,room⟩).ps=List.replicate i (fw aH):=by simp[fh]
 rw[cZ,ia,gz,ZX,ZY,ZZ,Z0];exact h8.sub (M:=aa cR 72 (yd i me id aH bo ba order cr workers room b8 cY bV cV (some ⟨lb,lo,none⟩) i cL)::bG lb lo cL (List.replicate i (List.replicate aH 0))::aa b8 3 (ints .i64 i (λ_=>0))::aa cY 3 (ints .i64 i (λ_=>(aH:Int)))::aa bV 313 (rows (λ_:Pe=>[Value.int .i64 0,.int .u32 0]) (List.replicate i (fw 0)))::aa cV 4 (List.replicate i (.bool false))::Sl 100 1 none 0 0 []::Sl 102 3 none 0 0 []::L)
end
section
variable {W w:World}{L L':List SP}{n c m lb lo i f cl:Nat}{ad:Option Addr}{ls:List (List UInt8)}{k:Ks}{A:mo}{B:ou}{x:UInt8}
theorem L3 {fr m aT cq:Nat}{adq:Option Addr}{q:List UInt8}(I:V W w L)(ot:w.cell? ⟨lb,aT,none⟩=some (.slice adq q.length cq))(Z3:q.length≤cq)(pw:∀ w',V W w' L→a6 w' adq q.length q)(hl:q.length≤1000)(hf:fr≤1000)(hk:1≤m∧m≤1000) :
   Calls prog 113 #[.pointer (some ⟨lb,aT,none⟩),.int .i64 fr,.int .i64 m] w λr w'=>∃ av c',r=.returned (.slice av ((q.drop fr).take m).length c')∧V W w' (Sl 5 1 av ((q.drop fr).take m).length c' (bc ((q.drop fr).take m))::L):=by
 refine EN func113 ntmps113 rfl rfl λa E=>?_;refine RN 7 E I λa E=>?_;rw[bq (by omega)]at E;refine RN 4 E I λa E=>?_;refine bz E (cW E rfl (s:=10)) (ag E (ot)) rfl λa E=>?_;refine BY 4 E I (λkA a E=>?_) λkA a E=>?_
 ·
  refine RT 6 E I ?_;have hz:(q.drop fr).take m=[]:=by rw[drop_eq_nil_of_le (by omega),List.take_nil]
  rw[hz];exact⟨none,0,rfl,I.bH _ _ none⟩
 refine RN 3 E I λa E=>?_;rw[bq (by omega)]at E;refine RN 5 E I λa E=>?_;refine SS E (ag E (ot)) λa E=>?_;refine RN 9 E I λa E=>?_;rw[show min (m:Int) ((((q.length-fr:Nat):Int)))=((min m (q.length-fr):Nat):Int) from by omega]at E;refine RN 1 E I λa E=>?_;rw[qw,Nat.sub_zero,Nat.sub_zero]at E;have ye:=((pw _ I).xK (c:=cq) (lo:=fr) (n:=min m (q.length-fr)) (by omega) Z3);have Z4:(q.drop fr).take (min m (q.length-fr))=(q.drop fr).take m:=by rw[List.take_eq_take_iff,c7];omega
 rw[Z4]at ye;have eL:min m (q.length-fr)=((q.drop fr).take m).length:=by rw[en,c7]
 rw[eL]at E ye;replace I:=I.bH 5 1 none;refine gW E rfl I underlying22 Ty.t5 rfl rfl (by decide) (λh0=>ye.get h0) (by rw[dx];omega) (ek _) (by rw[en,c7];omega) λDK DL a w E I=>?_;rw[nil_append,Nat.zero_add]at I;rw[Nat.zero_add]at E;refine RT 1 E I ?_;exact⟨_,_,rfl,I⟩
theorem aW.AE (I:V W w (aW B k::L)):∃ (A:mo) (D:SP),V W w (aa B.cb 72 (cZ k B A)::D::L)∧∀ (w':World) (L':List SP) (nw:Nat) (cl:Bool),V W w' (aa B.cb 72 (cZ { k with now:=nw,cl:=cl } B A)::D::L')→V W w' (aW B { k with now:=nw,cl:=cl }::L'):=by
 obtain⟨A,I⟩:=aW.open I;have h1:V W w ([bG B.lb B.lo B.cL k.ls,aa B.hb 3 (e5 k.ps),aa B.dW 3 (eQ k.ps),aa B.wb 313 (rows e7 k.ps),aa B.xb 4 (e6 k.ps),Sl 100 1 A.cj k.mr.length A.cM (c6 k.mr),Sl 102 3 A.adE k.ev.length A.cE (rows bS k.ev)]++(aa B.cb 72 (cZ k B A)::L)):=I.sub (M:=bG B.lb B.lo B.cL k.ls::aa B.hb 3 (e5 k.ps)::aa B.dW 3 (eQ k.ps)::aa B.wb 313 (rows e7 k.ps)::aa B.xb 4 (e6 k.ps)::Sl 100 1 A.cj k.mr.length A.cM (c6 k.mr)::Sl 102 3 A.adE k.ev.length A.cE (rows bS k.ev)::aa B.cb 72 (cZ k B A)::L);refine⟨A,λh=>ck [bG B.lb B.lo B.cL k.ls,aa B.hb 3 (e5 k.ps),aa B.dW 3 (eQ k.ps),aa B.wb 313 (rows e7 k.ps),aa B.xb 4 (e6 k.ps),Sl 100 1 A.cj k.mr.length A.cM (c6 k.mr),Sl 102 3 A.adE k.ev.length A.cE (rows bS k.ev)] h,?_,λw' L' nw cl I=>?_⟩
 ·exact (V.shut (A:=λh=>ck [bG B.lb B.lo B.cL k.ls,aa B.hb 3 (e5 k.ps),aa B.dW 3 (eQ k.ps),aa B.wb 313 (rows e7 k.ps),aa B.xb 4 (e6 k.ps),Sl 100 1 A.cj k.mr.length A.cM (c6 k.mr),Sl 102 3 A.adE k.ev.length A.cE (rows bS k.ev)] h) h1 λ_ h=>h).perm (List.Perm.swap _ _ _)
 ·have h2:V W w' (bG B.lb B.lo B.cL k.ls::aa B.hb 3 (e5 k.ps)::aa B.dW 3 (eQ k.ps)::aa B.wb 313 (rows e7 k.ps)::aa B.xb 4 (e6 k.ps)::Sl 100 1 A.cj k.mr.length A.cM (c6 k.mr)::Sl 102 3 A.adE k.ev.length A.cE (rows bS k.ev)::aa B.cb 72 (cZ { k with now:=nw,cl:=cl } B A)::L'):=(I.perm (List.Perm.swap _ _ _)).open (M:=[_,_,_,_,_,_,_]) λ_ h=>h;exact aW.fold h2 B { k with now:=nw,cl:=cl } A
def wa (k:Ks)(i:Nat):List Ml:=(kM k i).map λj=>(k.me,j,aR (ig k j))
def we (k:Ks)(i:Nat):List Ml:=(kM k i).map λj=>(k.me,j,aR (dS k j))
theorem Z5 (I:V W w (aW B k::L))(hk:WC k):Calls prog 74 #[pt B.cb] w λr w'=>∃ ad c,r=.returned (.slice ad (cu k).1.length c)∧V W w' (cv 60 ad (cu k).1.length c (cu k).1::aW B (cu k).2::L):=by
 have hn:=hk.n;obtain⟨A,D,I,hD⟩:=aW.AE I;refine EN func74 ntmps74 rfl rfl λa E=>?_;refine IF 8 E I (λaj a E=>?_) λaj a E=>?_
 ·
  refine RT 2 E I ?_;refine⟨none,0,by rw[cu,al aj];rfl,?_⟩;rw[cu,al aj];exact cv.nil (hD _ _ k.now k.cl I)
 refine RN 5 E I λa E=>?_;have hq:cu k=((bB k).map λi=>(k.me,i,aR (ig k i)),{ k with cl:=true }):=by rw[cu,ae (by rw[aj];decide)]
 replace I:=V.bH (V.iG (f:=bX) I) 60 3 none;refine aS (λμ a w=>∃ (i:Nat) (xs:List Mx) (ad:Option Addr) (c:Nat),(μ=k.n-i∧i≤k.n∧xs.map (·.2.2)=wa k i∧xs.length≤i)∧Fr a 52 [(0,pt B.cb),(3,.slice ad xs.length c),(4,.int .i64 i)]∧V W w (Sl 60 3 ad xs.length c (rows bW xs)::ah bX xs::aa B.cb 72 (cZ k B A)::D::L)) (k.n) (⟨0,[],none,0,⟨rfl,by omega,rfl,bh _⟩,E.ab [0,3,4],I⟩) ?_;clear E I;rintro μ a w ⟨i,xs,ad,c,⟨rfl,hi,eG,ch⟩,E,I⟩;refine IF 9 E I (λan a E=>?_) λan a E=>?_
 ·
  have lf:wa k (i+1)=if i=k.me then wa k i else wa k i++[(k.me,i,aR (ig k i))]:=by
   rw[wa,Eu];split
   ·rfl
   ·rw[cU];rfl
  refine IF 9 E I (λay a E=>?_) λay a E=>?_
  ·
   rw[ae (by omega)]at lf;refine aY 0 (λw0 w'=>Rd w' B.cb 0 (cZ k B A)) [11,17,18,19] [0,1,2,3,4,6,7,8,9,10,12,13,14,15,16,3005,3011,1017,1018,1019,20,1021,1022,23] E I λa w E I hH=>?_;have U:=hH.at w (I.ai (b:=B.cb));refine RH 15 E I hH U λa E=>?_;refine QH E (λw hc=>ag E (hc 1 _ rfl)) U λa E=>?_;refine QH E (λw hc=>ag E (hc 1 _ rfl)) U λa E=>?_;refine RH 0 E I hH U λa E=>?_;refine SS E (ag E (U 2 _ rfl)) λa E=>?_;refine RH 1 E I hH U λa E=>?_;refine a2 0 E I (D0 (p:=ig k i) (ad:=none) (c:=0) I (by show 0<4294967296;decide) (λw' hw=>a6.nil)) λad2 c2 a w E I=>?_;replace U:=hH.at w (I.ai (b:=B.cb));refine RH 1 E I hH U λa E=>?_;refine cm E rfl I underlying37 Ty.t60 rfl rfl rfl rfl (by decide) (by decide) λb46 a w E I ho=>?_;clear ho;refine RN 0 E I λa E=>?_;refine cJ E rfl I underlying37 Ty.t60 rfl rfl I.ai rfl (by simp[Value.oneCell']) (by decide) (by decide) (by omega) λpd qX a w E I=>?_;rw[show rows bW xs++_=rows bW (xs++[(ad2,c2,(k.me,i,aR (ig k i)))]) from by rw[j5];rfl,show xs.length+1=(xs++[(ad2,c2,(k.me,i,aR (ig k i)))]).length from by simp]at I;rw[show xs.length+1=(xs++[(ad2,c2,(k.me,i,aR (ig k i)))]).length from by simp]at E;refine RN 1 E I λa E=>?_;refine RN 3 E I λa E=>?_;have dy:=V.jB (f:=bX) (x:=(ad2,c2,(k.me,i,aR (ig k i)))) (I.sub (M:=Sl 5 1 ad2 (aR (ig k i)).length c2 (bc (aR (ig k i)))::ah bX xs::Sl 60 3 pd (xs++[(ad2,c2,(k.me,i,aR (ig k i)))]).length qX (rows bW (xs++[(ad2,c2,(k.me,i,aR (ig k i)))]))::aa B.cb 72 (cZ k B A)::D::L));exact⟨k.n-(i+1),by omega,i+1,xs++[(ad2,c2,(k.me,i,aR (ig k i)))],pd,qX,⟨rfl,by omega,by rw[cU,eG,lf];rfl,by rw[aK];simp;omega⟩,E.ab [0,3,4],dy.sub⟩
  rw[al (by omega)]at lf;refine RN 3 E I λa E=>?_;exact⟨k.n-(i+1),by omega,i+1,xs,ad,c,⟨rfl,by omega,by rw[lf,eG],by omega⟩,E.ab [0,3,4],I⟩
 obtain rfl:i=k.n:=by omega
 refine ST 4 E I (λa w E I=>?_);refine RT 3 E I ?_;have ia:xs.length=((bB k).map λi=>(k.me,i,aR (ig k i))).length:=by
  have h1:(xs.map (·.2.2)).length=(wa k k.n).length:=by rw[eG]
  rw[bf]at h1;exact h1
 rw[hq];refine⟨ad,c,by rw[ia],?_⟩;rw[ia]at I;have h5:=hD _ _ k.now true (I.sub (M:=aa B.cb 72 (cZ { k with now:=k.now,cl:=true } B A)::D::Sl 60 3 ad ((bB k).map λi=>(k.me,i,aR (ig k i))).length c (rows bW xs)::ah bX xs::L));exact cv.close (xs:=xs) h5.sub eG rfl
theorem Z6 {k:Ks}{i:Nat}(h1:∀ j,j<i→j≠k.me→¬ jd k j)(hi:i<k.n)(hm:i≠k.me)(hl:jd k i):(bB k).find? (λi=>decide (jd k i))=some i:=by
 rw[bB,List.find?_filter,List.find?_range_eq_some];refine⟨by simp[hm,hl],by simpa using hi,λj hj=>?_⟩;by_cases uf:j=k.me
 ·simp[uf]
 ·simp[h1 j hj uf]
theorem Z7 {k:Ks}(h1:∀ j,j<k.n→j≠k.me→¬ jd k j):(bB k).find? (λi=>decide (jd k i))=none :=
 KD λj hj=>bq (h1 j (vK.1 hj).1 (vK.1 hj).2)
set_option maxHeartbeats 2000000 in
theorem Z8 (I:V W w (aW B k::L))(hk:WC k)(oI:k.now≤1000000):Calls prog 73 #[pt B.cb] w λr w'=>∃ ad c,r=.returned (.slice ad (bm k).1.length c)∧V W w' (cv 60 ad (bm k).1.length c (bm k).1::aW B (bm k).2::L):=by
 have hn:=hk.n;obtain⟨A0,D,I,hD⟩:=aW.AE I;refine EN func73 ntmps73 rfl rfl λa E=>?_;refine IF 8 E I (λaj a E=>?_) λaj a E=>?_
 ·
  refine RT 2 E I ?_;refine⟨none,0,by rw[bm,al aj];rfl,?_⟩;rw[bm,al aj];exact cv.nil (hD _ _ k.now k.cl I)
 have hY:bm k=(match (bB { k with now:=k.now+1 }).find? (λi=>decide (jd { k with now:=k.now+1 } i)) with
  | some i=>([],{ ({ k with now:=k.now+1 }:Ks) with ev:=({ k with now:=k.now+1 }:Ks).ev++[(2,i,0)],cl:=true })
  | none=>((bB { k with now:=k.now+1 }).map λi=>(({ k with now:=k.now+1 }:Ks).me,i,aR (dS { k with now:=k.now+1 } i)),{ k with now:=k.now+1 })):=by rw[bm,ae (by rw[aj];decide)];rfl
 refine RN 6 E I λa E=>?_;rw[show ((k.now:Nat):Int)+1=((k.now+1:Nat):Int) from by omega]at E;refine ST 2 E I (λa w E I=>?_);refine RN 0 E I λa E=>?_;replace I:=hD _ _ (k.now+1) k.cl I;clear hD;have eT:WC { k with now:=k.now+1 }:=hk.Ac;have pn:=hk.kK;have Ez:({ k with now:=k.now+1 }:Ks).now≤1000001:=by show k.now+1≤_;omega
 have EA:({ k with now:=k.now+1 }:Ks).ev.length≤9:=pn;have EB:2≤({ k with now:=k.now+1 }:Ks).n∧({ k with now:=k.now+1 }:Ks).n≤8:=hn;have Z9:({ k with now:=k.now+1 }:Ks).cl=false:=aj;replace I:V W w (aW B { k with now:=k.now+1 }::L):=I;generalize ({ k with now:=k.now+1 }:Ks)=k1 at I eT hY Ez EA EB Z9;obtain⟨A,I⟩:=aW.open I;refine RN 3 E I λa E=>?_;refine aS (λμ a w=>∃ (i:Nat),(μ=k1.n-i∧i≤k1.n∧∀ j,j<i→j≠k1.me→¬ jd k1 j)∧Fr a 154 [(0,pt B.cb),(3,.int .i64 i)]∧V W w (aa B.cb 72 (cZ k1 B A)::bG B.lb B.lo B.cL k1.ls::aa B.hb 3 (e5 k1.ps)::aa B.dW 3 (eQ k1.ps)::aa B.wb 313 (rows e7 k1.ps)::aa B.xb 4 (e6 k1.ps)::Sl 100 1 A.cj k1.mr.length A.cM (c6 k1.mr)::Sl 102 3 A.adE k1.ev.length A.cE (rows bS k1.ev)::L)) (k1.n) (⟨0,⟨rfl,by omega,λj hj=>by omega⟩,E.ab [0,3],I⟩) ?_;clear E I;rintro μ a w ⟨i,⟨rfl,hi,bQ⟩,E,I⟩;refine IF 9 E I (λan a E=>?_) λan a E=>?_
 ·
  have cD:i<k1.n:=by omega
  have aJ:i<k1.ps.length:=by rw[eT.ps];exact cD
  have ij:=eT.pg cD;have eZ:=tZ aJ;refine bL 2 [15,17,18] [0,1,2,3,4,1005,6,7,8,9,10,12,13,14,16,3011,1015,1017,1018,19,20,21] E I λa w E I hH U=>?_;have js:Rd w B.cb 0 (cZ k1 B A):=I.ai (b:=B.cb);have hrh:=I.bu (b:=B.hb) (ZL eZ);refine RH 5 E I hH U λa E=>?_;refine SS E (ag E (js 1 _ rfl)) λa E=>?_;refine RH 2 E I hH U λa E=>?_;refine E.by (s:=34) (λjr E=>?_) (λjr E=>?_)
  ·
   refine RH 7 E I hH U λa E=>?_;refine QH E (λw hc=>ag E (hc.cell (js 11 _ rfl))) U λa E=>?_;refine RH 0 E I hH U λa E=>?_;refine bz E (cW E rfl (s:=34)) (ag E (js 12 _ rfl)) rfl λa E=>?_;refine RH 1 E I hH U λa E=>?_;refine bz E (cW E rfl (s:=34)) (ag E (hrh)) rfl λa E=>?_;refine RH 3 E I hH U λa E=>?_;refine IF 0 E I (λay a E=>?_) λay a E=>?_
   ·
    have hlt:jd k1 i:=by rw[jd];omega
    rw[Z6 bQ cD (by omega) hlt]at hY;replace I:=aW.fold I B k1 A;refine CL 3 E I (Fp (kd:=2) (pl:=i) (fr:=0) I (by omega)) λa w E I=>?_;refine RN 1 E I λa E=>?_;obtain⟨A2,Pn,I,hD2⟩:=aW.AE I;refine ST 3 E I (λa w E I=>?_);refine RN 0 E I λa E=>?_;replace I:=hD2 _ _ k1.now true I;refine RT 2 E I ?_;rw[hY];exact⟨none,0,rfl,cv.nil I⟩
   refine RN 3 E I λa E=>?_;exact⟨k1.n-(i+1),by omega,i+1,⟨rfl,by omega,λj hj uf=>by
    by_cases h:j=i
    ·subst h;rw[jd];omega
    ·exact bQ j (by omega) uf⟩,E.ab [0,3],I⟩
  refine RH 14 E I hH U λa E=>?_;refine RN 4 E I λa E=>?_;exact⟨k1.n-(i+1),by omega,i+1,⟨rfl,by omega,λj hj uf=>by
   by_cases h:j=i
   ·omega
   ·exact bQ j (by omega) uf⟩,E.ab [0,3],I⟩
 obtain rfl:i=k1.n:=by omega
 rw[Z7 bQ]at hY;clear bQ;have Ky:=eT.mr;have eA:k1.me<k1.ls.length:=by rw[eT.ls];exact eT.me
 obtain⟨xs,a8,I⟩:=bG.open (I.pick (bG B.lb B.lo B.cL k1.ls));have ch:xs.length=k1.ls.length:=by rw[← a8,gM]
 obtain⟨y,hy⟩:∃ y,xs[k1.me]?=some y:=⟨_,aO (by omega)⟩;have uj:k1.ls.getD k1.me []=y.2.2:=by rw[← a8,sT hy]
 have jY:y.2.2.length≤1000:=by rw[← uj];exact eT.lG
 have om:y.2.2.length≤y.2.1:=by
  obtain⟨yb,x8⟩:=a1.1 hy;have h1:=((I.pick (ah a7 xs)).fE yb);rw[x8]at h1;have h2:V W w (Sl 5 1 y.1 y.2.2.length y.2.1 (bc y.2.2)::_):=h1;exact (h2.sl y.1).2
 refine RN 5 E I λa E=>?_;replace I:=V.bH (V.iG (f:=bX) I) 60 3 none;refine aS (λμ a w=>∃ (i:Nat) (zs:List Mx) (ad:Option Addr) (c:Nat),(μ=k1.n-i∧i≤k1.n∧zs.map (·.2.2)=we k1 i∧zs.length≤i)∧Fr a 154 [(0,pt B.cb),(4,.slice ad zs.length c),(5,.int .i64 i)]∧V W w (Sl 60 3 ad zs.length c (rows bW zs)::ah bX zs::aa B.cb 72 (cZ k1 B A)::Sl 65 1 (some ⟨B.lb,B.lo,none⟩) k1.ls.length B.cL (xs.map aI)::ah a7 xs::aa B.hb 3 (e5 k1.ps)::aa B.dW 3 (eQ k1.ps)::aa B.wb 313 (rows e7 k1.ps)::aa B.xb 4 (e6 k1.ps)::Sl 100 1 A.cj k1.mr.length A.cM (c6 k1.mr)::Sl 102 3 A.adE k1.ev.length A.cE (rows bS k1.ev)::L)) (k1.n) (⟨0,[],none,0,⟨(Nat.sub_zero _).symm,Nat.zero_le _,rfl,bh _⟩,E.ab [0,4,5],(show V W w (Sl 60 3 none ([]:List Mx).length 0 (rows bW [])::ah bX []::_) from I).sub⟩) ?_;clear E I;rintro μ a w ⟨i,zs,ad,c,⟨rfl,hi,qe,iR⟩,E,I⟩;refine IF 9 E I (λbg a E=>?_) λbg a E=>?_
 ·
  have lf:we k1 (i+1)=if i=k1.me then we k1 i else we k1 i++[(k1.me,i,aR (dS k1 i))]:=by
   rw[we,Eu];split
   ·rfl
   ·rw[cU];rfl
  have cD:i<k1.n:=by omega
  have aJ:i<k1.ps.length:=by rw[eT.ps];exact cD
  have ij:=eT.pg cD;have eZ:=tZ aJ;obtain⟨z,hz⟩:∃ z,xs[i]?=some z:=⟨_,aO (by rw[ch,eT.ls];exact cD)⟩;have hzq:k1.ls.getD i []=z.2.2:=by rw[← a8,sT hz]
  refine IF 10 E I (λbM a E=>?_) λbM a E=>?_
  ·
   rw[al (by omega)]at lf;refine RN 3 E I λa E=>?_;exact⟨k1.n-(i+1),by omega,i+1,zs,ad,c,⟨rfl,by omega,by rw[lf,qe],by omega⟩,E.ab [0,4,5],I⟩
  rw[ae (by omega)]at lf;refine RN 0 E I λa E=>?_;refine bZ (M:=λa w=>∃ (cG:Nat) (c0:Option Addr) (dQ:Nat),Fr a 154 [(0,pt B.cb),(4,.slice ad zs.length c),(5,.int .i64 i),(6,pt cG)]∧V W w (aa cG 203 [.int .i64 1,.int .i64 k1.me,.int .i64 i,.int .i64 k1.id,.int .i64 (au k1 i).has,.slice c0 ((y.2.2.drop (au k1 i).has).take 32).length dQ,.int .i64 z.2.2.length,.int .i64 k1.mr.length,.int .u32 0]::Sl 5 1 c0 ((y.2.2.drop (au k1 i).has).take 32).length dQ (bc ((y.2.2.drop (au k1 i).has).take 32))::Sl 60 3 ad zs.length c (rows bW zs)::ah bX zs::aa B.cb 72 (cZ k1 B A)::Sl 65 1 (some ⟨B.lb,B.lo,none⟩) k1.ls.length B.cL (xs.map aI)::ah a7 xs::aa B.hb 3 (e5 k1.ps)::aa B.dW 3 (eQ k1.ps)::aa B.wb 313 (rows e7 k1.ps)::aa B.xb 4 (e6 k1.ps)::Sl 100 1 A.cj k1.mr.length A.cM (c6 k1.mr)::Sl 102 3 A.adE k1.ev.length A.cE (rows bS k1.ev)::L)) ?_ ?_
  ·
   refine aY 0 (λw0 w'=>Rd w' B.cb 0 (cZ k1 B A)∧w'.cell? ⟨B.dW,i,none⟩=some (.int .i64 (au k1 i).has)∧Rd w' B.lb B.lo (xs.map aI)) [10,14,16,17,21,26,27,31,33,34,35,39,41,42,43,44,48,49,51] [0,1,2,3,5,6,7,8,9,11,12,13,15,18,19,20,22,23,24,25,28,29,30,32,36,37,38,40,45,46,47,3004,3010,3014,3016,3017,3021,3026,3027,3031,3033,3034,3039,3041,3042,3043,3044,3048,3049,2035,50,1051,1052] E I λa w E I hH=>?_;have U:=hH.at w ⟨I.ai (b:=B.cb),I.bu (b:=B.dW) (vZ eZ),I.cX B.lb B.lo (by omega)⟩;refine RH 31 E I hH U λa E=>?_;refine QH E (λw hc=>ag E (hc.1 1 _ rfl)) U λa E=>?_;refine QH E (λw hc=>ag E (hc.1 2 _ rfl)) U λa E=>?_;refine QH E (λw hc=>ag E (hc.1 13 _ rfl)) U λa E=>?_;refine RH 1 E I hH U λa E=>?_;refine QH E (λw hc=>ag E (hc.2.1)) U λa E=>?_;refine QH E (λw hc=>ag E (hc.1 10 _ rfl)) U λa E=>?_;refine QH E (λw hc=>ag E (hc.1 1 _ rfl)) U λa E=>?_;refine RH 1 E I hH U λa E=>?_;refine QH E (λw hc=>ag E (hc.1 13 _ rfl)) U λa E=>?_;refine RH 1 E I hH U λa E=>?_;refine QH E (λw hc=>ag E (hc.2.1)) U λa E=>?_;refine QH E (λw hc=>ag E (hc.1 10 _ rfl)) U λa E=>?_;refine QH E (λw hc=>GH E underlying66 Ty.t65 (by rw[eT.ls];exact cD)) U λa E=>?_;rw[Nat.mul_one]at E;refine RH 1 E I hH U λa E=>?_;refine QH E (λw hc=>ag E (hc.2.2 i (aI z) (by rw[bn,hz];rfl))) U λa E=>?_;rw[aI]at E;refine RH 1 E I hH U λa E=>?_;refine QH E (λw hc=>ag E (hc.1 16 _ rfl)) U λa E=>?_;refine RH 1 E I hH U λa E=>?_;refine DN [(35,[50,1051,1052]),(51,[1035,50,1052])] (by kernel_rfl) rfl ⟨⟨_,rfl,?_⟩,⟨_,rfl,?_⟩,trivial⟩
   ·
    refine RH 0 E I hH U λa E=>?_;refine a2 0 E I (L3 (q:=y.2.2) (adq:=y.1) (cq:=y.2.1) (m:=32) I (by have h9:=U.2.2 k1.me (aI y) (by rw[bn,hy];rfl);exact h9) om (λw' hw=>(V.ov (hw.sub (M:=Sl 65 1 (some ⟨B.lb,B.lo,none⟩) k1.ls.length B.cL (xs.map aI)::ah a7 xs::[]))).2 y (bE hy)) jY ij.1 (by decide)) λc0 dQ a w E I=>?_;replace U:=hH.at w ⟨I.ai (b:=B.cb),I.bu (b:=B.dW) (vZ eZ),I.cX B.lb B.lo (by omega)⟩;refine RH 1 E I hH U λa E=>?_;refine eS E rfl I Ty.t203 rfl λcG a w E I ho=>?_;clear ho;replace U:=hH.at w ⟨I.ai (b:=B.cb),I.bu (b:=B.dW) (vZ eZ),I.cX B.lb B.lo (by omega)⟩;refine RH 0 E I hH U λa E=>?_;refine SA 0 E I λa w E I=>?_;refine RN 0 E I λa E=>?_;exact⟨cG,c0,dQ,E.ab [0,4,5,6],I.sub⟩
   refine RH 0 E I hH U λa E=>?_;refine eS E rfl I Ty.t203 rfl λcG a w E I ho=>?_;clear ho;replace U:=hH.at w ⟨I.ai (b:=B.cb),I.bu (b:=B.dW) (vZ eZ),I.cX B.lb B.lo (by omega)⟩;refine RH 0 E I hH U λa E=>?_;refine a2 0 E I (L3 (q:=y.2.2) (adq:=y.1) (cq:=y.2.1) (m:=32) I (by have h9:=U.2.2 k1.me (aI y) (by rw[bn,hy];rfl);exact h9) om (λw' hw=>(V.ov (hw.sub (M:=Sl 65 1 (some ⟨B.lb,B.lo,none⟩) k1.ls.length B.cL (xs.map aI)::ah a7 xs::[]))).2 y (bE hy)) jY ij.1 (by decide)) λc0 dQ a w E I=>?_;replace U:=hH.at w ⟨I.ai (b:=B.cb),I.bu (b:=B.dW) (vZ eZ),I.cX B.lb B.lo (by omega)⟩;refine RH 1 E I hH U λa E=>?_;refine SA 0 E I λa w E I=>?_;refine RN 0 E I λa E=>?_;exact⟨cG,c0,dQ,E.ab [0,4,5,6],I.sub⟩
  clear E;(try clear I);rintro a w ⟨cG,c0,dQ,E,I⟩;refine bZ (M:=λa w=>Fr a 154 [(0,pt B.cb),(4,.slice ad zs.length c),(5,.int .i64 i),(6,pt cG)]∧V W w (aa cG 203 [.int .i64 1,.int .i64 k1.me,.int .i64 i,.int .i64 k1.id,.int .i64 (au k1 i).has,.slice c0 ((y.2.2.drop (au k1 i).has).take 32).length dQ,.int .i64 z.2.2.length,.int .i64 k1.mr.length,.int .u32 (k1.mr.getLastD 0:Nat)]::Sl 5 1 c0 ((y.2.2.drop (au k1 i).has).take 32).length dQ (bc ((y.2.2.drop (au k1 i).has).take 32))::Sl 60 3 ad zs.length c (rows bW zs)::ah bX zs::aa B.cb 72 (cZ k1 B A)::Sl 65 1 (some ⟨B.lb,B.lo,none⟩) k1.ls.length B.cL (xs.map aI)::ah a7 xs::aa B.hb 3 (e5 k1.ps)::aa B.dW 3 (eQ k1.ps)::aa B.wb 313 (rows e7 k1.ps)::aa B.xb 4 (e6 k1.ps)::Sl 100 1 A.cj k1.mr.length A.cM (c6 k1.mr)::Sl 102 3 A.adE k1.ev.length A.cE (rows bS k1.ev)::L)) ?_ ?_
  ·
   refine IF 7 E I (λeP a E=>?_) λeP a E=>?_
   ·
    refine bL 0 [7,8,9] [0,1,2,4,5,6,3003,1007,1008,1009,10,1011,12,1013] E I λa w E I hH U=>?_;obtain⟨Er,Es,Ey,ld⟩:=((I).pick (Sl 100 1 A.cj k1.mr.length A.cM (c6 k1.mr))).bY A.cj (by omega);have js:w.cell? ⟨B.cb,16,none⟩=some (.slice A.cj k1.mr.length A.cM):=I.bu (b:=B.cb) rfl;rw[Ey]at js;refine RH 6 E I hH U λa E=>?_;refine QH E (λw hc=>ag E (hc.cell (js))) U λa E=>?_;refine RH 0 E I hH U λa E=>?_;refine SS E (ag E (js)) λa E=>?_;refine RH 2 E I hH U λa E=>?_;rw[show ((k1.mr.length:Nat):Int)-1=((k1.mr.length-1:Nat):Int) from by omega]at E;refine RH 1 E I hH U λa E=>?_;refine SS E (ag E (ld (k1.mr.length-1) _ (Af (by omega)))) λa E=>?_;refine RH 1 E I hH U λa E=>?_;refine ST 0 E I (λa w E I=>?_);refine RN 0 E I λa E=>?_;rw[Kw (by omega)]at I;exact⟨E.ab [0,4,5,6],I.sub⟩
   refine RN 0 E I λa E=>?_;have h0:k1.mr.getLastD 0=0:=by rw[g6 (l:=k1.mr) (by omega)];rfl
   exact⟨E.ab [0,4,5,6],by rw[h0];exact I⟩
  clear E;(try clear I);rintro a w ⟨E,I⟩;refine RN 0 E I λa E=>?_;have hmp:dM (dS k1 i) c0 dQ=[.int .i64 1,.int .i64 k1.me,.int .i64 i,.int .i64 k1.id,.int .i64 (au k1 i).has,.slice c0 ((y.2.2.drop (au k1 i).has).take 32).length dQ,.int .i64 z.2.2.length,.int .i64 k1.mr.length,.int .u32 (k1.mr.getLastD 0:Nat)]:=by
   rw[← uj,← hzq];rfl
  have aaa:(dS k1 i).ak=(y.2.2.drop (au k1 i).has).take 32:=by rw[← uj];rfl
  rw[← hmp]at I;refine aY 0 (λw0 w'=>Rd w' B.cb 0 (cZ k1 B A)∧Rd w' cG 0 (dM (dS k1 i) c0 dQ)) [7,8] [0,1,2,3,4,6,3005,1007,1008,9,1010,1011,12] E I λa w E I hH=>?_;have U:=hH.at w ⟨I.ai (b:=B.cb),I.ai (b:=cG)⟩;refine RH 6 E I hH U λa E=>?_;refine QH E (λw hc=>ag E (hc.1 1 _ rfl)) U λa E=>?_;refine RH 0 E I hH U λa E=>?_;refine SS E (bO E underlying203 rfl Ty.t203 (U.2)) λa E=>?_;refine RH 0 E I hH U λa E=>?_;refine a2 0 E I (D0 (p:=dS k1 i) (ad:=c0) (c:=dQ) I (by
   show k1.mr.getLastD 0<4294967296;rw[getLastD_eq_getLast?];cases hl:k1.mr.getLast? with
   | none=>decide
   | some s=>exact eT.q4 s (List.mem_of_getLast? hl)) (λw' hw=>by
   have h9:=(hw.pick (Sl 5 1 c0 ((y.2.2.drop (au k1 i).has).take 32).length dQ (bc ((y.2.2.drop (au k1 i).has).take 32)))).cF c0 _ rfl rfl;rw[aaa];exact h9)) λad2 c2 a w E I=>?_
  replace U:=hH.at w ⟨I.ai (b:=B.cb),I.ai (b:=cG)⟩;refine RH 1 E I hH U λa E=>?_;refine cm E rfl I underlying37 Ty.t60 rfl rfl rfl rfl (by decide) (by decide) λaep a w E I ho=>?_;clear ho;refine RN 0 E I λa E=>?_;refine cJ E rfl I underlying37 Ty.t60 rfl rfl I.ai rfl (by simp[Value.oneCell']) (by decide) (by decide) (by omega) λL5 L6 a w E I=>?_;rw[show rows bW zs++_=rows bW (zs++[(ad2,c2,(k1.me,i,aR (dS k1 i)))]) from by rw[j5];rfl,show zs.length+1=(zs++[(ad2,c2,(k1.me,i,aR (dS k1 i)))]).length from by simp]at I;rw[show zs.length+1=(zs++[(ad2,c2,(k1.me,i,aR (dS k1 i)))]).length from by simp]at E;refine RN 1 E I λa E=>?_;refine RN 3 E I λa E=>?_;have dy:=V.jB (f:=bX) (x:=(ad2,c2,(k1.me,i,aR (dS k1 i)))) (I.sub (M:=Sl 5 1 ad2 (aR (dS k1 i)).length c2 (bc (aR (dS k1 i)))::ah bX zs::Sl 60 3 L5 (zs++[(ad2,c2,(k1.me,i,aR (dS k1 i)))]).length L6 (rows bW (zs++[(ad2,c2,(k1.me,i,aR (dS k1 i)))]))::aa B.cb 72 (cZ k1 B A)::Sl 65 1 (some ⟨B.lb,B.lo,none⟩) k1.ls.length B.cL (xs.map aI)::ah a7 xs::aa B.hb 3 (e5 k1.ps)::aa B.dW 3 (eQ k1.ps)::aa B.wb 313 (rows e7 k1.ps)::aa B.xb 4 (e6 k1.ps)::Sl 100 1 A.cj k1.mr.length A.cM (c6 k1.mr)::Sl 102 3 A.adE k1.ev.length A.cE (rows bS k1.ev)::L));exact⟨k1.n-(i+1),by omega,i+1,zs++[(ad2,c2,(k1.me,i,aR (dS k1 i)))],L5,L6,⟨rfl,by omega,by rw[cU,qe,lf];rfl,by rw[aK];simp;omega⟩,E.ab [0,4,5],dy.sub⟩
 obtain rfl:i=k1.n:=by omega
 refine RT 3 E I ?_;have ia:zs.length=((bB k1).map λi=>(k1.me,i,aR (dS k1 i))).length:=by
  have h1:(zs.map (·.2.2)).length=(we k1 k1.n).length:=by rw[qe]
  rw[bf]at h1;exact h1
 rw[hY];refine⟨ad,c,by rw[ia],?_⟩;rw[ia]at I;have h4:=bG.close (xs:=xs) (ls:=k1.ls) (lb:=B.lb) (lo:=B.lo) (c:=B.cL) (W:=W) (w:=w) (L:=Sl 60 3 ad ((bB k1).map λi=>(k1.me,i,aR (dS k1 i))).length c (rows bW zs)::ah bX zs::aa B.cb 72 (cZ k1 B A)::aa B.hb 3 (e5 k1.ps)::aa B.dW 3 (eQ k1.ps)::aa B.wb 313 (rows e7 k1.ps)::aa B.xb 4 (e6 k1.ps)::Sl 100 1 A.cj k1.mr.length A.cM (c6 k1.mr)::Sl 102 3 A.adE k1.ev.length A.cE (rows bS k1.ev)::L) I.sub a8;have h5:=(aW.fold h4 B k1 A);exact cv.close (xs:=zs) h5.sub qe rfl
end
section
variable {W w:World}{L R:List SP}{n c lb lo i f cl to:Nat}{ad:Option Addr}{ls:List (List UInt8)}{k:Ks}{A:mo}{B:ou}{bs:List UInt8}{e:jV}
theorem aab {a b:Nat}:((max a b:Nat):Int)=max (a:Int) (b:Int):=by omega
theorem aac {l:List (List UInt8)}(h:l.length=k.ls.length)(ps:List Pe):cZ { k with ls:=l,ps:=ps } B A=cZ k B A:=by simp only[cZ,h]
theorem aW.aad (I:V W w L)(B:ou)(k:Ks)(A:mo){l:List (List UInt8)}(h:l.length=k.ls.length)[kk:fD L [aa B.cb 72 (cZ k B A),bG B.lb B.lo B.cL l,aa B.hb 3 (e5 k.ps),aa B.dW 3 (eQ k.ps),aa B.wb 313 (rows e7 k.ps),aa B.xb 4 (e6 k.ps),Sl 100 1 A.cj k.mr.length A.cM (c6 k.mr),Sl 102 3 A.adE k.ev.length A.cE (rows bS k.ev)] R]:V W w (aW B { k with ls:=l }::R):=by
 have h1:=I.perm kk.perm;rw[← aac (l:=l) h k.ps]at h1;exact V.shut (M:=[_,_,_,_,_,_,_,_]) h1 λ_ h=>⟨A,h⟩
set_option maxHeartbeats 2000000 in
theorem aae (I:V W w (aW B k::L))(hk:WC k)(hh:held k)(hb:bs.length≤65536)(hc:bs.length≤c)(hp:∀ w',V W w' L→a6 w' ad bs.length bs) :
   Calls prog 155 #[pt B.cb,.slice ad bs.length c] w λr w'=>r=.returned (.int .i64 (dB bs k).1)∧V W w' (aW B (dB bs k).2::L):=by
 have hn:=hk.n;obtain⟨A0,I⟩:=aW.open I;refine EN func155 ntmps155 rfl rfl λa E=>?_;refine IF 8 E I (λaj a E=>?_) λaj a E=>?_
 ·
  replace I:=aW.fold I B k A0;refine RT 2 E I ?_;exact⟨by rw[Ai aj],by rw[Ai aj];exact I.sub⟩
 replace I:=aW.fold I B k A0;refine jE 2 E I (Xh (I.pick (aW B k)) hb hc (λw' hw=>hp w' hw.tail)) ?_;clear E I;rintro e w ⟨p,adP,cP,ok,rfl,L7,AF,I⟩;refine⟨_,rfl,λa E=>?_⟩;refine AL 3 E I λb5 a w E I=>?_;refine SA 0 E I λa w E I=>?_;refine RN 3 E I λa E=>?_;obtain⟨A,I⟩:=aW.open (I.pick (aW B k));refine bL 0 [9,19,29] [0,1,2,3,5,6,7,8,3004,1009,10,11,12,13,15,16,17,18,3014,1019,20,21,22,23,25,26,27,28,3024,1029,30,31] E I λa w E I hH U=>?_;refine RH 3 E I hH U λa E=>?_;refine E.by (s:=18) (λbw E=>?_) (λbw E=>?_)
 ·
  have dm:ok=false:=by revert bw;cases ok <;> simp
  have da:eu bs=none:=AF dm;refine RH 29 E I hH U λa E=>?_;refine RT 3 E I ?_;rw[KI aj da];exact⟨rfl,(aW.fold I B k A).sub⟩
 have dm:ok=true:=by revert bw;cases ok <;> simp
 have po:eu bs=some p:=L7 dm;obtain⟨sK,gz,_⟩:=DE po;have EC:=sK.1;refine RH 10 E I hH U λa E=>?_;refine E.by (s:=28) (λhS E=>?_) (λhS E=>?_)
 ·
  refine RH 19 E I hH U λa E=>?_;refine RT 3 E I ?_;rw[vN aj po (.inl hS)];exact⟨rfl,(aW.fold I B k A).sub⟩
 refine RH 10 E I hH U λa E=>?_;refine E.by (s:=38) (λo9 E=>?_) (λo9 E=>?_)
 ·
  refine RH 9 E I hH U λa E=>?_;refine RT 3 E I ?_;rw[vN aj po (.inr (.inl o9))];exact⟨rfl,(aW.fold I B k A).sub⟩
 refine RH 9 E I hH U λa E=>?_;refine IF 0 E I (λan a E=>?_) λan a E=>?_
 ·
  refine RT 2 E I ?_;rw[vN aj po (.inr (.inr an))];exact⟨rfl,(aW.fold I B k A).sub⟩
 have bQ:¬ (p.to≠k.me∨(k.n:Int)≤p.aV∨p.id≠k.id):=by
  rintro (h | h | h)
  ·exact h hS
  ·omega
  ·exact h an
 rw[KJ aj po bQ];clear L7 AF dm;obtain⟨fr,fq⟩:=Int.eq_ofNat_of_zero_le EC.1;have g2:fr<k.n:=by omega
 have gw:fr<k.ls.length:=by rw[hk.ls];exact g2
 have mZ:fr<k.ps.length:=by rw[hk.ps];exact g2
 have ED:fr≠k.me:=by have:=sK.2.2.1;omega
 have ij:=hk.pg g2;have jt:p.aV.toNat=fr:=by omega
 have eZ:=tZ mZ;refine bL 1 [5,9] [0,1,2,4,6,7,8,3003,3005,1009,10,1011] E I λa w E I hH U=>?_;refine RH 9 E I hH U λa E=>?_;rw[fq]at E;refine RH 2 E I hH U λa E=>?_;refine ST 0 E I (λa w E I=>?_) (hlt:=(by rw[e5,bf];exact mZ));rw[ZO { au k fr with heard:=k.now } rfl,← Fj eZ { au k fr with heard:=k.now } rfl,← Fl eZ { au k fr with heard:=k.now } rfl rfl,← Fk eZ { au k fr with heard:=k.now } rfl]at I;have cc:=hk.peer (q:={ au k fr with heard:=k.now }) g2 ⟨ij.1,ij.2.2⟩ (bh _) rfl;have vP:(k.ps.set fr { au k fr with heard:=k.now })[fr]?=some { au k fr with heard:=k.now }:=getElem?_set_self mZ;replace I:=aW.fold I B { k with ps:=k.ps.set fr { au k fr with heard:=k.now } } A;refine RN 0 E I λa E=>?_;refine bZ (M:=λa w=>∃ k4:Ks,(k4=(if p.kind=2 then { k with ps:=k.ps.set fr { au k fr with heard:=k.now },ev:=k.ev++[(1,fr,0)],cl:=true } else { k with ls:=k.ls.set fr (dr (k.ls.getD fr []) p.first.toNat p.ak),ps:=k.ps.set fr (fQ k.now (aF k) p (au k fr)) })∧WC k4)∧Fr a 135 [(0,pt B.cb)]∧V W w (aW B k4::L)) ?_ ?_
 ·
  refine IF 4 E I (λay a E=>?_) λay a E=>?_
  ·
   refine RN 4 E I λa E=>?_;rw[fq]at E;refine CL 0 E I (Fp (kd:=1) (pl:=fr) (fr:=0) I (by have:=hk.kK;show k.ev.length≤100;omega)) λa w E I=>?_;refine RN 0 E I λa E=>?_;obtain⟨A2,D,I,hD⟩:=aW.AE I;refine ST 3 E I (λa w E I=>?_);refine RN 0 E I λa E=>?_;replace I:=hD _ _ k.now true I;exact⟨_,⟨by rw[al ay],by have h9:=(hk.xO sK gz (by omega) aj).1;rw[fR,al ay,jt]at h9;exact h9⟩,E.ab [0],I.sub⟩
  refine RN 1 E I λa E=>?_;have gV:eJ p.first∧eJ p.db∧eJ p.frame∧p.ak.length≤32:=by
   rcases sK.2.2.2.2 with h | h
   ·exact h.2
   ·exact absurd h.1 ay
  simp only[eJ]at gV;obtain⟨fi,vO⟩:=Int.eq_ofNat_of_zero_le gV.1.1;obtain⟨kN,Aj⟩:=Int.eq_ofNat_of_zero_le gV.2.1.1;obtain⟨jW,EE⟩:=Int.eq_ofNat_of_zero_le gV.2.2.1.1;have xV:p.first.toNat=fi:=by omega
  obtain⟨A2,I⟩:=aW.open I;refine bL 0 [5,8,10] [0,1,2,4,7,9,3003,3005,6,3008,1010,1011] E I λa w E I hH U=>?_;refine RH 8 E I hH U λa E=>?_;rw[fq]at E;refine RH 2 E I hH U λa E=>?_;rw[vO]at E;refine RH 1 E I hH U λa E=>?_;refine a2 0 E I (ZW (f:=fi) (bs:=p.ak) (I.pick (bG B.lb B.lo B.cL k.ls)) gw (hk.lF g2) (by omega) (λw' hw=>(hw.pick (Sl 5 1 adP p.ak.length cP (bc p.ak))).cF adP p.ak rfl rfl)) λKL er a w E I=>?_;refine RN 0 E I λa E=>?_;have dy:V W w (aW B { k with ls:=k.ls.set fr (dr (k.ls.getD fr []) fi p.ak),ps:=k.ps.set fr { au k fr with heard:=k.now } }::_):=aW.aad (l:=k.ls.set fr (dr (k.ls.getD fr []) fi p.ak)) I B { k with ps:=k.ps.set fr { au k fr with heard:=k.now } } A2 (br ..);replace I:=dy;clear dy;have mE:=cc.line (i:=fr) (l:=dr (k.ls.getD fr []) fi p.ak) (q0 (hk.lF g2)).2;have gL:aF ({ k with ls:=k.ls.set fr (dr (k.ls.getD fr []) fi p.ak),ps:=k.ps.set fr { au k fr with heard:=k.now } }:Ks)=aF k:=by
   show ((k.ls.set fr _).getD k.me []).length=_;rw[KG ED];rfl
  refine bZ (M:=λa w=>∃ hh:Nat,hh=(if (au k fr).has<kN∧kN≤aF k then kN else (au k fr).has)∧Fr a 135 [(0,pt B.cb),(5,pt b5)]∧V W w (aW B { k with ls:=k.ls.set fr (dr (k.ls.getD fr []) fi p.ak),ps:=k.ps.set fr { au k fr with heard:=k.now,has:=hh } }::aa b5 203 (dM p adP cP)::L)) ?_ ?_
  ·
   refine aY 1 (λw0 w'=>Rd w' b5 0 (dM p adP cP)) [3] [0,2,3001,1003,4] E I λa w E I hH=>?_;have U:=hH.at w (I.ai (b:=b5));refine RH 2 E I hH U λa E=>?_;refine QH E (λw hc=>ag E (hc 6 _ rfl)) U λa E=>?_;rw[Aj]at E;refine RH 0 E I hH U λa E=>?_;refine CL 0 E I (rj I mE) λa w E I=>?_;replace U:=hH.at w (I.ai (b:=b5));rw[gL]at E;refine RH 1 E I hH U λa E=>?_;refine IF 0 E I (λbg a E=>?_) λbg a E=>?_
   ·
    refine RN 0 E I λa E=>?_;obtain⟨A3,I⟩:=aW.open I;have wK:(eQ (k.ps.set fr { au k fr with heard:=k.now }))[fr]?=some (Value.int .i64 (au k fr).has):=by
     have h:=vZ vP;exact h
    refine bL 0 [5,9,11,12,13,15,16] [0,1,2,4,6,7,8,10,14,3003,3005,3009,3011,3012,3013,1015,1016,17,1018] E I λa w E I hH U=>?_;refine RH 11 E I hH U λa E=>?_;rw[fq]at E;refine RH 2 E I hH U λa E=>?_;rw[fq]at E;refine RH 1 E I hH U λa E=>?_;refine QH E (λw hc=>ag E (hc.cell (I.bu (b:=B.dW) wK))) U λa E=>?_;refine RH 1 E I hH U λa E=>?_;rw[Aj]at E;refine RH 2 E I hH U λa E=>?_;refine ST 0 E I (λa w E I=>?_) (hlt:=(by rw[eQ,bf,br];exact mZ));rw[ZP { au k fr with heard:=k.now,has:=max (au k fr).has kN } aab,← Fi vP { au k fr with heard:=k.now,has:=max (au k fr).has kN } rfl,← Fl vP { au k fr with heard:=k.now,has:=max (au k fr).has kN } rfl rfl,← Fk vP { au k fr with heard:=k.now,has:=max (au k fr).has kN } rfl,set_set]at I;replace I:=aW.fold I B { k with ls:=k.ls.set fr (dr (k.ls.getD fr []) fi p.ak),ps:=k.ps.set fr { au k fr with heard:=k.now,has:=max (au k fr).has kN } } A3;refine RN 0 E I λa E=>?_;exact⟨max (au k fr).has kN,by split <;> omega,E.ab [0,5],I.sub⟩
   refine RN 0 E I λa E=>?_;exact⟨_,by rw[ae (by omega)],E.ab [0,5],I.sub⟩
  clear E;(try clear I);rintro a w ⟨hh,xU,E,I⟩;refine bL 1 [9,11,12,13,14] [0,1001,2,3,4,6,7,8,10,3005,3009,1011,1012,1013,1014,15,16] E I λa w E I hH U=>?_;have vQ:(k.ps.set fr { au k fr with heard:=k.now,has:=hh })[fr]?=some { au k fr with heard:=k.now,has:=hh }:=getElem?_set_self mZ;have EF:p.db.toNat=kN:=by omega
  have EG:p.frame.toNat=jW:=by omega
  have hP:fQ k.now (aF k) p (au k fr)=(if 0<p.frame∧((au k fr).frame:Int)≤p.frame then { au k fr with heard:=k.now,has:=hh,frame:=jW,sum:=p.sum } else { au k fr with heard:=k.now,has:=hh }):=by
   rw[fQ,EF,EG,xU]
  have ub:hh≤1000:=by rw[xU];split <;> omega
  obtain⟨Fv,I⟩:=aW.open I;have fc:=jv AB (I.ai (b:=B.wb)) vQ;rw[Nat.zero_add]at fc;replace hH:=Hd.gq I;refine RH 4 E I hH U λa E=>?_;refine E.by (s:=107) (λbP E=>?_) (λbP E=>?_)
  ·
   refine RH 8 E I hH U λa E=>?_;rw[fq]at E;refine RH 2 E I hH U λa E=>?_;refine bz E (cW E rfl (s:=107)) (ag E (fc 0 (.int .i64 (au k fr).frame) rfl)) rfl λa E=>?_;refine RH 2 E I hH U λa E=>?_;refine IF 0 E I (λbM a E=>?_) λbM a E=>?_
   ·
    refine bL 0 [5,7,9,10] [0,1,2,4,6,8,3003,3005,3007,1009,1010,11,1012] E I λa w E I hH U=>?_;refine RH 8 E I hH U λa E=>?_;rw[fq]at E;refine RH 1 E I hH U λa E=>?_;rw[EE]at E;refine RH 3 E I hH U λa E=>?_;refine qj E rfl I Ty.t313 (by simp[Value.oneCell']) (by rw[iT AB,br];show fr*2+2≤_;omega) λa w E I=>?_;rw[show cC (rows e7 (k.ps.set fr { au k fr with heard:=k.now,has:=hh })) (fr*2) [Value.int .i64 jW,Value.int .u32 p.sum]=rows e7 ((k.ps.set fr { au k fr with heard:=k.now,has:=hh }).set fr { au k fr with heard:=k.now,has:=hh,frame:=jW,sum:=p.sum }) from Hc AB _ { au k fr with heard:=k.now,has:=hh,frame:=jW,sum:=p.sum } (by rw[br];exact mZ),← Fi vQ { au k fr with heard:=k.now,has:=hh,frame:=jW,sum:=p.sum } rfl,← Fj vQ { au k fr with heard:=k.now,has:=hh,frame:=jW,sum:=p.sum } rfl,← Fk vQ { au k fr with heard:=k.now,has:=hh,frame:=jW,sum:=p.sum } rfl,set_set]at I;replace I:=aW.fold I B { k with ls:=k.ls.set fr (dr (k.ls.getD fr []) fi p.ak),ps:=k.ps.set fr { au k fr with heard:=k.now,has:=hh,frame:=jW,sum:=p.sum } } Fv;refine RN 0 E I λa E=>?_;exact⟨_,⟨by rw[ae ay,xV,hP,al (by omega)],(hk.peer (q:={ au k fr with heard:=k.now,has:=hh,frame:=jW,sum:=p.sum }) g2 ⟨ub,by show jW≤1000;omega,gz⟩ (bh _) rfl).line (q0 (hk.lF g2)).2⟩,E.ab [0],I.sub⟩
   refine RN 0 E I λa E=>?_;exact⟨_,⟨by rw[ae ay,xV,hP,ae (by omega)],(hk.peer (q:={ au k fr with heard:=k.now,has:=hh }) g2 ⟨ub,ij.2.2⟩ (bh _) rfl).line (q0 (hk.lF g2)).2⟩,E.ab [0],(aW.fold I B { k with ls:=k.ls.set fr (dr (k.ls.getD fr []) fi p.ak),ps:=k.ps.set fr { au k fr with heard:=k.now,has:=hh } } Fv).sub⟩
  refine RH 13 E I hH U λa E=>?_;refine RN 1 E I λa E=>?_;exact⟨_,⟨by rw[ae ay,xV,hP,ae (by omega)],(hk.peer (q:={ au k fr with heard:=k.now,has:=hh }) g2 ⟨ub,ij.2.2⟩ (bh _) rfl).line (q0 (hk.lF g2)).2⟩,E.ab [0],(aW.fold I B { k with ls:=k.ls.set fr (dr (k.ls.getD fr []) fi p.ak),ps:=k.ps.set fr { au k fr with heard:=k.now,has:=hh } } Fv).sub⟩
 clear E;(try clear I);rintro a w ⟨k4,⟨n0,hkw⟩,E,I⟩;refine CL 2 E I (LX I hkw) λa w E I=>?_;refine RT 2 E I ?_;refine⟨rfl,?_⟩;have hz:kJ k4=fR k p:=by
  by_cases h2:p.kind=2
  ·rw[n0,al h2,fR,al h2,jt];refine held.kJ (hh.of rfl (br ..) λi hi=>?_);by_cases h:i=fr
   ·subst h;rw[show au { k with ps:=k.ps.set i { au k i with heard:=k.now },ev:=k.ev++[(1,i,0)],cl:=true } i={ au k i with heard:=k.now } from by rw[au,bl,getElem?_set_self hi];rfl];exact⟨rfl,rfl,rfl⟩
   ·rw[show au { k with ps:=k.ps.set fr { au k fr with heard:=k.now },ev:=k.ev++[(1,fr,0)],cl:=true } i=au k i from by rw[au,bl,getElem?_set_ne (Ne.symm h),au,bl]];exact⟨rfl,rfl,rfl⟩
  ·rw[n0,ae h2,fR,ae h2,jt]
 rw[hz]at I;exact I
end
end
section
def cH:Pr:=⟨⟨#[115,117,109]⟩,[⟨1,30,1,0⟩,⟨11,1,0,0⟩,⟨5,2,2,31⟩,⟨3,2,2,1⟩,⟨3,0,0,30⟩,⟨1,29,8,0⟩,⟨7,28,0,29⟩,⟨10,28,9,0⟩,⟨9,1,0,0⟩,⟨1,0,0,0⟩,⟨15,31,0,0⟩,⟨13,31,2,0⟩]⟩
theorem Fw {s:ByteArray}{i b:Nat}(hb:jQ s i=b)(h:b<128):Utf8.decode s i=(b,1):=by
 simp only[jQ]at hb;simp[Utf8.decode,hb,h]
theorem aaf:eb cH.title 0=[(115,1),(117,1),(109,1)]:=by
 have h1:cH.title.size=3:=rfl;have h2:Utf8.decode cH.title 0=(115,1):=Fw (b:=115) rfl (by decide);have h3:Utf8.decode cH.title 1=(117,1):=Fw (b:=117) rfl (by decide);have h4:Utf8.decode cH.title 2=(109,1):=Fw (b:=109) rfl (by decide);have r3:eb cH.title 3=[]:=qF (by omega);have r2:eb cH.title 2=[(109,1)]:=by rw[qE (by omega),dZ,al (by omega),h4];exact congrArg _ r3
 have r1:eb cH.title 1=[(117,1),(109,1)]:=by rw[qE (by omega),dZ,al (by omega),h3];exact congrArg _ r2
 rw[qE (by omega),dZ,al (by omega),h2];exact congrArg _ r1
theorem qf:dj cH:=by
 refine⟨⟨?_,by decide,by decide,?_⟩,?_⟩
 ·rw[oT,aaf];decide
 ·intro o ho;simp[cH]at ho;rcases ho with rfl | rfl | rfl | rfl | rfl | rfl | rfl | rfl | rfl | rfl | rfl | rfl <;> simp[qG,dp]
 ·intro o ho;simp[cH]at ho;rcases ho with rfl | rfl | rfl | rfl | rfl | rfl | rfl | rfl | rfl | rfl | rfl | rfl <;> simp[eX,eW,cH]
section
variable {W w:World}{L:List SP}{n c:Nat}{ad:Option Addr}
theorem L8 (I:V W w L):Calls prog 25 #[] w λe w'=>∃ ad,e=.returned (.agg (bJ cH ad 12).toArray)∧V W w' (aA W cH ad 12::L):=by
 refine EN func25 ntmps25 rfl rfl λa E=>?_;refine AL 1 E I λyX a w E I=>?_;refine RN 13 E I λa E=>?_;refine cm E rfl I underlying43 Ty.t114 rfl rfl rfl rfl (by decide) (by decide) λAG a w E I ho=>?_;clear ho;refine SA 1 E I λa w E I=>?_;refine RT 0 E I ?_;refine⟨some ⟨AG,0,none⟩,rfl,?_⟩;have h1:V W w (aa AG 114 ([]++rows dO cH.ops++[])::_):=I.jy AG;have h2:=V.iF (n:=12) (c:=12) (sz:=4) h1 rfl (bh _) (Nat.zero_le _);have h3:V W w (aA W cH (some ⟨AG,0,none⟩) 12::_):=h2.Cx;exact h3.sub
set_option maxHeartbeats 2000000 in
end
section
variable {W w:World}{L:List SP}{m cP:Nat}{adP:Option Addr}{p:Pr}
theorem yf {fr:Int}{g:Nat→Int}{ao:Option Addr}{cO:Nat}{P:List (List UInt8)}{zs:List ea}(I:V W w (aA W p ao cO::L))(hm:P.length=m)(aZ:dj p)(aE:p.title.size≤1000000000)(hg:dP g)(hP:P.length≤65536∧∀ b∈P,b.length≤1099511627776)(hz:zs.map (·.2.2)=P)(hf:-1099511627776≤fr∧fr≤1099511627776)(hp:∀ w',V W w' L→iH w' adP zs) :
   Calls prog 116 #[.agg (bJ p ao cO).toArray,.agg (ints .i32 32 g).toArray,.int .i64 fr,.slice adP m cP] w λe w'=>e=.returned (.agg (ints .i32 32 (foldI p fr g P)).toArray)∧dP (foldI p fr g P)∧V W w' (aA W p ao cO::L):=by
 subst hm;exact VS I aZ aE hg hP hz hf hp
end
def jn (P O:List UInt8)(k:Nat):List (List UInt8):=(List.range k).map (cp [P,O])
end
end Go.Proofs.YteoldcfapaiobaaGreat
