/- The document's player without its game: how it lies in memory; quintainref21.within, May, New, Head, Front, event, held, Mark, Told. -/
import Derived.Test.YteoldcfapaiobaaGreatE09Core
import Derived.Test.YteoldcfapaiobaaGreatE11Mul
import Derived.Test.YteoldcfapaiobaaGreatE01Row
import Derived.Test.YteoldcfapaiobaaGreatE06Ref
import Derived.Test.YteoldcfapaiobaaGreatE10Rank
import Derived.ProofKit
import Derived.Deep.Slices
import Derived.Deep.Strs
import Derived.Test.YteoldcfapaiobaaGreatE05Vm
import Derived.Test.YteoldcfapaiobaaGreatE08Pkt4
namespace Go.Proofs.YteoldcfapaiobaaGreat
open Tryz
open List (take_zero nil_append drop_eq_nil_of_le cons_append append_nil ext_getElem? set_set mem_singleton range_succ getElem?_set_ne getElem?_set_self replicate_succ' map_singleton getLastD_eq_getLast? map_replicate)
open Go.RowKit
set_option linter.unusedVariables false
set_option linter.unusedSimpArgs false
set_option maxRecDepth 10000
set_option synthInstance.maxSize 4000
set_option synthInstance.maxHeartbeats 400000
section
theorem Bn (z:Value)(h:z.cells=#[z])(n:Nat):(madeCells z.cells (n*1)).toList=List.replicate n z:=by
 apply ext_getElem?;intro i;rw[madeCells,Array.getElem?_toList,Array.getElem?_map,Array.getElem?_range,h,List.getElem?_replicate];by_cases hi:i<n
 ·simp[hi,Nat.mod_one]
 ·simp[hi]
theorem aaz (n:Nat):(madeCells (Value.agg #[.int .i64 0,.int .u32 0]).cells (n*2)).toList=rows (λ_:Pe=>[Value.int .i64 0,.int .u32 0]) (List.replicate n (fy 0)):=by
 have hl:∀ m:Nat,(madeCells (Value.agg #[.int .i64 0,.int .u32 0]).cells m).toList=(List.range m).map λi=>if i%2=0 then Value.int .i64 0 else .int .u32 0:=by
  intro m;apply ext_getElem?;intro i;rw[madeCells,Array.getElem?_toList,Array.getElem?_map,Array.getElem?_range,bm];by_cases hi:i<m
  ·rcases Nat.mod_two_eq_zero_or_one i with h | h <;> simp[hi,Value.cells,h]
  ·simp[hi]
 rw[hl]
 induction n with
 | zero=>rfl
 | succ n ih =>
  rw[Nat.succ_mul,replicate_succ',kj,← ih,range_succ,range_succ];simp only[cW,ds]
  congr 1
  have h1:n*2%2=0:=by omega
  have h2:¬ (n*2+1)%2=0:=by omega
  simp[h1,h2,rows]
def bM (lb lo c:Nat)(ls:List (List UInt8)):SP:=λh=>∃ xs:List dY,bj xs=ls∧cn [Sl 65 1 (some ⟨lb,lo,none⟩) ls.length c (xs.map aK),ah a8 xs] h
structure nM where
 cb:Nat
 lb:Nat
 lo:Nat
 cL:Nat
 hb:Nat
 dU:Nat
 wb:Nat
 xb:Nat
structure mH where
 cj:Option Addr
 cM:Nat
 adE:Option Addr
 cE:Nat
abbrev cR (k:Ks)(B:nM)(A:mH):List Value:=[.int .i64 k.n,.int .i64 k.me,.int .i64 k.id,.int .i64 k.aJ,.int .i64 k.bt,.int .i64 k.bf,.int .i64 k.order,.int .i64 k.cv,.int .i64 k.workers,.int .i64 k.room,
 .slice (some ⟨B.lb,B.lo,none⟩) k.ls.length B.cL,.int .i64 k.now,.slice (some ⟨B.hb,0,none⟩) k.n k.n,.slice (some ⟨B.dU,0,none⟩) k.n k.n,.slice (some ⟨B.wb,0,none⟩) k.n k.n,.slice (some ⟨B.xb,0,none⟩) k.n k.n,.slice A.cj k.mr.length A.cM,.slice A.adE k.ev.length A.cE,.bool k.cl]
def e6 (l:List Pe):List Value:=l.map λp=>Value.int .i64 (p.heard:Int)
def eS (l:List Pe):List Value:=l.map λp=>Value.int .i64 (p.has:Int)
def e7 (l:List Pe):List Value:=l.map λp=>Value.bool p.apart
abbrev e8 (p:Pe):List Value:=[.int .i64 p.frame,.int .u32 p.sum]
theorem Bo (p:Pe):(e8 p).length=2:=rfl
def aZ (B:nM)(k:Ks):SP:=λh=>∃ A:mH,cn [aa B.cb 72 (cR k B A),bM B.lb B.lo B.cL k.ls,aa B.hb 3 (e6 k.ps),aa B.dU 3 (eS k.ps),aa B.wb 313 (rows e8 k.ps),aa B.xb 4 (e7 k.ps),Sl 100 1 A.cj k.mr.length A.cM (c0 k.mr),Sl 102 3 A.adE k.ev.length A.cE (rows bU k.ev)] h
section
variable {W w:World}{L R:List SP}{c m lb lo i:Nat}{ad:Option Addr}{ls:List (List UInt8)}{k:Ks}{A:mH}{B:nM}
theorem bM.open (I:U W w (bM lb lo c ls::L)):∃ xs:List dY,bj xs=ls∧U W w (Sl 65 1 (some ⟨lb,lo,none⟩) ls.length c (xs.map aK)::ah a8 xs::L):=by
 obtain⟨xs,h1,I⟩:=I.jy (ι:=List dY) (p:=λxs=>bj xs=ls) (B:=λxs h=>cn [Sl 65 1 (some ⟨lb,lo,none⟩) ls.length c (xs.map aK),ah a8 xs] h) λ_ ⟨xs,h1,h2⟩=>⟨xs,h1,h2⟩;exact⟨xs,h1,I.open (M:=[_,_]) λ_ h=>h⟩
theorem bM.close {xs:List dY}(I:U W w (Sl 65 1 (some ⟨lb,lo,none⟩) ls.length c (xs.map aK)::ah a8 xs::L))(h:bj xs=ls):U W w (bM lb lo c ls::L) :=
 U.shut (M:=[_,_]) I λ_ h'=>⟨xs,h,h'⟩
theorem U.oN {xs:List dY}{el:TypeId}{m:Nat}(I:U W w (Sl el 1 ad m c (xs.map aK)::ah a8 xs::L)):hU w ad xs:=by
 have hl:=(I.sl ad).1;rw[bd,Nat.mul_one]at hl;refine⟨λh0=>?_,λx hx=>?_⟩
 ·obtain⟨b,off,h1,h2⟩:=I.bV ad (by omega);exact⟨b,off,h1,h2⟩
 ·obtain⟨i,hi,rfl⟩:=List.getElem_of_mem hx;have h2:=(I.tail).fu hi;exact U.cu (L:=a8 xs[i]::_) h2 _ _ (k:=(fK.head:fK (Sl 5 1 xs[i].1 xs[i].2.2.length xs[i].2.1 (bc xs[i].2.2)::_) xs[i].1 _ _ _ _ _ _)) rfl rfl
theorem aZ.open (I:U W w (aZ B k::L)):∃ A:mH,U W w (aa B.cb 72 (cR k B A)::bM B.lb B.lo B.cL k.ls::aa B.hb 3 (e6 k.ps)::aa B.dU 3 (eS k.ps)::aa B.wb 313 (rows e8 k.ps)::aa B.xb 4 (e7 k.ps)::Sl 100 1 A.cj k.mr.length A.cM (c0 k.mr)::Sl 102 3 A.adE k.ev.length A.cE (rows bU k.ev)::L):=by
 obtain⟨A,_,I⟩:=I.jy (ι:=mH) (p:=λ_=>True) (B:=λA h=>cn [aa B.cb 72 (cR k B A),bM B.lb B.lo B.cL k.ls,aa B.hb 3 (e6 k.ps),aa B.dU 3 (eS k.ps),aa B.wb 313 (rows e8 k.ps),aa B.xb 4 (e7 k.ps),Sl 100 1 A.cj k.mr.length A.cM (c0 k.mr),Sl 102 3 A.adE k.ev.length A.cE (rows bU k.ev)] h) λ_ ⟨A,h⟩=>⟨A,trivial,h⟩;exact⟨A,I.open (M:=[_,_,_,_,_,_,_,_]) λ_ h=>h⟩
theorem aZ.fold (I:U W w L)(B:nM)(k:Ks)(A:mH)[kk:fD L [aa B.cb 72 (cR k B A),bM B.lb B.lo B.cL k.ls,aa B.hb 3 (e6 k.ps),aa B.dU 3 (eS k.ps),aa B.wb 313 (rows e8 k.ps),aa B.xb 4 (e7 k.ps),Sl 100 1 A.cj k.mr.length A.cM (c0 k.mr),Sl 102 3 A.adE k.ev.length A.cE (rows bU k.ev)] R]:U W w (aZ B k::R) :=
 U.shut (M:=[_,_,_,_,_,_,_,_]) (I.perm kk.perm) λ_ h=>⟨A,h⟩
end
theorem aaA {l:List Pe}{i:Nat}{p:Pe}(h:l[i]?=some p):(e6 l)[i]?=some (.int .i64 p.heard):=by rw[e6,bm,h];rfl
theorem wH {l:List Pe}{i:Nat}{p:Pe}(h:l[i]?=some p):(eS l)[i]?=some (.int .i64 p.has):=by rw[eS,bm,h];rfl
theorem aaB {l:List Pe}{i:Nat}{p:Pe}(h:l[i]?=some p):(e7 l)[i]?=some (.bool p.apart):=by rw[e7,bm,h];rfl
theorem yH {α β:Type}(f:α→β){l:List α}{i:Nat}{x:α}{v:β}(h:f x=v):(l.map f).set i v=(l.set i x).map f:=by rw[← h,map_set]
theorem Bp {β:Type}(f:Pe→β){l:List Pe}{i:Nat}{p q:Pe}(h:l[i]?=some p)(hf:f q=f p):(l.set i q).map f=l.map f:=by
 apply ext_getElem?;intro j;rw[bm,bm,jL];by_cases hj:i=j
 ·subst hj;have hi:=(a2.1 h).1;rw[ak rfl,ak hi,h];simp[hf]
 ·rw[ag hj]
theorem aaC (f:Pe→List Value){l:List Pe}{i:Nat}{p q:Pe}(h:l[i]?=some p)(hf:f q=f p):rows f (l.set i q)=rows f l:=by
 rw[rows,rows,List.flatMap_def,List.flatMap_def,Bp f h hf]
theorem F2 {l:List Pe}{i:Nat}{p:Pe}(h:l[i]?=some p)(q:Pe)(hf:q.heard=p.heard):e6 (l.set i q)=e6 l:=Bp _ h (by rw[hf])
theorem F3 {l:List Pe}{i:Nat}{p:Pe}(h:l[i]?=some p)(q:Pe)(hf:q.has=p.has):eS (l.set i q)=eS l:=Bp _ h (by rw[hf])
theorem F4 {l:List Pe}{i:Nat}{p:Pe}(h:l[i]?=some p)(q:Pe)(hf:q.apart=p.apart):e7 (l.set i q)=e7 l:=Bp _ h (by rw[hf])
theorem F5 {l:List Pe}{i:Nat}{p:Pe}(h:l[i]?=some p)(q:Pe)(hf:q.frame=p.frame)(I:q.sum=p.sum):rows e8 (l.set i q)=rows e8 l:=aaC _ h (by rw[e8,e8,hf,I])
theorem aaD {l:List Pe}{i:Nat}(q:Pe){v:Int}(h:(q.heard:Int)=v):(e6 l).set i (.int .i64 v)=e6 (l.set i q):=yH _ (by rw[h])
theorem aaE {l:List Pe}{i:Nat}(q:Pe){v:Int}(h:(q.has:Int)=v):(eS l).set i (.int .i64 v)=eS (l.set i q):=yH _ (by rw[h])
section
variable {W w:World}{L:List SP}{n c lb lo i f cl:Nat}{ad:Option Addr}{ls:List (List UInt8)}{k:Ks}{A:mH}{B:nM}{x:UInt8}
theorem rL (I:U W w (aZ B k::L))(hk:WC k):Calls prog 20 #[pt B.cb] w λr w'=>r=.returned (.int .i64 (aD k))∧U W w' (aZ B k::L):=by
 have ek:k.me<k.ls.length:=by rw[hk.ls];exact hk.me
 obtain⟨A,I⟩:=aZ.open I;refine EN func20 ntmps20 rfl rfl λa E=>?_;refine bQ 3 [8] [0,1,2,4,5,6,7,3003,1008,9,10,1011,12,13] E I λa w E I hH hC=>?_;obtain⟨xs,ba,I⟩:=bM.open (I.pick (bM B.lb B.lo B.cL k.ls));have bW:xs.length=k.ls.length:=by rw[← ba,fS]
 obtain⟨lX,ol,y,uJ,hy,ni,oM⟩:=(U.oN I).at (i:=k.me) (by omega);cases uJ;have iH:aD k=y.2.2.length:=by
  show (k.ls.getD k.me []).length=_;rw[← ba,rI hy]
 replace hH:=Hd.gy I;refine RH 11 E I hH hC λa E=>?_;refine SS E (ae E (ni)) λa E=>?_;rw[aK]at E;refine RH 2 E I hH hC λa E=>?_;refine RT 0 E I ?_;refine⟨by rw[iH],?_⟩;exact (aZ.fold (bM.close I ba) B k A).sub
theorem F6 (I:U W w (aZ B k::L))(hk:WC k):Calls prog 19 #[pt B.cb] w λr w'=>r=.returned (.int .i64 (aw k))∧U W w' (aZ B k::L):=by
 have hn:=hk.n;have eQ:=hk.ls;obtain⟨A,I⟩:=aZ.open I;refine EN func19 ntmps19 rfl rfl λa E=>?_;refine RN 7 E I λa E=>?_;obtain⟨xs,ba,I⟩:=bM.open (I.pick (bM B.lb B.lo B.cL k.ls));have bW:xs.length=k.ls.length:=by rw[← ba,fS]
 rw[← bW]at E;refine CL 0 E I (Bg (xs:=xs) I (by omega) (by omega) (λw' hw=>U.oN hw)) λa w E I=>?_;refine RT 1 E I ?_;refine⟨by rw[ba];rfl,?_⟩;exact (aZ.fold (bM.close I ba) B k A).sub
theorem F7 {kd pl fr:Nat}(I:U W w (aZ B k::L))(hl:k.ev.length≤100):Calls prog 112 #[pt B.cb,.int .i64 kd,.int .i64 pl,.int .i64 fr] w λr w'=>r=.returned (.tuple #[])∧U W w' (aZ B { k with ev:=k.ev++[(kd,pl,fr)] }::L):=by
 obtain⟨A,I⟩:=aZ.open I;refine EN func112 ntmps112 rfl rfl λa E=>?_;refine RN 9 E I λa E=>?_;refine cr E rfl I underlying70 Ty.t102 rfl rfl rfl rfl (by decide) (by decide) λig a w E I ho=>?_;clear ho;refine RN 0 E I λa E=>?_;refine cK E rfl I underlying70 Ty.t102 rfl rfl I.ai rfl (Fc (kd,pl,fr)) (by decide) (by decide) (by omega) λF8 F9 a w E I=>?_;rw[show rows bU k.ev++_=rows bU (k.ev++[(kd,pl,fr)]) from by rw[kj];rfl,show k.ev.length+1=(k.ev++[(kd,pl,fr)]).length from by simp]at I;rw[show k.ev.length+1=(k.ev++[(kd,pl,fr)]).length from by simp]at E;refine ST 2 E I (λa w E I=>?_);refine RT 0 E I ?_;exact⟨rfl,(aZ.fold I B { k with ev:=k.ev++[(kd,pl,fr)] } { A with adE:=F8,cE:=F9 }).sub⟩
theorem aaF (I:U W w (aZ B k::L)):Calls prog 51 #[pt B.cb] w λr w'=>∃ ad c,r=.returned (.slice ad k.ev.length c)∧U W w' (Sl 102 3 ad k.ev.length c (rows bU k.ev)::aZ B { k with ev:=[] }::L):=by
 obtain⟨A,I⟩:=aZ.open I;refine EN func51 ntmps51 rfl rfl λa E=>?_;refine ST 12 E I (λa w E I=>?_);refine RT 3 E I ?_;refine⟨A.adE,A.cE,rfl,?_⟩;replace I:=I.bN 102 3 none;have h2:U W w (aa B.cb 72 (cR { k with ev:=[] } B ⟨A.cj,A.cM,none,0⟩)::bM B.lb B.lo B.cL k.ls::aa B.hb 3 (e6 k.ps)::aa B.dU 3 (eS k.ps)::aa B.wb 313 (rows e8 k.ps)::aa B.xb 4 (e7 k.ps)::Sl 100 1 A.cj k.mr.length A.cM (c0 k.mr)::Sl 102 3 none 0 0 []::Sl 102 3 A.adE k.ev.length A.cE (rows bU k.ev)::L):=I.sub (M:=aa B.cb 72 _::bM B.lb B.lo B.cL k.ls::aa B.hb 3 (e6 k.ps)::aa B.dU 3 (eS k.ps)::aa B.wb 313 (rows e8 k.ps)::aa B.xb 4 (e7 k.ps)::Sl 100 1 A.cj k.mr.length A.cM (c0 k.mr)::Sl 102 3 none 0 0 []::Sl 102 3 A.adE k.ev.length A.cE (rows bU k.ev)::L);refine U.perm (L:=aZ B { k with ev:=[] }::Sl 102 3 A.adE k.ev.length A.cE (rows bU k.ev)::L) ?_ (List.Perm.swap _ _ _);exact U.shut (M:=[_,_,_,_,_,_,_,_]) h2 λ_ h=>⟨⟨A.cj,A.cM,none,0⟩,h⟩
theorem MR (I:U W w (aZ B k::L))(hk:WC k):Calls prog 153 #[pt B.cb] w λr w'=>r=.returned (.tuple #[])∧U W w' (aZ B (kZ k)::L):=by
 have eB:k.ps.length=k.n:=hk.ps;have hn:=hk.n;refine EN func153 ntmps153 rfl rfl λa E=>?_;refine RN 2 E I λa E=>?_;refine aO (λμ a w=>∃ (i:Nat),(μ=k.n-i∧i≤k.n)∧Fr a 68 [(0,pt B.cb),(2,.int .i64 i)]∧U W w (aZ B (gp k i)::L)) (k.n) (⟨0,⟨rfl,by omega⟩,E.ab [0,2],I⟩) ?_;clear E I;rintro μ a w ⟨i,⟨rfl,hi⟩,E,I⟩;have jR:=hk.gp (i:=i) hi;have dM:=AO k i;have uG:(gp k i).n=k.n:=by obtain⟨ps,ev,h1,_⟩:=ym k i;rw[h1]
 have eM:gp k (i+1)=kY (gp k i) i:=rfl;rw[kY]at eM;generalize nt:gp k i=kk at I jR dM eM uG;obtain⟨A,I⟩:=aZ.open I;refine IF 9 E I (λaj a E=>?_) λaj a E=>?_
 ·
  have aH:i<kk.ps.length:=by omega
  have iv:=jR.pI (i:=i) (by omega);have e4:=uz aH;have fb:=jo Bo (I.ai (b:=B.wb)) e4;rw[Nat.zero_add]at fb;refine RN 8 E I λa E=>?_;refine SS E (bS E underlying313 rfl Ty.t313 (fb)) λa E=>?_;refine AL 0 E I λb3 a w E I=>?_;refine SA 0 E I λa w E I=>?_;refine bQ 1 [19,20,29,30,34] [0,1,2,4,1003,5,1006,7,8,9,1010,11,12,13,14,16,17,18,3015,1019,1020,21,22,23,24,25,26,28,33,3027,3029,3030,31,3032,1034,35,36] E I λa w E I hH hC=>?_;have jF:Rd w B.cb 0 (cR kk B A):=I.ai (b:=B.cb);have wI:Rd w b3 0 (e8 (au kk i)):=I.ai (b:=b3);have mU:=I.bz (b:=B.xb) (aaB e4);refine RH 4 E I hH hC λa E=>?_;refine SS E (ae E (jF 15 _ rfl)) λa E=>?_;refine RH 1 E I hH hC λa E=>?_;refine SS E (ae E (mU)) λa E=>?_;refine RH 2 E I hH hC λa E=>?_;refine E.by (s:=28) (λfa E=>?_) (λfa E=>?_)
  ·
   refine RH 1 E I hH hC λa E=>?_;refine bo E (b7 E rfl (s:=28)) (ae E (wI 0 _ rfl)) rfl λa E=>?_;refine RH 3 E I hH hC λa E=>?_;refine E.by (s:=33) (λm6 E=>?_) (λm6 E=>?_)
   ·
    refine RH 4 E I hH hC λa E=>?_;refine QH E (λw hc=>ae E (hc.cell (wI 0 _ rfl))) hC λa E=>?_;refine RH 0 E I hH hC λa E=>?_;refine bo E (b7 E rfl (s:=33)) (ae E (jF 16 _ rfl)) rfl λa E=>?_;refine RH 4 E I hH hC λa E=>?_;refine E.by (s:=43) (λmv E=>?_) (λmv E=>?_)
    ·
     have l9:(au kk i).frame-1<kk.mr.length:=by omega
     obtain⟨Fh,Fi,ek,lA⟩:=(I.pick (Sl 100 1 A.cj kk.mr.length A.cM (c0 kk.mr))).bV A.cj (by omega);have yp:=jF 16 _ rfl;rw[ek]at yp;refine RH 5 E I hH hC λa E=>?_;refine QH E (λw hc=>ae E (hc.cell (yp))) hC λa E=>?_;refine QH E (λw hc=>ae E (hc.cell (wI 0 _ rfl))) hC λa E=>?_;refine RH 1 E I hH hC λa E=>?_;rw[show (((au kk i).frame:Nat):Int)-1=(((au kk i).frame-1:Nat):Int) from by omega]at E;refine RH 1 E I hH hC λa E=>?_;refine QH E (λw hc=>ae E (hc.cell (lA ((au kk i).frame-1) _ (AU l9)))) hC λa E=>?_;refine RH 0 E I hH hC λa E=>?_;refine bo E (b7 E rfl (s:=43)) (ae E (wI 1 _ rfl)) rfl λa E=>?_;refine RH 2 E I hH hC λa E=>?_;refine IF 0 E I (λao a E=>?_) λao a E=>?_
     ·
      refine RN 1 E I λa E=>?_;rw[ak ⟨fa,by omega,by omega,by omega⟩]at eM;refine ST 6 E I (λa w E I=>?_) (hlt:=(by rw[e7,bd];exact aH));rw[show (e7 kk.ps).set i (.bool true)=e7 (kk.ps.set i { au kk i with apart:=true }) from yH _ rfl,← F2 e4 { au kk i with apart:=true } rfl,← F3 e4 { au kk i with apart:=true } rfl,← F5 e4 { au kk i with apart:=true } rfl rfl]at I;replace I:=aZ.fold I B { kk with ps:=kk.ps.set i { au kk i with apart:=true } } A;refine CL 4 E I (F7 (kd:=3) (pl:=i) (fr:=(au kk i).frame) I (by have:=jR.kD;show kk.ev.length≤100;omega)) λa w E I=>?_;refine RN 3 E I λa E=>?_;exact⟨k.n-(i+1),by omega,i+1,⟨rfl,by omega⟩,E.ab [0,2],by rw[eM];exact I.sub⟩
     refine RN 3 E I λa E=>?_;rw[ag (λh=>by have:=h.2.2.2;omega)]at eM;exact⟨k.n-(i+1),by omega,i+1,⟨rfl,by omega⟩,E.ab [0,2],by rw[eM];exact (aZ.fold I B kk A).sub⟩
    refine RH 13 E I hH hC λa E=>?_;refine RN 4 E I λa E=>?_;rw[ag (λh=>by have:=h.2.2.1;omega)]at eM;exact⟨k.n-(i+1),by omega,i+1,⟨rfl,by omega⟩,E.ab [0,2],by rw[eM];exact (aZ.fold I B kk A).sub⟩
   refine RH 23 E I hH hC λa E=>?_;refine RN 4 E I λa E=>?_;rw[ag (λh=>by have:=h.2.1;omega)]at eM;exact⟨k.n-(i+1),by omega,i+1,⟨rfl,by omega⟩,E.ab [0,2],by rw[eM];exact (aZ.fold I B kk A).sub⟩
  refine RH 28 E I hH hC λa E=>?_;refine RN 4 E I λa E=>?_;rw[ag (λh=>by have:=h.1;rw[fa]at this;cases this)]at eM;exact⟨k.n-(i+1),by omega,i+1,⟨rfl,by omega⟩,E.ab [0,2],by rw[eM];exact (aZ.fold I B kk A).sub⟩
 refine RT 0 E I ?_;obtain rfl:i=k.n:=by omega
 refine⟨rfl,?_⟩;rw[kZ,eB,nt];exact (aZ.fold I B kk A).sub
theorem aaG {s:Nat}(I:U W w (aZ B k::L))(hk:WC k)(hl:k.mr.length<1000)(xM:s<4294967296):Calls prog 105 #[pt B.cb,.int .u32 s] w λr w'=>r=.returned (.tuple #[])∧U W w' (aZ B (lu k s)::L):=by
 have yq : WC { k with mr := k.mr ++ [s] } := { hk with
     mr:=by show (k.mr++[s]).length≤1000;rw[aL,jl];omega
     rB:=λx hx=>by
      rcases eP.1 hx with hx | hx
      ·exact hk.rB x hx
      ·rw[mem_singleton]at hx;rw[hx];exact xM }
 obtain⟨A,I⟩:=aZ.open I;refine EN func105 ntmps105 rfl rfl λa E=>?_;refine RN 8 E I λa E=>?_;rw[dg (by omega)]at E;refine RN 7 E I λa E=>?_;refine cr E rfl I underlying69 Ty.t100 rfl rfl rfl rfl (by decide) (by decide) λqq a w E I ho=>?_;clear ho;refine RN 0 E I λa E=>?_;refine cK E rfl I underlying69 Ty.t100 rfl rfl I.ai rfl (by simp[Value.oneCell']) (by decide) (by decide) (by omega) λaaH c17 a w E I=>?_;rw[show c0 k.mr++_=c0 (k.mr++[s]) from by rw[c0,c0,cW];rfl,show k.mr.length+1=(k.mr++[s]).length from by simp]at I;rw[show k.mr.length+1=(k.mr++[s]).length from by simp]at E;refine ST 2 E I (λa w E I=>?_);refine RN 0 E I λa E=>?_;replace I:=aZ.fold I B { k with mr:=k.mr++[s] } { A with cj:=aaH,cM:=c17 };refine CL 1 E I (MR I yq) λa w E I=>?_;refine RT 0 E I ?_;exact⟨rfl,by rw[lu,ak hl];exact I.sub⟩
theorem aaI (I:U W w (aZ B k::L))(hk:WC k):Calls prog 111 #[pt B.cb,.int .u8 (x.toNat:Nat)] w λr w'=>r=.returned (.int .i64 (cZ x k).1)∧U W w' (aZ B (cZ x k).2::L):=by
 have ek:k.me<k.ls.length:=by rw[hk.ls];exact hk.me
 have gS:=hk.lx;have fp:=hk.nc;obtain⟨A0,I⟩:=aZ.open I;refine EN func111 ntmps111 rfl rfl λa E=>?_;refine IF 9 E I (λaj a E=>?_) λaj a E=>?_
 ·
  replace I:=aZ.fold I B k A0;refine RT 2 E I ?_;exact⟨by rw[cZ,ak aj],by rw[cZ,ak aj];exact I⟩
 have cp:¬ k.cl=true:=by rw[aj];decide
 replace I:=aZ.fold I B k A0;refine CL 2 E I (rL I hk) λa w E I=>?_;refine IF 2 E I (λao a E=>?_) λao a E=>?_
 ·
  refine RT 2 E I ?_;exact⟨by rw[cZ,ag cp,ak (by omega)],by rw[cZ,ag cp,ak (by omega)];exact I⟩
 refine aV 1 (λw0 w'=>w'.cell? ⟨B.cb,4,none⟩=some (.int .i64 k.bt)) [1,3,4] [0,2,5,6,7,8,3009,1001,1003,1004,10,11] E I λa w E I hH=>?_;have hC:w.cell? ⟨B.cb,4,none⟩=some (.int .i64 k.bt):=by
  obtain⟨A1,I⟩:=aZ.open I;exact I.bz (b:=B.cb) rfl
 refine RH 6 E I hH hC λa E=>?_;refine QH E (λw hc=>ae E (hc)) hC λa E=>?_;refine RH 0 E I hH hC λa E=>?_;refine CL 0 E I (rL I hk) λa w E I=>?_;replace hC:=hH.at w (by obtain⟨A1,I⟩:=aZ.open I;exact I.bz (b:=B.cb) rfl);refine RH 0 E I hH hC λa E=>?_;refine CL 0 E I (F6 I hk) λa w E I=>?_;replace hC:=hH.at w (by obtain⟨A1,I⟩:=aZ.open I;exact I.bz (b:=B.cb) rfl);refine RH 3 E I hH hC λa E=>?_;refine IF 0 E I (λay a E=>?_) λay a E=>?_
 ·
  refine RT 2 E I ?_;exact⟨by rw[cZ,ag cp,ag (by omega),ak (by omega)],by rw[cZ,ag cp,ag (by omega),ak (by omega)];exact I⟩
 refine RN 1 E I λa E=>?_;obtain⟨A,I⟩:=aZ.open I;have uA:cZ x k=(0,{ k with ls:=k.ls.set k.me (k.ls.getD k.me []++[x]) }):=by rw[cZ,ag cp,ag (by omega),ag (by omega)]
 rw[uA];obtain⟨xs,ba,I⟩:=bM.open (I.pick (bM B.lb B.lo B.cL k.ls));have bW:xs.length=k.ls.length:=by rw[← ba,fS]
 obtain⟨y,hy⟩:∃ y,xs[k.me]?=some y:=⟨_,aE (by omega)⟩;obtain⟨tj,tg⟩:=a2.1 hy;have iH:k.ls.getD k.me []=y.2.2:=by rw[← ba,rI hy]
 refine bQ 0 [8] [0,1,2,4,5,6,7,3003,1008,9,10] E I λa w E I hH hC=>?_;refine RH 11 E I hH hC λa E=>?_;refine RN 5 E I λa E=>?_;refine SS E (ae E ((I.cJ B.lb B.lo (by omega)) k.me (aK y) (by rw[bm,hy];rfl))) λa E=>?_;rw[aK]at E;replace I:=(I.pick (ah a8 xs)).fu tj;rw[tg]at I;have gB:U W w (Sl 5 1 y.1 y.2.2.length y.2.1 (bc y.2.2)::_):=I;clear I;have I:=gB;clear gB;have MS:y.2.2.length≤1000:=by rw[← iH];exact gS
 refine RN 1 E I λa E=>?_;refine cr E rfl I underlying22 Ty.t5 rfl rfl rfl rfl (by decide) (by decide) λb43 a w E I ho=>?_;clear ho;refine RN 0 E I λa E=>?_;refine cK E rfl I underlying22 Ty.t5 rfl rfl I.ai rfl (eo [x]) (by decide) (by decide) (by omega) λnm k8 a w E I=>?_;rw[show bc y.2.2++_=bc (y.2.2++[x]) from (fG _ [_]).symm,show y.2.2.length+1=(y.2.2++[x]).length from by simp]at I;rw[show y.2.2.length+1=(y.2.2++[x]).length from by simp]at E;refine RN 2 E I λa E=>?_;refine l5 (off:=B.lo) (k:=k.me) E rfl I Ty.t22 rfl (by omega) (by rw[bd];exact tj) λa w E I=>?_;rw[show (xs.map aK).set k.me (.slice nm (y.2.2++[x]).length k8)=(xs.set k.me (nm,k8,y.2.2++[x])).map aK from yH _ rfl]at I;have h2:=I.arr (M:=[Sl 5 1 nm (y.2.2++[x]).length k8 (bc (y.2.2++[x])),ah a8 (xs.eraseIdx k.me)]);simp only[cons_append,nil_append]at h2;have h3:=U.kI (f:=a8) (x:=(nm,k8,y.2.2++[x])) tj h2;have eQ:(k.ls.set k.me (k.ls.getD k.me []++[x])).length=k.ls.length:=bu;have a6:bj (xs.set k.me (nm,k8,y.2.2++[x]))=k.ls.set k.me (k.ls.getD k.me []++[x]):=by rw[bj,map_set,← bj,ba,iH]
 have h4:=h3.arr (M:=[Sl 65 1 (some ⟨B.lb,B.lo,none⟩) k.ls.length B.cL ((xs.set k.me (nm,k8,y.2.2++[x])).map aK),ah a8 (xs.set k.me (nm,k8,y.2.2++[x]))]);simp only[cons_append,nil_append]at h4;rw[show k.ls.length=(k.ls.set k.me (k.ls.getD k.me []++[x])).length from eQ.symm]at h4;have h5:=bM.close (xs:=xs.set k.me (nm,k8,y.2.2++[x])) h4 a6;clear I;have I:=h5;rw[show cR k B A=cR { k with ls:=k.ls.set k.me (k.ls.getD k.me []++[x]) } B A from by simp only[cR,bu]]at I;refine RT 2 E I ?_;exact⟨rfl,(aZ.fold I B { k with ls:=k.ls.set k.me (k.ls.getD k.me []++[x]) } A).sub⟩
end
section
variable {W w:World}{L R:List SP}{n c m lb lo i f cl:Nat}{ad:Option Addr}{ls:List (List UInt8)}{k:Ks}{A:mH}{B:nM}{x:UInt8}{bs:List UInt8}
theorem bM.out {ls:List (List UInt8)}(I:U W w (bM lb lo c ls::L))(hi:i<ls.length):∃ (xs:List dY) (y:dY),bj xs=ls∧xs[i]?=some y∧y.2.2=ls.getD i [] ∧
   U W w (Sl 5 1 y.1 y.2.2.length y.2.1 (bc y.2.2)::Sl 65 1 (some ⟨lb,lo,none⟩) ls.length c (xs.map aK)::ah a8 (xs.eraseIdx i)::L):=by
 obtain⟨xs,ba,I⟩:=bM.open I;have bW:xs.length=ls.length:=by rw[← ba,fS]
 have hy:xs[i]?=some xs[i]:=aE (by omega);refine⟨xs,xs[i],ba,hy,by have:=rI hy;rw[ba]at this;exact this.symm,?_⟩;have h1:=(I.pick (ah a8 xs)).fu (i:=i) (by omega);exact U.sub (M:=a8 xs[i]::Sl 65 1 (some ⟨lb,lo,none⟩) ls.length c (xs.map aK)::ah a8 (xs.eraseIdx i)::L) h1
theorem bM.put {xs:List dY}{q:List UInt8}(I:U W w L)(ba:bj xs=ls)(hi:i<ls.length)[kk:fD L [Sl 5 1 ad q.length cl (bc q),Sl 65 1 (some ⟨lb,lo,none⟩) ls.length c ((xs.map aK).set i (.slice ad q.length cl)),ah a8 (xs.eraseIdx i)] R]:U W w (bM lb lo c (ls.set i q)::R):=by
 have bW:xs.length=ls.length:=by rw[← ba,fS]
 have h1:U W w (a8 (ad,cl,q)::Sl 65 1 (some ⟨lb,lo,none⟩) ls.length c ((xs.map aK).set i (.slice ad q.length cl))::ah a8 (xs.eraseIdx i)::R):=I.perm kk.perm;rw[show (xs.map aK).set i (.slice ad q.length cl)=(xs.set i (ad,cl,q)).map aK from yH _ rfl]at h1;have h2:=U.kI (f:=a8) (x:=(ad,cl,q)) (l:=xs) (i:=i) (by omega) (h1.sub (M:=a8 (ad,cl,q)::ah a8 (xs.eraseIdx i)::Sl 65 1 (some ⟨lb,lo,none⟩) ls.length c ((xs.set i (ad,cl,q)).map aK)::R));refine bM.close (xs:=xs.set i (ad,cl,q)) ?_ (by rw[bj,map_set,← bj,ba]);rw[bu];exact h2.perm (List.Perm.swap _ _ _)
theorem bM.hd (I:U W w (bM lb lo c ls::L))(hi:i<ls.length):∃ ad c',w.cell? ⟨lb,lo+i,none⟩=some (.slice ad (ls.getD i []).length c'):=by
 obtain⟨xs,y,h1,h2,h3,h4⟩:=bM.out I hi;rw[← h3];exact⟨_,_,(h4.tail.cJ lb lo (by omega)) i (aK y) (by rw[bm,h2];rfl)⟩
theorem aaJ {f:Nat}(I:U W w (bM lb lo c ls::L))(hi:i<ls.length)(hl:(ls.getD i []).length≤1000)(hb:bs.length≤65536)(hp:∀ w',U W w' L→aX w' ad bs.length bs) :
   Calls prog 190 #[.pointer (some ⟨lb,lo+i,none⟩),.int .i64 f,.slice ad bs.length cl] w λr w'=>∃ n er:Int,r=.returned (.tuple #[.int .i64 n,.int .i64 er])∧U W w' (bM lb lo c (ls.set i (dp (ls.getD i []) f bs))::L):=by
 obtain⟨l0,wJ⟩:∃ l0,l0=ls.getD i []:=⟨_,rfl⟩;rw[← wJ];rw[← wJ]at hl;have MT:ls.set i l0=ls:=by rw[wJ];exact KW
 refine EN func190 ntmps190 rfl rfl λa E=>?_;refine RN 7 E I λa E=>?_;rw[bq (by omega)]at E;refine RN 3 E I λa E=>?_;obtain⟨fR,gf,MU⟩:=bM.hd I hi;rw[← wJ]at MU;refine RN 4 E I λa E=>?_;refine SS E (ae E (MU)) λa E=>?_;refine IF 2 E I (λao a E=>?_) λao a E=>?_
 ·
  refine RT 3 E I ?_;exact⟨_,_,rfl,by rw[dp,ak (by omega),MT];exact I⟩
 refine RN 5 E I λa E=>?_;have dZ:f≤l0.length:=by omega
 refine aO (λμ a w=>∃ (j:Nat) (q:List UInt8),(μ=bs.length-j∧j≤bs.length∧q=l0++(bs.drop (l0.length-f)).take (j-(l0.length-f))∧q.length=l0.length+(j-(l0.length-f))∧q.length≤1000)∧Fr a 57 [(0,.pointer (some ⟨lb,lo+i,none⟩)),(1,.int .i64 f),(2,.slice ad bs.length cl),(8,.int .i64 (j-(l0.length-f):Nat)),(9,.int .i64 j)]∧U W w (bM lb lo c (ls.set i q)::L)) (bs.length) (⟨0,l0,⟨rfl,by omega,by rw[Nat.zero_sub,take_zero,append_nil],by omega,hl⟩,by rw[Nat.zero_sub];exact E.ab [0,1,2,8,9],by rw[MT];exact I⟩) ?_;clear E I;rintro μ a w ⟨j,q,⟨rfl,hj,hq,Tn,lP⟩,E,I⟩;refine IF 6 E I (λay a E=>?_) λay a E=>?_
 ·
  have dH:i<(ls.set i q).length:=by rw[bu];exact hi
  have qn:(ls.set i q).getD i []=q:=by rw[bn,getElem?_set_self hi];rfl
  obtain⟨adq,cq,ni⟩:=bM.hd I dH;rw[qn]at ni;have MV:j<bs.length:=by omega
  have sI:=(hp _ I.tail).get (by omega);refine RN 7 E I λa E=>?_;refine SS E (ae E (ni)) λa E=>?_;refine IF 4 E I (λbk a E=>?_) λbk a E=>?_
  ·
   refine RN 3 E I λa E=>?_;exact⟨bs.length-(j+1),by omega,j+1,q,⟨rfl,by omega,by rw[hq,show j-(l0.length-f)=0 from by omega,show j+1-(l0.length-f)=0 from by omega],by omega,lP⟩,by rw[show j+1-(l0.length-f)=j-(l0.length-f) from by omega];exact E.ab [0,1,2,8,9],I⟩
  refine RN 5 E I λa E=>?_;refine SS E (ae E (ni)) λa E=>?_;refine IF 2 E I (λbO a E=>?_) λbO a E=>?_
  ·
   refine RT 4 E I ?_;exact⟨_,_,rfl,by rw[dp,ag (by omega),show 1000-l0.length=j-(l0.length-f) from by omega,← hq];exact I⟩
  refine bQ 1 [8,9] [0,1,2,3,5,6,7,3004,1008,1009,1010,11,12,1013] E I λa w E I hH hC=>?_;obtain⟨bb,oo,rfl,_⟩:=sI;obtain⟨xs,y,ba,hy,tl,I⟩:=bM.out I dH;rw[qn]at tl;rw[tl]at I;have s5:=(I.tail.cJ lb lo (by omega)) i (aK y) (by rw[bm,hy];rfl);rw[aK,tl]at s5;have As:=(hp _ I.tail.tail.tail).rd (by omega);have yI:i<xs.length:=(a2.1 hy).1;replace hH:=Hd.gy I;refine RH 7 E I hH hC λa E=>?_;refine QH E (λw hc=>ae E (hc.cell (s5))) hC λa E=>?_;refine RH 0 E I hH hC λa E=>?_;refine SS E (ae E (As j _ (dQ MV))) λa E=>?_;refine RH 0 E I hH hC λa E=>?_;refine cr E rfl I underlying22 Ty.t5 rfl rfl rfl rfl (by decide) (by decide) λb50 a w E I ho=>?_;replace hC:=hC.trans ho;clear ho;refine RH 0 E I hH hC λa E=>?_;refine cK E rfl I underlying22 Ty.t5 rfl rfl I.ai rfl (eo [bs[j]]) (by decide) (by decide) (by omega) λKu Kv a w E I=>?_;rw[show bc q++_=bc (q++[bs[j]]) from (fG _ [_]).symm,show q.length+1=(q++[bs[j]]).length from by simp]at I;rw[show q.length+1=(q++[bs[j]]).length from by simp]at E;refine RN 2 E I λa E=>?_;refine l5 (off:=lo) (k:=i) E rfl I Ty.t22 rfl (by omega) (by rw[bd];exact yI) λa w E I=>?_;refine RN 6 E I λa E=>?_;have h9:=bM.put (q:=q++[bs[j]]) (ad:=Ku) (cl:=Kv) (lb:=lb) (lo:=lo) (c:=c) I ba dH;rw[set_set]at h9;exact⟨bs.length-(j+1),by omega,j+1,q++[bs[j]],⟨rfl,by omega,by rw[KJ dZ MV (by omega) (by omega),← hq],by rw[aL,jl];omega,by rw[aL,jl];omega⟩,by rw[show ((j+1-(l0.length-f):Nat):Int)=((j-(l0.length-f):Nat):Int)+1 from by omega];exact E.ab [0,1,2,8,9],h9.sub⟩
 refine RT 4 E I ?_;obtain rfl:j=bs.length:=by omega
 refine⟨_,_,rfl,?_⟩;rw[dp,ag (by omega),fX (by rw[c3];omega)];rw[hq,fX (by rw[c3];omega)]at I;exact I
abbrev yJ (n me:Nat)(id:Int)(aJ bt:Nat)(bf order cv workers room:Int)(b8 iB eJ ig:Nat)(ad:Option Addr)(i c:Nat):List Value:=[.int .i64 n,.int .i64 me,.int .i64 id,.int .i64 aJ,.int .i64 bt,.int .i64 bf,.int .i64 order,.int .i64 cv,.int .i64 workers,.int .i64 room,.slice ad i c,.int .i64 0,.slice (some ⟨b8,0,none⟩) n n,.slice (some ⟨iB,0,none⟩) n n,.slice (some ⟨eJ,0,none⟩) n n,.slice (some ⟨ig,0,none⟩) n n,.slice none 0 0,.slice none 0 0,.bool false]
theorem aaK (n d:Nat):e6 (List.replicate n (fy d))=ints .i64 n (λ_=>0):=by rw[e6,map_replicate];exact qx _ _ _
theorem aaL (n d:Nat):eS (List.replicate n (fy d))=ints .i64 n (λ_=>d):=by rw[eS,map_replicate];exact qx _ _ _
theorem aaM (n d:Nat):e7 (List.replicate n (fy d))=List.replicate n (.bool false):=by rw[e7,map_replicate];rfl
theorem aaN (n d:Nat):rows e8 (List.replicate n (fy d))=rows (λ_:Pe=>[Value.int .i64 0,.int .u32 0]) (List.replicate n (fy 0)):=by
 induction n with
 | zero=>rfl
 | succ n ih=>rw[List.replicate_succ,List.replicate_succ,nX,nX,ih];rfl
theorem aaO (d:Nat):List.replicate d (Value.int .u8 0)=bc (List.replicate d 0):=by rw[bc,map_replicate];rfl
set_option maxHeartbeats 4000000 in
theorem aaP {n me aJ bt:Nat}{id bf order cv workers room:Int}(I:U W w L)(h:eR ⟨n,me,id,aJ,bt,bf,order,cv,workers,room⟩) :
   Calls prog 65 #[.agg (bT ⟨n,me,id,aJ,bt,bf,order,cv,workers,room⟩).toArray] w λr w'=>∃ B:nM,r=.returned (pt B.cb)∧U W w' (aZ B (ff ⟨n,me,id,aJ,bt,bf,order,cv,workers,room⟩)::L):=by
 obtain⟨⟨h1,h2,h3⟩,⟨h4,h5,h6,h7⟩,h8,h9,eI,jV⟩:=h;simp only[fx] at *;refine EN func65 ntmps65 rfl rfl λa E=>?_;refine BX 1 E I λb1 a w E I=>?_;change U W w (aa b1 28 [.int .i64 n,.int .i64 me,.int .i64 id,.int .i64 aJ,.int .i64 bt,.int .i64 bf,.int .i64 order,.int .i64 cv,.int .i64 workers,.int .i64 room]::_) at I;refine RN 1 E I λa E=>?_;refine cc (M:=λa w=>∃ b8 iB eJ ig mT:Nat,Fr a 48 [(1,pt b1),(3,pt mT)]∧U W w (aa mT 72 [.int .i64 n,.int .i64 me,.int .i64 id,.int .i64 aJ,.int .i64 bt,.int .i64 bf,.int .i64 order,.int .i64 cv,.int .i64 workers,.int .i64 room,.slice none 0 0,.int .i64 0,.slice (some ⟨b8,0,none⟩) n n,.slice (some ⟨iB,0,none⟩) n n,.slice (some ⟨eJ,0,none⟩) n n,.slice (some ⟨ig,0,none⟩) n n,.slice none 0 0,.slice none 0 0,.bool false]::aa b8 3 (List.replicate n (.int .i64 0))::aa iB 3 (List.replicate n (.int .i64 0))::aa eJ 313 (rows (λ_:Pe=>[Value.int .i64 0,.int .u32 0]) (List.replicate n (fy 0)))::aa ig 4 (List.replicate n (.bool false))::aa b1 28 [.int .i64 n,.int .i64 me,.int .i64 id,.int .i64 aJ,.int .i64 bt,.int .i64 bf,.int .i64 order,.int .i64 cv,.int .i64 workers,.int .i64 room]::L)) ?_ ?_
 ·
  refine bQ 0 [2,3,5,6,8,9,11,12] [1,4,7,10,3000,3002,3005,3008,3011,2003,2006,2009,1012,13,1014,15] E I λa w E I hH hC=>?_;refine RH 9 E I hH hC λa E=>?_;refine DN [(3,[2006,2009,1012,13,1014,15]),(6,[2003,2009,1012,13,1014,15]),(9,[2003,2006,1012,13,1014,15]),(12,[2003,2006,1009,13,1014,15])] (by kernel_rfl) rfl ⟨⟨_,rfl,?_⟩,⟨_,rfl,?_⟩,⟨_,rfl,?_⟩,⟨_,rfl,?_⟩,trivial⟩
  all_goals repeat' first
   | (refine RH 0 E I hH hC λa E=>?_;(first | refine qP E rfl I underlying53 Ty.t3 rfl (by omega) (by omega) λb8 a w (E:Fr a 48 ((8,_)::_)) I ho=>?_ | refine qP E rfl I underlying53 Ty.t3 rfl (by omega) (by omega) λiB a w (E:Fr a 48 ((11,_)::_)) I ho=>?_ | refine qP E rfl I underlying67 Ty.t313 rfl (by omega) (by omega) λeJ a w E I ho=>?_ | refine qP E rfl I underlying68 Ty.t4 rfl (by omega) (by omega) λig a w E I ho=>?_);replace hC:=hC.trans ho;clear ho;(first | rw[Bn _ rfl]at I | rw[aaz]at I))
   | (refine RH 1 E I hH hC λa E=>?_;refine w6 E rfl I rfl λmT a w E I ho=>?_;replace hC:=hC.trans ho;clear ho;refine RH 1 E I hH hC λa E=>?_;exact⟨b8,iB,eJ,ig,mT,E.ab [1,3],I.sub⟩)
   | (refine RH 0 E I hH hC λa E=>?_;(first | (have q:=(iB,eJ);clear q;refine DN [(3,[1012,13,1014,15]),(12,[1003,13,1014,15])] (by kernel_rfl) rfl ⟨⟨_,rfl,?_⟩,⟨_,rfl,?_⟩,trivial⟩) | (have q:=(iB,ig);clear q;refine DN [(3,[1009,13,1014,15]),(9,[1003,13,1014,15])] (by kernel_rfl) rfl ⟨⟨_,rfl,?_⟩,⟨_,rfl,?_⟩,trivial⟩) | (have q:=(eJ,ig);clear q;refine DN [(3,[1006,13,1014,15]),(6,[1003,13,1014,15])] (by kernel_rfl) rfl ⟨⟨_,rfl,?_⟩,⟨_,rfl,?_⟩,trivial⟩) | (have q:=(b8,iB);clear q;refine DN [(9,[1012,13,1014,15]),(12,[1009,13,1014,15])] (by kernel_rfl) rfl ⟨⟨_,rfl,?_⟩,⟨_,rfl,?_⟩,trivial⟩) | (have q:=(b8,eJ);clear q;refine DN [(6,[1012,13,1014,15]),(12,[1006,13,1014,15])] (by kernel_rfl) rfl ⟨⟨_,rfl,?_⟩,⟨_,rfl,?_⟩,trivial⟩) | (have q:=(b8,ig);clear q;refine DN [(6,[1009,13,1014,15]),(9,[1006,13,1014,15])] (by kernel_rfl) rfl ⟨⟨_,rfl,?_⟩,⟨_,rfl,?_⟩,trivial⟩) | (have q:=iB;clear q;refine DN [(3,[2009,1012,13,1014,15]),(9,[2003,1012,13,1014,15]),(12,[2003,1009,13,1014,15])] (by kernel_rfl) rfl ⟨⟨_,rfl,?_⟩,⟨_,rfl,?_⟩,⟨_,rfl,?_⟩,trivial⟩) | (have q:=eJ;clear q;refine DN [(3,[2006,1012,13,1014,15]),(6,[2003,1012,13,1014,15]),(12,[2003,1006,13,1014,15])] (by kernel_rfl) rfl ⟨⟨_,rfl,?_⟩,⟨_,rfl,?_⟩,⟨_,rfl,?_⟩,trivial⟩) | (have q:=ig;clear q;refine DN [(3,[2006,1009,13,1014,15]),(6,[2003,1009,13,1014,15]),(9,[2003,1006,13,1014,15])] (by kernel_rfl) rfl ⟨⟨_,rfl,?_⟩,⟨_,rfl,?_⟩,⟨_,rfl,?_⟩,trivial⟩) | (have q:=b8;clear q;refine DN [(6,[2009,1012,13,1014,15]),(9,[2006,1012,13,1014,15]),(12,[2006,1009,13,1014,15])] (by kernel_rfl) rfl ⟨⟨_,rfl,?_⟩,⟨_,rfl,?_⟩,⟨_,rfl,?_⟩,trivial⟩)))
 clear E;(try clear I);rintro a w ⟨b8,iB,eJ,ig,mT,E,I⟩;refine RN 3 E I λa E=>?_;replace I:=I.bN 65 1 none;replace I:=U.iN (f:=a8) I;rw[qx]at I;refine aO (λμ a w=>∃ (i:Nat) (xs:List dY) (adL:Option Addr) (cL:Nat),(μ=n-i∧i≤n∧bj xs=List.replicate i (List.replicate aJ 0))∧Fr a 48 [(1,pt b1),(3,pt mT),(4,.int .i64 i)]∧U W w (aa mT 72 (yJ n me id aJ bt bf order cv workers room b8 iB eJ ig adL i cL)::Sl 65 1 adL i cL (xs.map aK)::ah a8 xs::aa b8 3 (ints .i64 n (λ_=>0))::aa iB 3 (ints .i64 n (λj=>if j<i then aJ else 0))::aa eJ 313 (rows (λ_:Pe=>[Value.int .i64 0,.int .u32 0]) (List.replicate n (fy 0)))::aa ig 4 (List.replicate n (.bool false))::aa b1 28 [.int .i64 n,.int .i64 me,.int .i64 id,.int .i64 aJ,.int .i64 bt,.int .i64 bf,.int .i64 order,.int .i64 cv,.int .i64 workers,.int .i64 room]::L)) (n) (⟨0,[],none,0,⟨rfl,by omega,rfl⟩,E.ab [1,3,4],(I.sub:U W w (aa mT 72 (yJ n me id aJ bt bf order cv workers room b8 iB eJ ig none 0 0)::Sl 65 1 none 0 0 []::ah a8 []::aa b8 3 (ints .i64 n (λ_=>0))::aa iB 3 (ints .i64 n (λ_=>0))::aa eJ 313 (rows (λ_:Pe=>[Value.int .i64 0,.int .u32 0]) (List.replicate n (fy 0)))::aa ig 4 (List.replicate n (.bool false))::aa b1 28 [.int .i64 n,.int .i64 me,.int .i64 id,.int .i64 aJ,.int .i64 bt,.int .i64 bf,.int .i64 order,.int .i64 cv,.int .i64 workers,.int .i64 room]::L))⟩) ?_;clear E I;rintro μ a w ⟨i,xs,adL,cL,⟨rfl,hi,ba⟩,E,I⟩;refine IF 6 E I (λaj a E=>?_) λaj a E=>?_
 ·
  refine bQ 2 [6,7,8,9] [0,1,2,3,5,3004,1006,1007,1008,1009,1010,11,12,1013] E I λa w E I hH hC=>?_;refine RH 7 E I hH hC λa E=>?_;refine qP E rfl I underlying22 Ty.t5 rfl (by omega) (by omega) λjB a w E I ho=>?_;replace hC:=hC.trans ho;clear ho;rw[Bn _ rfl,aaO]at I;replace I:=I.KP (m:=aJ) (sz:=1) (by rw[dt,ko,Nat.mul_one]);refine RH 1 E I hH hC λa E=>?_;refine cr E rfl I underlying66 Ty.t65 rfl rfl rfl rfl (by decide) (by decide) λb35 a w E I ho=>?_;replace hC:=hC.trans ho;clear ho;refine RH 0 E I hH hC λa E=>?_;refine cK E rfl I underlying66 Ty.t65 rfl rfl I.ai rfl (by simp[Value.oneCell']) (by decide) (by decide) (by omega) λGa Gb a w E I=>?_;rw[show List.map aK xs++_=List.map aK (xs++[(some (⟨jB,0,none⟩:Addr),aJ,List.replicate aJ 0)]) from by rw[cW,map_singleton,aK,ko];rfl]at I;refine ST 2 E I (λa w E I=>?_);refine RN 0 E I λa E=>?_;refine bQ 0 [6] [0,1,2,4,5,3003,1006,7,1008] E I λa w E I hH hC=>?_;refine RH 8 E I hH hC λa E=>?_;refine ST 0 E I (λa w E I=>?_) (hlt:=(by rw[dd];omega));rw[ints_set,xf (g:=λj=>if j=i then (aJ:Int) else if j<i then (aJ:Int) else 0) (g':=λj=>if j<i+1 then (aJ:Int) else 0) (λj _=>by
   by_cases h1:j=i
   ·subst h1;simp
   ·by_cases h2:j<i
    ·simp[h1,h2,show j<i+1 from by omega]
    ·simp[h1,h2,show ¬ j<i+1 from by omega])]at I
  refine RN 3 E I λa E=>?_;have du:=U.jM (f:=a8) (x:=(some (⟨jB,0,none⟩:Addr),aJ,List.replicate aJ 0)) (by
   show U _ _ (Sl 5 1 (some (⟨jB,0,none⟩:Addr)) (List.replicate aJ (0:UInt8)).length aJ (bc (List.replicate aJ 0))::_);rw[ko];exact I.sub (M:=Sl 5 1 (some ⟨jB,0,none⟩) aJ aJ (bc (List.replicate aJ 0))::ah a8 xs::aa mT 72 (yJ n me id aJ bt bf order cv workers room b8 iB eJ ig Ga (i+1) Gb)::Sl 65 1 Ga (i+1) Gb ((xs++[(some (⟨jB,0,none⟩:Addr),aJ,List.replicate aJ 0)]).map aK)::aa b8 3 (ints .i64 n (λ_=>0))::aa iB 3 (ints .i64 n (λj=>if j<i+1 then (aJ:Int) else 0))::aa eJ 313 (rows (λ_:Pe=>[Value.int .i64 0,.int .u32 0]) (List.replicate n (fy 0)))::aa ig 4 (List.replicate n (.bool false))::aa b1 28 [.int .i64 n,.int .i64 me,.int .i64 id,.int .i64 aJ,.int .i64 bt,.int .i64 bf,.int .i64 order,.int .i64 cv,.int .i64 workers,.int .i64 room]::L))
  exact⟨n-(i+1),by omega,i+1,xs++[(some (⟨jB,0,none⟩:Addr),aJ,List.replicate aJ 0)],Ga,Gb,⟨rfl,by omega,by rw[bj,cW,← bj,ba,replicate_succ'];rfl⟩,E.ab [1,3,4],du.sub⟩
 refine RT 3 E I ?_;obtain rfl:i=n:=by omega
 obtain⟨lb,lo,rfl,_⟩:=(I.pick (Sl 65 1 adL i cL (xs.map aK))).bV adL (by omega);rw[xf (g:=λj=>if j<i then (aJ:Int) else 0) (g':=λ_=>(aJ:Int)) (λj hj=>by simp[hj])]at I;refine⟨⟨mT,lb,lo,cL,b8,iB,eJ,ig⟩,rfl,?_⟩;have gF:(ff ⟨i,me,id,aJ,bt,bf,order,cv,workers,room⟩).ls.length=i:=by simp[ff]
 have h9:=I.sub (M:=Sl 65 1 (some ⟨lb,lo,none⟩) i cL (xs.map aK)::ah a8 xs::aa mT 72 (yJ i me id aJ bt bf order cv workers room b8 iB eJ ig (some ⟨lb,lo,none⟩) i cL)::aa b8 3 (ints .i64 i (λ_=>0))::aa iB 3 (ints .i64 i (λ_=>(aJ:Int)))::aa eJ 313 (rows (λ_:Pe=>[Value.int .i64 0,.int .u32 0]) (List.replicate i (fy 0)))::aa ig 4 (List.replicate i (.bool false))::L);have h8:=bM.close (ls:=List.replicate i (List.replicate aJ 0)) (by rw[ko];exact h9) ba;replace h8:=U.bN (U.bN h8 100 1 none) 102 3 none;refine U.shut (M:=[_,_,_,_,_,_,_,_]) (A:=aZ _ _) ?_ (λ_ h=>⟨⟨none,0,none,0⟩,h⟩);have gD:(ff ⟨i,me,id,aJ,bt,bf,order,cv,workers,room⟩).ps=List.replicate i (fy aJ):=by simp[ff]
 rw[cR,gF,gD,aaK,aaL,aaM,aaN];exact h8.sub (M:=aa mT 72 (yJ i me id aJ bt bf order cv workers room b8 iB eJ ig (some ⟨lb,lo,none⟩) i cL)::bM lb lo cL (List.replicate i (List.replicate aJ 0))::aa b8 3 (ints .i64 i (λ_=>0))::aa iB 3 (ints .i64 i (λ_=>(aJ:Int)))::aa eJ 313 (rows (λ_:Pe=>[Value.int .i64 0,.int .u32 0]) (List.replicate i (fy 0)))::aa ig 4 (List.replicate i (.bool false))::Sl 100 1 none 0 0 []::Sl 102 3 none 0 0 []::L)
end
section
variable {W w:World}{L L':List SP}{n c m lb lo i f cl:Nat}{ad:Option Addr}{ls:List (List UInt8)}{k:Ks}{A:mH}{B:nM}{x:UInt8}
theorem MW {fr m aT cq:Nat}{adq:Option Addr}{q:List UInt8}(I:U W w L)(ni:w.cell? ⟨lb,aT,none⟩=some (.slice adq q.length cq))(hqc:q.length≤cq)(oM:∀ w',U W w' L→aX w' adq q.length q)(hl:q.length≤1000)(hf:fr≤1000)(hk:1≤m∧m≤1000) :
   Calls prog 113 #[.pointer (some ⟨lb,aT,none⟩),.int .i64 fr,.int .i64 m] w λr w'=>∃ av c',r=.returned (.slice av ((q.drop fr).take m).length c')∧U W w' (Sl 5 1 av ((q.drop fr).take m).length c' (bc ((q.drop fr).take m))::L):=by
 refine EN func113 ntmps113 rfl rfl λa E=>?_;refine RN 7 E I λa E=>?_;rw[bq (by omega)]at E;refine RN 4 E I λa E=>?_;refine bo E (b7 E rfl (s:=10)) (ae E (ni)) rfl λa E=>?_;refine BY 4 E I (λkQ a E=>?_) λkQ a E=>?_
 ·
  refine RT 6 E I ?_;have hz:(q.drop fr).take m=[]:=by rw[drop_eq_nil_of_le (by omega),List.take_nil]
  rw[hz];exact⟨none,0,rfl,I.bN _ _ none⟩
 refine RN 3 E I λa E=>?_;rw[bq (by omega)]at E;refine RN 5 E I λa E=>?_;refine SS E (ae E (ni)) λa E=>?_;refine RN 9 E I λa E=>?_;rw[show min (m:Int) ((((q.length-fr:Nat):Int)))=((min m (q.length-fr):Nat):Int) from by omega]at E;refine RN 1 E I λa E=>?_;rw[qV,Nat.sub_zero,Nat.sub_zero]at E;have yK:=((oM _ I).yj (c:=cq) (lo:=fr) (n:=min m (q.length-fr)) (by omega) hqc);have hte:(q.drop fr).take (min m (q.length-fr))=(q.drop fr).take m:=by rw[List.take_eq_take_iff,c3];omega
 rw[hte]at yK;have eK:min m (q.length-fr)=((q.drop fr).take m).length:=by rw[ep,c3]
 rw[eK]at E yK;replace I:=I.bN 5 1 none;refine g2 E rfl I underlying22 Ty.t5 rfl rfl (by decide) (λh0=>yK.get h0) (by rw[dt];omega) (eo _) (by rw[ep,c3];omega) λEA EB a w E I=>?_;rw[nil_append,Nat.zero_add]at I;rw[Nat.zero_add]at E;refine RT 1 E I ?_;exact⟨_,_,rfl,I⟩
theorem aZ.Bq (I:U W w (aZ B k::L)):∃ (A:mH) (D:SP),U W w (aa B.cb 72 (cR k B A)::D::L)∧∀ (w':World) (L':List SP) (nw:Nat) (cl:Bool),U W w' (aa B.cb 72 (cR { k with now:=nw,cl:=cl } B A)::D::L')→U W w' (aZ B { k with now:=nw,cl:=cl }::L'):=by
 obtain⟨A,I⟩:=aZ.open I;have h1:U W w ([bM B.lb B.lo B.cL k.ls,aa B.hb 3 (e6 k.ps),aa B.dU 3 (eS k.ps),aa B.wb 313 (rows e8 k.ps),aa B.xb 4 (e7 k.ps),Sl 100 1 A.cj k.mr.length A.cM (c0 k.mr),Sl 102 3 A.adE k.ev.length A.cE (rows bU k.ev)]++(aa B.cb 72 (cR k B A)::L)):=I.sub (M:=bM B.lb B.lo B.cL k.ls::aa B.hb 3 (e6 k.ps)::aa B.dU 3 (eS k.ps)::aa B.wb 313 (rows e8 k.ps)::aa B.xb 4 (e7 k.ps)::Sl 100 1 A.cj k.mr.length A.cM (c0 k.mr)::Sl 102 3 A.adE k.ev.length A.cE (rows bU k.ev)::aa B.cb 72 (cR k B A)::L);refine⟨A,λh=>cn [bM B.lb B.lo B.cL k.ls,aa B.hb 3 (e6 k.ps),aa B.dU 3 (eS k.ps),aa B.wb 313 (rows e8 k.ps),aa B.xb 4 (e7 k.ps),Sl 100 1 A.cj k.mr.length A.cM (c0 k.mr),Sl 102 3 A.adE k.ev.length A.cE (rows bU k.ev)] h,?_,λw' L' nw cl I=>?_⟩
 ·exact (U.shut (A:=λh=>cn [bM B.lb B.lo B.cL k.ls,aa B.hb 3 (e6 k.ps),aa B.dU 3 (eS k.ps),aa B.wb 313 (rows e8 k.ps),aa B.xb 4 (e7 k.ps),Sl 100 1 A.cj k.mr.length A.cM (c0 k.mr),Sl 102 3 A.adE k.ev.length A.cE (rows bU k.ev)] h) h1 λ_ h=>h).perm (List.Perm.swap _ _ _)
 ·have h2:U W w' (bM B.lb B.lo B.cL k.ls::aa B.hb 3 (e6 k.ps)::aa B.dU 3 (eS k.ps)::aa B.wb 313 (rows e8 k.ps)::aa B.xb 4 (e7 k.ps)::Sl 100 1 A.cj k.mr.length A.cM (c0 k.mr)::Sl 102 3 A.adE k.ev.length A.cE (rows bU k.ev)::aa B.cb 72 (cR { k with now:=nw,cl:=cl } B A)::L'):=(I.perm (List.Perm.swap _ _ _)).open (M:=[_,_,_,_,_,_,_]) λ_ h=>h;exact aZ.fold h2 B { k with now:=nw,cl:=cl } A
def wK (k:Ks)(i:Nat):List Ml:=(k5 k i).map λj=>(k.me,j,aR (iu k j))
def wL (k:Ks)(i:Nat):List Ml:=(k5 k i).map λj=>(k.me,j,aR (dK k j))
theorem aaQ (I:U W w (aZ B k::L))(hk:WC k):Calls prog 74 #[pt B.cb] w λr w'=>∃ ad c,r=.returned (.slice ad (cy k).1.length c)∧U W w' (cm 60 ad (cy k).1.length c (cy k).1::aZ B (cy k).2::L):=by
 have hn:=hk.n;obtain⟨A,D,I,hD⟩:=aZ.Bq I;refine EN func74 ntmps74 rfl rfl λa E=>?_;refine IF 8 E I (λaj a E=>?_) λaj a E=>?_
 ·
  refine RT 2 E I ?_;refine⟨none,0,by rw[cy,ak aj];rfl,?_⟩;rw[cy,ak aj];exact cm.nil (hD _ _ k.now k.cl I)
 refine RN 5 E I λa E=>?_;have hq:cy k=((bG k).map λi=>(k.me,i,aR (iu k i)),{ k with cl:=true }):=by rw[cy,ag (by rw[aj];decide)]
 replace I:=U.bN (U.iN (f:=ca) I) 60 3 none;refine aO (λμ a w=>∃ (i:Nat) (xs:List Mx) (ad:Option Addr) (c:Nat),(μ=k.n-i∧i≤k.n∧xs.map (·.2.2)=wK k i∧xs.length≤i)∧Fr a 52 [(0,pt B.cb),(3,.slice ad xs.length c),(4,.int .i64 i)]∧U W w (Sl 60 3 ad xs.length c (rows b9 xs)::ah ca xs::aa B.cb 72 (cR k B A)::D::L)) (k.n) (⟨0,[],none,0,⟨rfl,by omega,rfl,a7 _⟩,E.ab [0,3,4],I⟩) ?_;clear E I;rintro μ a w ⟨i,xs,ad,c,⟨rfl,hi,eC,bW⟩,E,I⟩;refine IF 9 E I (λao a E=>?_) λao a E=>?_
 ·
  have lB:wK k (i+1)=if i=k.me then wK k i else wK k i++[(k.me,i,aR (iu k i))]:=by
   rw[wK,Fk];split
   ·rfl
   ·rw[cW];rfl
  refine IF 9 E I (λay a E=>?_) λay a E=>?_
  ·
   rw[ag (by omega)]at lB;refine aV 0 (λw0 w'=>Rd w' B.cb 0 (cR k B A)) [11,17,18,19] [0,1,2,3,4,6,7,8,9,10,12,13,14,15,16,3005,3011,1017,1018,1019,20,1021,1022,23] E I λa w E I hH=>?_;have hC:=hH.at w (I.ai (b:=B.cb));refine RH 15 E I hH hC λa E=>?_;refine QH E (λw hc=>ae E (hc 1 _ rfl)) hC λa E=>?_;refine QH E (λw hc=>ae E (hc 1 _ rfl)) hC λa E=>?_;refine RH 0 E I hH hC λa E=>?_;refine SS E (ae E (hC 2 _ rfl)) λa E=>?_;refine RH 1 E I hH hC λa E=>?_;refine aY 0 E I (EP (p:=iu k i) (ad:=none) (c:=0) I (by show 0<4294967296;decide) (λw' hw=>aX.nil)) λad2 c2 a w E I=>?_;replace hC:=hH.at w (I.ai (b:=B.cb));refine RH 1 E I hH hC λa E=>?_;refine cr E rfl I underlying37 Ty.t60 rfl rfl rfl rfl (by decide) (by decide) λb46 a w E I ho=>?_;clear ho;refine RN 0 E I λa E=>?_;refine cK E rfl I underlying37 Ty.t60 rfl rfl I.ai rfl (by simp[Value.oneCell']) (by decide) (by decide) (by omega) λpH ru a w E I=>?_;rw[show rows b9 xs++_=rows b9 (xs++[(ad2,c2,(k.me,i,aR (iu k i)))]) from by rw[kj];rfl,show xs.length+1=(xs++[(ad2,c2,(k.me,i,aR (iu k i)))]).length from by simp]at I;rw[show xs.length+1=(xs++[(ad2,c2,(k.me,i,aR (iu k i)))]).length from by simp]at E;refine RN 1 E I λa E=>?_;refine RN 3 E I λa E=>?_;have du:=U.jM (f:=ca) (x:=(ad2,c2,(k.me,i,aR (iu k i)))) (I.sub (M:=Sl 5 1 ad2 (aR (iu k i)).length c2 (bc (aR (iu k i)))::ah ca xs::Sl 60 3 pH (xs++[(ad2,c2,(k.me,i,aR (iu k i)))]).length ru (rows b9 (xs++[(ad2,c2,(k.me,i,aR (iu k i)))]))::aa B.cb 72 (cR k B A)::D::L));exact⟨k.n-(i+1),by omega,i+1,xs++[(ad2,c2,(k.me,i,aR (iu k i)))],pH,ru,⟨rfl,by omega,by rw[cW,eC,lB];rfl,by rw[aL];simp;omega⟩,E.ab [0,3,4],du.sub⟩
  rw[ak (by omega)]at lB;refine RN 3 E I λa E=>?_;exact⟨k.n-(i+1),by omega,i+1,xs,ad,c,⟨rfl,by omega,by rw[lB,eC],by omega⟩,E.ab [0,3,4],I⟩
 obtain rfl:i=k.n:=by omega
 refine ST 4 E I (λa w E I=>?_);refine RT 3 E I ?_;have gF:xs.length=((bG k).map λi=>(k.me,i,aR (iu k i))).length:=by
  have h1:(xs.map (·.2.2)).length=(wK k k.n).length:=by rw[eC]
  rw[bd]at h1;exact h1
 rw[hq];refine⟨ad,c,by rw[gF],?_⟩;rw[gF]at I;have h5:=hD _ _ k.now true (I.sub (M:=aa B.cb 72 (cR { k with now:=k.now,cl:=true } B A)::D::Sl 60 3 ad ((bG k).map λi=>(k.me,i,aR (iu k i))).length c (rows b9 xs)::ah ca xs::L));exact cm.close (xs:=xs) h5.sub eC rfl
theorem aaR {k:Ks}{i:Nat}(h1:∀ j,j<i→j≠k.me→¬ jm k j)(hi:i<k.n)(hm:i≠k.me)(hl:jm k i):(bG k).find? (λi=>decide (jm k i))=some i:=by
 rw[bG,List.find?_filter,List.find?_range_eq_some];refine⟨by simp[hm,hl],by simpa using hi,λj hj=>?_⟩;by_cases uF:j=k.me
 ·simp[uF]
 ·simp[h1 j hj uF]
theorem aaS {k:Ks}(h1:∀ j,j<k.n→j≠k.me→¬ jm k j):(bG k).find? (λi=>decide (jm k i))=none :=
 Ls λj hj=>bq (h1 j (wk.1 hj).1 (wk.1 hj).2)
set_option maxHeartbeats 2000000 in
theorem aaT (I:U W w (aZ B k::L))(hk:WC k)(o2:k.now≤1000000):Calls prog 73 #[pt B.cb] w λr w'=>∃ ad c,r=.returned (.slice ad (br k).1.length c)∧U W w' (cm 60 ad (br k).1.length c (br k).1::aZ B (br k).2::L):=by
 have hn:=hk.n;obtain⟨A0,D,I,hD⟩:=aZ.Bq I;refine EN func73 ntmps73 rfl rfl λa E=>?_;refine IF 8 E I (λaj a E=>?_) λaj a E=>?_
 ·
  refine RT 2 E I ?_;refine⟨none,0,by rw[br,ak aj];rfl,?_⟩;rw[br,ak aj];exact cm.nil (hD _ _ k.now k.cl I)
 have ie:br k=(match (bG { k with now:=k.now+1 }).find? (λi=>decide (jm { k with now:=k.now+1 } i)) with
  | some i=>([],{ ({ k with now:=k.now+1 }:Ks) with ev:=({ k with now:=k.now+1 }:Ks).ev++[(2,i,0)],cl:=true })
  | none=>((bG { k with now:=k.now+1 }).map λi=>(({ k with now:=k.now+1 }:Ks).me,i,aR (dK { k with now:=k.now+1 } i)),{ k with now:=k.now+1 })):=by rw[br,ag (by rw[aj];decide)];rfl
 refine RN 6 E I λa E=>?_;rw[show ((k.now:Nat):Int)+1=((k.now+1:Nat):Int) from by omega]at E;refine ST 2 E I (λa w E I=>?_);refine RN 0 E I λa E=>?_;replace I:=hD _ _ (k.now+1) k.cl I;clear hD;have eW:WC { k with now:=k.now+1 }:=hk.AQ;have pL:=hk.kD;have Fo:({ k with now:=k.now+1 }:Ks).now≤1000001:=by show k.now+1≤_;omega
 have Fp:({ k with now:=k.now+1 }:Ks).ev.length≤9:=pL;have Fq:2≤({ k with now:=k.now+1 }:Ks).n∧({ k with now:=k.now+1 }:Ks).n≤8:=hn;have aaU:({ k with now:=k.now+1 }:Ks).cl=false:=aj;replace I:U W w (aZ B { k with now:=k.now+1 }::L):=I;generalize ({ k with now:=k.now+1 }:Ks)=k1 at I eW ie Fo Fp Fq aaU;obtain⟨A,I⟩:=aZ.open I;refine RN 3 E I λa E=>?_;refine aO (λμ a w=>∃ (i:Nat),(μ=k1.n-i∧i≤k1.n∧∀ j,j<i→j≠k1.me→¬ jm k1 j)∧Fr a 154 [(0,pt B.cb),(3,.int .i64 i)]∧U W w (aa B.cb 72 (cR k1 B A)::bM B.lb B.lo B.cL k1.ls::aa B.hb 3 (e6 k1.ps)::aa B.dU 3 (eS k1.ps)::aa B.wb 313 (rows e8 k1.ps)::aa B.xb 4 (e7 k1.ps)::Sl 100 1 A.cj k1.mr.length A.cM (c0 k1.mr)::Sl 102 3 A.adE k1.ev.length A.cE (rows bU k1.ev)::L)) (k1.n) (⟨0,⟨rfl,by omega,λj hj=>by omega⟩,E.ab [0,3],I⟩) ?_;clear E I;rintro μ a w ⟨i,⟨rfl,hi,bR⟩,E,I⟩;refine IF 9 E I (λao a E=>?_) λao a E=>?_
 ·
  have cC:i<k1.n:=by omega
  have aH:i<k1.ps.length:=by rw[eW.ps];exact cC
  have iv:=eW.pI cC;have e4:=uz aH;refine bQ 2 [15,17,18] [0,1,2,3,4,1005,6,7,8,9,10,12,13,14,16,3011,1015,1017,1018,19,20,21] E I λa w E I hH hC=>?_;have jF:Rd w B.cb 0 (cR k1 B A):=I.ai (b:=B.cb);have hrh:=I.bz (b:=B.hb) (aaA e4);refine RH 5 E I hH hC λa E=>?_;refine SS E (ae E (jF 1 _ rfl)) λa E=>?_;refine RH 2 E I hH hC λa E=>?_;refine E.by (s:=34) (λjE E=>?_) (λjE E=>?_)
  ·
   refine RH 7 E I hH hC λa E=>?_;refine QH E (λw hc=>ae E (hc.cell (jF 11 _ rfl))) hC λa E=>?_;refine RH 0 E I hH hC λa E=>?_;refine bo E (b7 E rfl (s:=34)) (ae E (jF 12 _ rfl)) rfl λa E=>?_;refine RH 1 E I hH hC λa E=>?_;refine bo E (b7 E rfl (s:=34)) (ae E (hrh)) rfl λa E=>?_;refine RH 3 E I hH hC λa E=>?_;refine IF 0 E I (λay a E=>?_) λay a E=>?_
   ·
    have hlt:jm k1 i:=by rw[jm];omega
    rw[aaR bR cC (by omega) hlt]at ie;replace I:=aZ.fold I B k1 A;refine CL 3 E I (F7 (kd:=2) (pl:=i) (fr:=0) I (by omega)) λa w E I=>?_;refine RN 1 E I λa E=>?_;obtain⟨A2,Qq,I,hD2⟩:=aZ.Bq I;refine ST 3 E I (λa w E I=>?_);refine RN 0 E I λa E=>?_;replace I:=hD2 _ _ k1.now true I;refine RT 2 E I ?_;rw[ie];exact⟨none,0,rfl,cm.nil I⟩
   refine RN 3 E I λa E=>?_;exact⟨k1.n-(i+1),by omega,i+1,⟨rfl,by omega,λj hj uF=>by
    by_cases h:j=i
    ·subst h;rw[jm];omega
    ·exact bR j (by omega) uF⟩,E.ab [0,3],I⟩
  refine RH 14 E I hH hC λa E=>?_;refine RN 4 E I λa E=>?_;exact⟨k1.n-(i+1),by omega,i+1,⟨rfl,by omega,λj hj uF=>by
   by_cases h:j=i
   ·omega
   ·exact bR j (by omega) uF⟩,E.ab [0,3],I⟩
 obtain rfl:i=k1.n:=by omega
 rw[aaS bR]at ie;clear bR;have Lm:=eW.mr;have ek:k1.me<k1.ls.length:=by rw[eW.ls];exact eW.me
 obtain⟨xs,ba,I⟩:=bM.open (I.pick (bM B.lb B.lo B.cL k1.ls));have bW:xs.length=k1.ls.length:=by rw[← ba,fS]
 obtain⟨y,hy⟩:∃ y,xs[k1.me]?=some y:=⟨_,aE (by omega)⟩;have tl:k1.ls.getD k1.me []=y.2.2:=by rw[← ba,rI hy]
 have iH:y.2.2.length≤1000:=by rw[← tl];exact eW.lx
 have oK:y.2.2.length≤y.2.1:=by
  obtain⟨tj,tg⟩:=a2.1 hy;have h1:=((I.pick (ah a8 xs)).fu tj);rw[tg]at h1;have h2:U W w (Sl 5 1 y.1 y.2.2.length y.2.1 (bc y.2.2)::_):=h1;exact (h2.sl y.1).2
 refine RN 5 E I λa E=>?_;replace I:=U.bN (U.iN (f:=ca) I) 60 3 none;refine aO (λμ a w=>∃ (i:Nat) (zs:List Mx) (ad:Option Addr) (c:Nat),(μ=k1.n-i∧i≤k1.n∧zs.map (·.2.2)=wL k1 i∧zs.length≤i)∧Fr a 154 [(0,pt B.cb),(4,.slice ad zs.length c),(5,.int .i64 i)]∧U W w (Sl 60 3 ad zs.length c (rows b9 zs)::ah ca zs::aa B.cb 72 (cR k1 B A)::Sl 65 1 (some ⟨B.lb,B.lo,none⟩) k1.ls.length B.cL (xs.map aK)::ah a8 xs::aa B.hb 3 (e6 k1.ps)::aa B.dU 3 (eS k1.ps)::aa B.wb 313 (rows e8 k1.ps)::aa B.xb 4 (e7 k1.ps)::Sl 100 1 A.cj k1.mr.length A.cM (c0 k1.mr)::Sl 102 3 A.adE k1.ev.length A.cE (rows bU k1.ev)::L)) (k1.n) (⟨0,[],none,0,⟨(Nat.sub_zero _).symm,Nat.zero_le _,rfl,a7 _⟩,E.ab [0,4,5],(show U W w (Sl 60 3 none ([]:List Mx).length 0 (rows b9 [])::ah ca []::_) from I).sub⟩) ?_;clear E I;rintro μ a w ⟨i,zs,ad,c,⟨rfl,hi,qE,iY⟩,E,I⟩;refine IF 9 E I (λbk a E=>?_) λbk a E=>?_
 ·
  have lB:wL k1 (i+1)=if i=k1.me then wL k1 i else wL k1 i++[(k1.me,i,aR (dK k1 i))]:=by
   rw[wL,Fk];split
   ·rfl
   ·rw[cW];rfl
  have cC:i<k1.n:=by omega
  have aH:i<k1.ps.length:=by rw[eW.ps];exact cC
  have iv:=eW.pI cC;have e4:=uz aH;obtain⟨z,hz⟩:∃ z,xs[i]?=some z:=⟨_,aE (by rw[bW,eW.ls];exact cC)⟩;have hzq:k1.ls.getD i []=z.2.2:=by rw[← ba,rI hz]
  refine IF 10 E I (λbO a E=>?_) λbO a E=>?_
  ·
   rw[ak (by omega)]at lB;refine RN 3 E I λa E=>?_;exact⟨k1.n-(i+1),by omega,i+1,zs,ad,c,⟨rfl,by omega,by rw[lB,qE],by omega⟩,E.ab [0,4,5],I⟩
  rw[ag (by omega)]at lB;refine RN 0 E I λa E=>?_;refine cc (M:=λa w=>∃ (cH:Nat) (cY:Option Addr) (dP:Nat),Fr a 154 [(0,pt B.cb),(4,.slice ad zs.length c),(5,.int .i64 i),(6,pt cH)]∧U W w (aa cH 203 [.int .i64 1,.int .i64 k1.me,.int .i64 i,.int .i64 k1.id,.int .i64 (au k1 i).has,.slice cY ((y.2.2.drop (au k1 i).has).take 32).length dP,.int .i64 z.2.2.length,.int .i64 k1.mr.length,.int .u32 0]::Sl 5 1 cY ((y.2.2.drop (au k1 i).has).take 32).length dP (bc ((y.2.2.drop (au k1 i).has).take 32))::Sl 60 3 ad zs.length c (rows b9 zs)::ah ca zs::aa B.cb 72 (cR k1 B A)::Sl 65 1 (some ⟨B.lb,B.lo,none⟩) k1.ls.length B.cL (xs.map aK)::ah a8 xs::aa B.hb 3 (e6 k1.ps)::aa B.dU 3 (eS k1.ps)::aa B.wb 313 (rows e8 k1.ps)::aa B.xb 4 (e7 k1.ps)::Sl 100 1 A.cj k1.mr.length A.cM (c0 k1.mr)::Sl 102 3 A.adE k1.ev.length A.cE (rows bU k1.ev)::L)) ?_ ?_
  ·
   refine aV 0 (λw0 w'=>Rd w' B.cb 0 (cR k1 B A)∧w'.cell? ⟨B.dU,i,none⟩=some (.int .i64 (au k1 i).has)∧Rd w' B.lb B.lo (xs.map aK)) [10,14,16,17,21,26,27,31,33,34,35,39,41,42,43,44,48,49,51] [0,1,2,3,5,6,7,8,9,11,12,13,15,18,19,20,22,23,24,25,28,29,30,32,36,37,38,40,45,46,47,3004,3010,3014,3016,3017,3021,3026,3027,3031,3033,3034,3039,3041,3042,3043,3044,3048,3049,2035,50,1051,1052] E I λa w E I hH=>?_;have hC:=hH.at w ⟨I.ai (b:=B.cb),I.bz (b:=B.dU) (wH e4),I.cJ B.lb B.lo (by omega)⟩;refine RH 31 E I hH hC λa E=>?_;refine QH E (λw hc=>ae E (hc.1 1 _ rfl)) hC λa E=>?_;refine QH E (λw hc=>ae E (hc.1 2 _ rfl)) hC λa E=>?_;refine QH E (λw hc=>ae E (hc.1 13 _ rfl)) hC λa E=>?_;refine RH 1 E I hH hC λa E=>?_;refine QH E (λw hc=>ae E (hc.2.1)) hC λa E=>?_;refine QH E (λw hc=>ae E (hc.1 10 _ rfl)) hC λa E=>?_;refine QH E (λw hc=>ae E (hc.1 1 _ rfl)) hC λa E=>?_;refine RH 1 E I hH hC λa E=>?_;refine QH E (λw hc=>ae E (hc.1 13 _ rfl)) hC λa E=>?_;refine RH 1 E I hH hC λa E=>?_;refine QH E (λw hc=>ae E (hc.2.1)) hC λa E=>?_;refine QH E (λw hc=>ae E (hc.1 10 _ rfl)) hC λa E=>?_;refine QH E (λw hc=>Ht E underlying66 Ty.t65 (by rw[eW.ls];exact cC)) hC λa E=>?_;rw[Nat.mul_one]at E;refine RH 1 E I hH hC λa E=>?_;refine QH E (λw hc=>ae E (hc.2.2 i (aK z) (by rw[bm,hz];rfl))) hC λa E=>?_;rw[aK]at E;refine RH 1 E I hH hC λa E=>?_;refine QH E (λw hc=>ae E (hc.1 16 _ rfl)) hC λa E=>?_;refine RH 1 E I hH hC λa E=>?_;refine DN [(35,[50,1051,1052]),(51,[1035,50,1052])] (by kernel_rfl) rfl ⟨⟨_,rfl,?_⟩,⟨_,rfl,?_⟩,trivial⟩
   ·
    refine RH 0 E I hH hC λa E=>?_;refine aY 0 E I (MW (q:=y.2.2) (adq:=y.1) (cq:=y.2.1) (m:=32) I (by have h9:=hC.2.2 k1.me (aK y) (by rw[bm,hy];rfl);exact h9) oK (λw' hw=>(U.oN (hw.sub (M:=Sl 65 1 (some ⟨B.lb,B.lo,none⟩) k1.ls.length B.cL (xs.map aK)::ah a8 xs::[]))).2 y (bH hy)) iH iv.1 (by decide)) λcY dP a w E I=>?_;replace hC:=hH.at w ⟨I.ai (b:=B.cb),I.bz (b:=B.dU) (wH e4),I.cJ B.lb B.lo (by omega)⟩;refine RH 1 E I hH hC λa E=>?_;refine eV E rfl I Ty.t203 rfl λcH a w E I ho=>?_;clear ho;replace hC:=hH.at w ⟨I.ai (b:=B.cb),I.bz (b:=B.dU) (wH e4),I.cJ B.lb B.lo (by omega)⟩;refine RH 0 E I hH hC λa E=>?_;refine SA 0 E I λa w E I=>?_;refine RN 0 E I λa E=>?_;exact⟨cH,cY,dP,E.ab [0,4,5,6],I.sub⟩
   refine RH 0 E I hH hC λa E=>?_;refine eV E rfl I Ty.t203 rfl λcH a w E I ho=>?_;clear ho;replace hC:=hH.at w ⟨I.ai (b:=B.cb),I.bz (b:=B.dU) (wH e4),I.cJ B.lb B.lo (by omega)⟩;refine RH 0 E I hH hC λa E=>?_;refine aY 0 E I (MW (q:=y.2.2) (adq:=y.1) (cq:=y.2.1) (m:=32) I (by have h9:=hC.2.2 k1.me (aK y) (by rw[bm,hy];rfl);exact h9) oK (λw' hw=>(U.oN (hw.sub (M:=Sl 65 1 (some ⟨B.lb,B.lo,none⟩) k1.ls.length B.cL (xs.map aK)::ah a8 xs::[]))).2 y (bH hy)) iH iv.1 (by decide)) λcY dP a w E I=>?_;replace hC:=hH.at w ⟨I.ai (b:=B.cb),I.bz (b:=B.dU) (wH e4),I.cJ B.lb B.lo (by omega)⟩;refine RH 1 E I hH hC λa E=>?_;refine SA 0 E I λa w E I=>?_;refine RN 0 E I λa E=>?_;exact⟨cH,cY,dP,E.ab [0,4,5,6],I.sub⟩
  clear E;(try clear I);rintro a w ⟨cH,cY,dP,E,I⟩;refine cc (M:=λa w=>Fr a 154 [(0,pt B.cb),(4,.slice ad zs.length c),(5,.int .i64 i),(6,pt cH)]∧U W w (aa cH 203 [.int .i64 1,.int .i64 k1.me,.int .i64 i,.int .i64 k1.id,.int .i64 (au k1 i).has,.slice cY ((y.2.2.drop (au k1 i).has).take 32).length dP,.int .i64 z.2.2.length,.int .i64 k1.mr.length,.int .u32 (k1.mr.getLastD 0:Nat)]::Sl 5 1 cY ((y.2.2.drop (au k1 i).has).take 32).length dP (bc ((y.2.2.drop (au k1 i).has).take 32))::Sl 60 3 ad zs.length c (rows b9 zs)::ah ca zs::aa B.cb 72 (cR k1 B A)::Sl 65 1 (some ⟨B.lb,B.lo,none⟩) k1.ls.length B.cL (xs.map aK)::ah a8 xs::aa B.hb 3 (e6 k1.ps)::aa B.dU 3 (eS k1.ps)::aa B.wb 313 (rows e8 k1.ps)::aa B.xb 4 (e7 k1.ps)::Sl 100 1 A.cj k1.mr.length A.cM (c0 k1.mr)::Sl 102 3 A.adE k1.ev.length A.cE (rows bU k1.ev)::L)) ?_ ?_
  ·
   refine IF 7 E I (λeE a E=>?_) λeE a E=>?_
   ·
    refine bQ 0 [7,8,9] [0,1,2,4,5,6,3003,1007,1008,1009,10,1011,12,1013] E I λa w E I hH hC=>?_;obtain⟨Fh,Fi,Fm,lA⟩:=((I).pick (Sl 100 1 A.cj k1.mr.length A.cM (c0 k1.mr))).bV A.cj (by omega);have jF:w.cell? ⟨B.cb,16,none⟩=some (.slice A.cj k1.mr.length A.cM):=I.bz (b:=B.cb) rfl;rw[Fm]at jF;refine RH 6 E I hH hC λa E=>?_;refine QH E (λw hc=>ae E (hc.cell (jF))) hC λa E=>?_;refine RH 0 E I hH hC λa E=>?_;refine SS E (ae E (jF)) λa E=>?_;refine RH 2 E I hH hC λa E=>?_;rw[show ((k1.mr.length:Nat):Int)-1=((k1.mr.length-1:Nat):Int) from by omega]at E;refine RH 1 E I hH hC λa E=>?_;refine SS E (ae E (lA (k1.mr.length-1) _ (AU (by omega)))) λa E=>?_;refine RH 1 E I hH hC λa E=>?_;refine ST 0 E I (λa w E I=>?_);refine RN 0 E I λa E=>?_;rw[Ll (by omega)]at I;exact⟨E.ab [0,4,5,6],I.sub⟩
   refine RN 0 E I λa E=>?_;have h0:k1.mr.getLastD 0=0:=by rw[gW (l:=k1.mr) (by omega)];rfl
   exact⟨E.ab [0,4,5,6],by rw[h0];exact I⟩
  clear E;(try clear I);rintro a w ⟨E,I⟩;refine RN 0 E I λa E=>?_;have hmp:dJ (dK k1 i) cY dP=[.int .i64 1,.int .i64 k1.me,.int .i64 i,.int .i64 k1.id,.int .i64 (au k1 i).has,.slice cY ((y.2.2.drop (au k1 i).has).take 32).length dP,.int .i64 z.2.2.length,.int .i64 k1.mr.length,.int .u32 (k1.mr.getLastD 0:Nat)]:=by
   rw[← tl,← hzq];rfl
  have aaV:(dK k1 i).al=(y.2.2.drop (au k1 i).has).take 32:=by rw[← tl];rfl
  rw[← hmp]at I;refine aV 0 (λw0 w'=>Rd w' B.cb 0 (cR k1 B A)∧Rd w' cH 0 (dJ (dK k1 i) cY dP)) [7,8] [0,1,2,3,4,6,3005,1007,1008,9,1010,1011,12] E I λa w E I hH=>?_;have hC:=hH.at w ⟨I.ai (b:=B.cb),I.ai (b:=cH)⟩;refine RH 6 E I hH hC λa E=>?_;refine QH E (λw hc=>ae E (hc.1 1 _ rfl)) hC λa E=>?_;refine RH 0 E I hH hC λa E=>?_;refine SS E (bS E underlying203 rfl Ty.t203 (hC.2)) λa E=>?_;refine RH 0 E I hH hC λa E=>?_;refine aY 0 E I (EP (p:=dK k1 i) (ad:=cY) (c:=dP) I (by
   show k1.mr.getLastD 0<4294967296;rw[getLastD_eq_getLast?];cases hl:k1.mr.getLast? with
   | none=>decide
   | some s=>exact eW.rB s (List.mem_of_getLast? hl)) (λw' hw=>by
   have h9:=(hw.pick (Sl 5 1 cY ((y.2.2.drop (au k1 i).has).take 32).length dP (bc ((y.2.2.drop (au k1 i).has).take 32)))).cu cY _ rfl rfl;rw[aaV];exact h9)) λad2 c2 a w E I=>?_
  replace hC:=hH.at w ⟨I.ai (b:=B.cb),I.ai (b:=cH)⟩;refine RH 1 E I hH hC λa E=>?_;refine cr E rfl I underlying37 Ty.t60 rfl rfl rfl rfl (by decide) (by decide) λafp a w E I ho=>?_;clear ho;refine RN 0 E I λa E=>?_;refine cK E rfl I underlying37 Ty.t60 rfl rfl I.ai rfl (by simp[Value.oneCell']) (by decide) (by decide) (by omega) λMX MY a w E I=>?_;rw[show rows b9 zs++_=rows b9 (zs++[(ad2,c2,(k1.me,i,aR (dK k1 i)))]) from by rw[kj];rfl,show zs.length+1=(zs++[(ad2,c2,(k1.me,i,aR (dK k1 i)))]).length from by simp]at I;rw[show zs.length+1=(zs++[(ad2,c2,(k1.me,i,aR (dK k1 i)))]).length from by simp]at E;refine RN 1 E I λa E=>?_;refine RN 3 E I λa E=>?_;have du:=U.jM (f:=ca) (x:=(ad2,c2,(k1.me,i,aR (dK k1 i)))) (I.sub (M:=Sl 5 1 ad2 (aR (dK k1 i)).length c2 (bc (aR (dK k1 i)))::ah ca zs::Sl 60 3 MX (zs++[(ad2,c2,(k1.me,i,aR (dK k1 i)))]).length MY (rows b9 (zs++[(ad2,c2,(k1.me,i,aR (dK k1 i)))]))::aa B.cb 72 (cR k1 B A)::Sl 65 1 (some ⟨B.lb,B.lo,none⟩) k1.ls.length B.cL (xs.map aK)::ah a8 xs::aa B.hb 3 (e6 k1.ps)::aa B.dU 3 (eS k1.ps)::aa B.wb 313 (rows e8 k1.ps)::aa B.xb 4 (e7 k1.ps)::Sl 100 1 A.cj k1.mr.length A.cM (c0 k1.mr)::Sl 102 3 A.adE k1.ev.length A.cE (rows bU k1.ev)::L));exact⟨k1.n-(i+1),by omega,i+1,zs++[(ad2,c2,(k1.me,i,aR (dK k1 i)))],MX,MY,⟨rfl,by omega,by rw[cW,qE,lB];rfl,by rw[aL];simp;omega⟩,E.ab [0,4,5],du.sub⟩
 obtain rfl:i=k1.n:=by omega
 refine RT 3 E I ?_;have gF:zs.length=((bG k1).map λi=>(k1.me,i,aR (dK k1 i))).length:=by
  have h1:(zs.map (·.2.2)).length=(wL k1 k1.n).length:=by rw[qE]
  rw[bd]at h1;exact h1
 rw[ie];refine⟨ad,c,by rw[gF],?_⟩;rw[gF]at I;have h4:=bM.close (xs:=xs) (ls:=k1.ls) (lb:=B.lb) (lo:=B.lo) (c:=B.cL) (W:=W) (w:=w) (L:=Sl 60 3 ad ((bG k1).map λi=>(k1.me,i,aR (dK k1 i))).length c (rows b9 zs)::ah ca zs::aa B.cb 72 (cR k1 B A)::aa B.hb 3 (e6 k1.ps)::aa B.dU 3 (eS k1.ps)::aa B.wb 313 (rows e8 k1.ps)::aa B.xb 4 (e7 k1.ps)::Sl 100 1 A.cj k1.mr.length A.cM (c0 k1.mr)::Sl 102 3 A.adE k1.ev.length A.cE (rows bU k1.ev)::L) I.sub ba;have h5:=(aZ.fold h4 B k1 A);exact cm.close (xs:=zs) h5.sub qE rfl
end
section
variable {W w:World}{L R:List SP}{n c lb lo i f cl to:Nat}{ad:Option Addr}{ls:List (List UInt8)}{k:Ks}{A:mH}{B:nM}{bs:List UInt8}{e:j6}
theorem aaW {a b:Nat}:((max a b:Nat):Int)=max (a:Int) (b:Int):=by omega
theorem aaX {l:List (List UInt8)}(h:l.length=k.ls.length)(ps:List Pe):cR { k with ls:=l,ps:=ps } B A=cR k B A:=by simp only[cR,h]
theorem aZ.aaY (I:U W w L)(B:nM)(k:Ks)(A:mH){l:List (List UInt8)}(h:l.length=k.ls.length)[kk:fD L [aa B.cb 72 (cR k B A),bM B.lb B.lo B.cL l,aa B.hb 3 (e6 k.ps),aa B.dU 3 (eS k.ps),aa B.wb 313 (rows e8 k.ps),aa B.xb 4 (e7 k.ps),Sl 100 1 A.cj k.mr.length A.cM (c0 k.mr),Sl 102 3 A.adE k.ev.length A.cE (rows bU k.ev)] R]:U W w (aZ B { k with ls:=l }::R):=by
 have h1:=I.perm kk.perm;rw[← aaX (l:=l) h k.ps]at h1;exact U.shut (M:=[_,_,_,_,_,_,_,_]) h1 λ_ h=>⟨A,h⟩
set_option maxHeartbeats 2000000 in
theorem aaZ (I:U W w (aZ B k::L))(hk:WC k)(hh:held k)(hb:bs.length≤65536)(hc:bs.length≤c)(hp:∀ w',U W w' L→aX w' ad bs.length bs) :
   Calls prog 155 #[pt B.cb,.slice ad bs.length c] w λr w'=>r=.returned (.int .i64 (dw bs k).1)∧U W w' (aZ B (dw bs k).2::L):=by
 have hn:=hk.n;obtain⟨A0,I⟩:=aZ.open I;refine EN func155 ntmps155 rfl rfl λa E=>?_;refine IF 8 E I (λaj a E=>?_) λaj a E=>?_
 ·
  replace I:=aZ.fold I B k A0;refine RT 2 E I ?_;exact⟨by rw[AX aj],by rw[AX aj];exact I.sub⟩
 replace I:=aZ.fold I B k A0;refine jP 2 E I (Ye (I.pick (aZ B k)) hb hc (λw' hw=>hp w' hw.tail)) ?_;clear E I;rintro e w ⟨p,adP,cP,ok,rfl,MZ,Bs,I⟩;refine⟨_,rfl,λa E=>?_⟩;refine AL 3 E I λb5 a w E I=>?_;refine SA 0 E I λa w E I=>?_;refine RN 3 E I λa E=>?_;obtain⟨A,I⟩:=aZ.open (I.pick (aZ B k));refine bQ 0 [9,19,29] [0,1,2,3,5,6,7,8,3004,1009,10,11,12,13,15,16,17,18,3014,1019,20,21,22,23,25,26,27,28,3024,1029,30,31] E I λa w E I hH hC=>?_;refine RH 3 E I hH hC λa E=>?_;refine E.by (s:=18) (λbA E=>?_) (λbA E=>?_)
 ·
  have dj:ok=false:=by revert bA;cases ok <;> simp
  have c6:eu bs=none:=Bs dj;refine RH 29 E I hH hC λa E=>?_;refine RT 3 E I ?_;rw[Lz aj c6];exact⟨rfl,(aZ.fold I B k A).sub⟩
 have dj:ok=true:=by revert bA;cases ok <;> simp
 have pM:eu bs=some p:=MZ dj;obtain⟨s6,gD,_⟩:=Es pM;have Fs:=s6.1;refine RH 10 E I hH hC λa E=>?_;refine E.by (s:=28) (λhY E=>?_) (λhY E=>?_)
 ·
  refine RH 19 E I hH hC λa E=>?_;refine RT 3 E I ?_;rw[wq aj pM (.inl hY)];exact⟨rfl,(aZ.fold I B k A).sub⟩
 refine RH 10 E I hH hC λa E=>?_;refine E.by (s:=38) (λpE E=>?_) (λpE E=>?_)
 ·
  refine RH 9 E I hH hC λa E=>?_;refine RT 3 E I ?_;rw[wq aj pM (.inr (.inl pE))];exact⟨rfl,(aZ.fold I B k A).sub⟩
 refine RH 9 E I hH hC λa E=>?_;refine IF 0 E I (λao a E=>?_) λao a E=>?_
 ·
  refine RT 2 E I ?_;rw[wq aj pM (.inr (.inr ao))];exact⟨rfl,(aZ.fold I B k A).sub⟩
 have bR:¬ (p.to≠k.me∨(k.n:Int)≤p.aW∨p.id≠k.id):=by
  rintro (h | h | h)
  ·exact h hY
  ·omega
  ·exact h ao
 rw[LA aj pM bR];clear MZ Bs dj;obtain⟨fr,fp⟩:=Int.eq_ofNat_of_zero_le Fs.1;have g6:fr<k.n:=by omega
 have dZ:fr<k.ls.length:=by rw[hk.ls];exact g6
 have nd:fr<k.ps.length:=by rw[hk.ps];exact g6
 have Ft:fr≠k.me:=by have:=s6.2.2.1;omega
 have iv:=hk.pI g6;have jG:p.aW.toNat=fr:=by omega
 have e4:=uz nd;refine bQ 1 [5,9] [0,1,2,4,6,7,8,3003,3005,1009,10,1011] E I λa w E I hH hC=>?_;refine RH 9 E I hH hC λa E=>?_;rw[fp]at E;refine RH 2 E I hH hC λa E=>?_;refine ST 0 E I (λa w E I=>?_) (hlt:=(by rw[e6,bd];exact nd));rw[aaD { au k fr with heard:=k.now } rfl,← F3 e4 { au k fr with heard:=k.now } rfl,← F5 e4 { au k fr with heard:=k.now } rfl rfl,← F4 e4 { au k fr with heard:=k.now } rfl]at I;have cd:=hk.peer (q:={ au k fr with heard:=k.now }) g6 ⟨iv.1,iv.2.2⟩ (a7 _) rfl;have wv:(k.ps.set fr { au k fr with heard:=k.now })[fr]?=some { au k fr with heard:=k.now }:=getElem?_set_self nd;replace I:=aZ.fold I B { k with ps:=k.ps.set fr { au k fr with heard:=k.now } } A;refine RN 0 E I λa E=>?_;refine cc (M:=λa w=>∃ k4:Ks,(k4=(if p.kind=2 then { k with ps:=k.ps.set fr { au k fr with heard:=k.now },ev:=k.ev++[(1,fr,0)],cl:=true } else { k with ls:=k.ls.set fr (dp (k.ls.getD fr []) p.first.toNat p.al),ps:=k.ps.set fr (fP k.now (aD k) p (au k fr)) })∧WC k4)∧Fr a 135 [(0,pt B.cb)]∧U W w (aZ B k4::L)) ?_ ?_
 ·
  refine IF 4 E I (λay a E=>?_) λay a E=>?_
  ·
   refine RN 4 E I λa E=>?_;rw[fp]at E;refine CL 0 E I (F7 (kd:=1) (pl:=fr) (fr:=0) I (by have:=hk.kD;show k.ev.length≤100;omega)) λa w E I=>?_;refine RN 0 E I λa E=>?_;obtain⟨A2,D,I,hD⟩:=aZ.Bq I;refine ST 3 E I (λa w E I=>?_);refine RN 0 E I λa E=>?_;replace I:=hD _ _ k.now true I;exact⟨_,⟨by rw[ak ay],by have h9:=(hk.yn s6 gD (by omega) aj).1;rw[fQ,ak ay,jG]at h9;exact h9⟩,E.ab [0],I.sub⟩
  refine RN 1 E I λa E=>?_;have gZ:eG p.first∧eG p.c7∧eG p.frame∧p.al.length≤32:=by
   rcases s6.2.2.2.2 with h | h
   ·exact h.2
   ·exact absurd h.1 ay
  simp only[eG]at gZ;obtain⟨fi,wu⟩:=Int.eq_ofNat_of_zero_le gZ.1.1;obtain⟨jr,AY⟩:=Int.eq_ofNat_of_zero_le gZ.2.1.1;obtain⟨j7,Fu⟩:=Int.eq_ofNat_of_zero_le gZ.2.2.1.1;have yv:p.first.toNat=fi:=by omega
  obtain⟨A2,I⟩:=aZ.open I;refine bQ 0 [5,8,10] [0,1,2,4,7,9,3003,3005,6,3008,1010,1011] E I λa w E I hH hC=>?_;refine RH 8 E I hH hC λa E=>?_;rw[fp]at E;refine RH 2 E I hH hC λa E=>?_;rw[wu]at E;refine RH 1 E I hH hC λa E=>?_;refine aY 0 E I (aaJ (f:=fi) (bs:=p.al) (I.pick (bM B.lb B.lo B.cL k.ls)) dZ (hk.lW g6) (by omega) (λw' hw=>(hw.pick (Sl 5 1 adP p.al.length cP (bc p.al))).cu adP p.al rfl rfl)) λLC er a w E I=>?_;refine RN 0 E I λa E=>?_;have du:U W w (aZ B { k with ls:=k.ls.set fr (dp (k.ls.getD fr []) fi p.al),ps:=k.ps.set fr { au k fr with heard:=k.now } }::_):=aZ.aaY (l:=k.ls.set fr (dp (k.ls.getD fr []) fi p.al)) I B { k with ps:=k.ps.set fr { au k fr with heard:=k.now } } A2 (bu ..);replace I:=du;clear du;have mc:=cd.line (i:=fr) (l:=dp (k.ls.getD fr []) fi p.al) (rz (hk.lW g6)).2;have gS:aD ({ k with ls:=k.ls.set fr (dp (k.ls.getD fr []) fi p.al),ps:=k.ps.set fr { au k fr with heard:=k.now } }:Ks)=aD k:=by
   show ((k.ls.set fr _).getD k.me []).length=_;rw[Lw Ft];rfl
  refine cc (M:=λa w=>∃ hh:Nat,hh=(if (au k fr).has<jr∧jr≤aD k then jr else (au k fr).has)∧Fr a 135 [(0,pt B.cb),(5,pt b5)]∧U W w (aZ B { k with ls:=k.ls.set fr (dp (k.ls.getD fr []) fi p.al),ps:=k.ps.set fr { au k fr with heard:=k.now,has:=hh } }::aa b5 203 (dJ p adP cP)::L)) ?_ ?_
  ·
   refine aV 1 (λw0 w'=>Rd w' b5 0 (dJ p adP cP)) [3] [0,2,3001,1003,4] E I λa w E I hH=>?_;have hC:=hH.at w (I.ai (b:=b5));refine RH 2 E I hH hC λa E=>?_;refine QH E (λw hc=>ae E (hc 6 _ rfl)) hC λa E=>?_;rw[AY]at E;refine RH 0 E I hH hC λa E=>?_;refine CL 0 E I (rL I mc) λa w E I=>?_;replace hC:=hH.at w (I.ai (b:=b5));rw[gS]at E;refine RH 1 E I hH hC λa E=>?_;refine IF 0 E I (λbk a E=>?_) λbk a E=>?_
   ·
    refine RN 0 E I λa E=>?_;obtain⟨A3,I⟩:=aZ.open I;have xg:(eS (k.ps.set fr { au k fr with heard:=k.now }))[fr]?=some (Value.int .i64 (au k fr).has):=by
     have h:=wH wv;exact h
    refine bQ 0 [5,9,11,12,13,15,16] [0,1,2,4,6,7,8,10,14,3003,3005,3009,3011,3012,3013,1015,1016,17,1018] E I λa w E I hH hC=>?_;refine RH 11 E I hH hC λa E=>?_;rw[fp]at E;refine RH 2 E I hH hC λa E=>?_;rw[fp]at E;refine RH 1 E I hH hC λa E=>?_;refine QH E (λw hc=>ae E (hc.cell (I.bz (b:=B.dU) xg))) hC λa E=>?_;refine RH 1 E I hH hC λa E=>?_;rw[AY]at E;refine RH 2 E I hH hC λa E=>?_;refine ST 0 E I (λa w E I=>?_) (hlt:=(by rw[eS,bd,bu];exact nd));rw[aaE { au k fr with heard:=k.now,has:=max (au k fr).has jr } aaW,← F2 wv { au k fr with heard:=k.now,has:=max (au k fr).has jr } rfl,← F5 wv { au k fr with heard:=k.now,has:=max (au k fr).has jr } rfl rfl,← F4 wv { au k fr with heard:=k.now,has:=max (au k fr).has jr } rfl,set_set]at I;replace I:=aZ.fold I B { k with ls:=k.ls.set fr (dp (k.ls.getD fr []) fi p.al),ps:=k.ps.set fr { au k fr with heard:=k.now,has:=max (au k fr).has jr } } A3;refine RN 0 E I λa E=>?_;exact⟨max (au k fr).has jr,by split <;> omega,E.ab [0,5],I.sub⟩
   refine RN 0 E I λa E=>?_;exact⟨_,by rw[ag (by omega)],E.ab [0,5],I.sub⟩
  clear E;(try clear I);rintro a w ⟨hh,yu,E,I⟩;refine bQ 1 [9,11,12,13,14] [0,1001,2,3,4,6,7,8,10,3005,3009,1011,1012,1013,1014,15,16] E I λa w E I hH hC=>?_;have wx:(k.ps.set fr { au k fr with heard:=k.now,has:=hh })[fr]?=some { au k fr with heard:=k.now,has:=hh }:=getElem?_set_self nd;have Fv:p.c7.toNat=jr:=by omega
  have Fw:p.frame.toNat=j7:=by omega
  have hP:fP k.now (aD k) p (au k fr)=(if 0<p.frame∧((au k fr).frame:Int)≤p.frame then { au k fr with heard:=k.now,has:=hh,frame:=j7,sum:=p.sum } else { au k fr with heard:=k.now,has:=hh }):=by
   rw[fP,Fv,Fw,yu]
  have uB:hh≤1000:=by rw[yu];split <;> omega
  obtain⟨Gc,I⟩:=aZ.open I;have fb:=jo Bo (I.ai (b:=B.wb)) wx;rw[Nat.zero_add]at fb;replace hH:=Hd.gy I;refine RH 4 E I hH hC λa E=>?_;refine E.by (s:=107) (λbX E=>?_) (λbX E=>?_)
  ·
   refine RH 8 E I hH hC λa E=>?_;rw[fp]at E;refine RH 2 E I hH hC λa E=>?_;refine bo E (b7 E rfl (s:=107)) (ae E (fb 0 (.int .i64 (au k fr).frame) rfl)) rfl λa E=>?_;refine RH 2 E I hH hC λa E=>?_;refine IF 0 E I (λbO a E=>?_) λbO a E=>?_
   ·
    refine bQ 0 [5,7,9,10] [0,1,2,4,6,8,3003,3005,3007,1009,1010,11,1012] E I λa w E I hH hC=>?_;refine RH 8 E I hH hC λa E=>?_;rw[fp]at E;refine RH 1 E I hH hC λa E=>?_;rw[Fu]at E;refine RH 3 E I hH hC λa E=>?_;refine qK E rfl I Ty.t313 (by simp[Value.oneCell']) (by rw[ja Bo,bu];show fr*2+2≤_;omega) λa w E I=>?_;rw[show cG (rows e8 (k.ps.set fr { au k fr with heard:=k.now,has:=hh })) (fr*2) [Value.int .i64 j7,Value.int .u32 p.sum]=rows e8 ((k.ps.set fr { au k fr with heard:=k.now,has:=hh }).set fr { au k fr with heard:=k.now,has:=hh,frame:=j7,sum:=p.sum }) from HX Bo _ { au k fr with heard:=k.now,has:=hh,frame:=j7,sum:=p.sum } (by rw[bu];exact nd),← F2 wx { au k fr with heard:=k.now,has:=hh,frame:=j7,sum:=p.sum } rfl,← F3 wx { au k fr with heard:=k.now,has:=hh,frame:=j7,sum:=p.sum } rfl,← F4 wx { au k fr with heard:=k.now,has:=hh,frame:=j7,sum:=p.sum } rfl,set_set]at I;replace I:=aZ.fold I B { k with ls:=k.ls.set fr (dp (k.ls.getD fr []) fi p.al),ps:=k.ps.set fr { au k fr with heard:=k.now,has:=hh,frame:=j7,sum:=p.sum } } Gc;refine RN 0 E I λa E=>?_;exact⟨_,⟨by rw[ag ay,yv,hP,ak (by omega)],(hk.peer (q:={ au k fr with heard:=k.now,has:=hh,frame:=j7,sum:=p.sum }) g6 ⟨uB,by show j7≤1000;omega,gD⟩ (a7 _) rfl).line (rz (hk.lW g6)).2⟩,E.ab [0],I.sub⟩
   refine RN 0 E I λa E=>?_;exact⟨_,⟨by rw[ag ay,yv,hP,ag (by omega)],(hk.peer (q:={ au k fr with heard:=k.now,has:=hh }) g6 ⟨uB,iv.2.2⟩ (a7 _) rfl).line (rz (hk.lW g6)).2⟩,E.ab [0],(aZ.fold I B { k with ls:=k.ls.set fr (dp (k.ls.getD fr []) fi p.al),ps:=k.ps.set fr { au k fr with heard:=k.now,has:=hh } } Gc).sub⟩
  refine RH 13 E I hH hC λa E=>?_;refine RN 1 E I λa E=>?_;exact⟨_,⟨by rw[ag ay,yv,hP,ag (by omega)],(hk.peer (q:={ au k fr with heard:=k.now,has:=hh }) g6 ⟨uB,iv.2.2⟩ (a7 _) rfl).line (rz (hk.lW g6)).2⟩,E.ab [0],(aZ.fold I B { k with ls:=k.ls.set fr (dp (k.ls.getD fr []) fi p.al),ps:=k.ps.set fr { au k fr with heard:=k.now,has:=hh } } Gc).sub⟩
 clear E;(try clear I);rintro a w ⟨k4,⟨ov,hkw⟩,E,I⟩;refine CL 2 E I (MR I hkw) λa w E I=>?_;refine RT 2 E I ?_;refine⟨rfl,?_⟩;have hz:kZ k4=fQ k p:=by
  by_cases h2:p.kind=2
  ·rw[ov,ak h2,fQ,ak h2,jG];refine held.kZ (hh.of rfl (bu ..) λi hi=>?_);by_cases h:i=fr
   ·subst h;rw[show au { k with ps:=k.ps.set i { au k i with heard:=k.now },ev:=k.ev++[(1,i,0)],cl:=true } i={ au k i with heard:=k.now } from by rw[au,bn,getElem?_set_self hi];rfl];exact⟨rfl,rfl,rfl⟩
   ·rw[show au { k with ps:=k.ps.set fr { au k fr with heard:=k.now },ev:=k.ev++[(1,fr,0)],cl:=true } i=au k i from by rw[au,bn,getElem?_set_ne (Ne.symm h),au,bn]];exact⟨rfl,rfl,rfl⟩
  ·rw[ov,ag h2,fQ,ag h2,jG]
 rw[hz]at I;exact I
end
end
section
def bB:Pr:=⟨⟨#[115,117,109]⟩,[⟨1,30,1,0⟩,⟨11,1,0,0⟩,⟨5,2,2,31⟩,⟨3,2,2,1⟩,⟨3,0,0,30⟩,⟨1,29,8,0⟩,⟨7,28,0,29⟩,⟨10,28,9,0⟩,⟨9,1,0,0⟩,⟨1,0,0,0⟩,⟨15,31,0,0⟩,⟨13,31,2,0⟩]⟩
theorem Ge {s:ByteArray}{i b:Nat}(hb:j2 s i=b)(h:b<128):Utf8.decode s i=(b,1):=by
 simp only[j2]at hb;simp[Utf8.decode,hb,h]
theorem aa0:ea bB.title 0=[(115,1),(117,1),(109,1)]:=by
 have h1:bB.title.size=3:=rfl;have h2:Utf8.decode bB.title 0=(115,1):=Ge (b:=115) rfl (by decide);have h3:Utf8.decode bB.title 1=(117,1):=Ge (b:=117) rfl (by decide);have h4:Utf8.decode bB.title 2=(109,1):=Ge (b:=109) rfl (by decide);have r3:ea bB.title 3=[]:=q4 (by omega);have r2:ea bB.title 2=[(109,1)]:=by rw[q3 (by omega),dX,ak (by omega),h4];exact congrArg _ r3
 have r1:ea bB.title 1=[(117,1),(109,1)]:=by rw[q3 (by omega),dX,ak (by omega),h3];exact congrArg _ r2
 rw[q3 (by omega),dX,ak (by omega),h2];exact congrArg _ r1
theorem qF:dh bB:=by
 refine⟨⟨?_,by decide,by decide,?_⟩,?_⟩
 ·rw[pg,aa0];decide
 ·intro o ho;simp[bB]at ho;rcases ho with rfl | rfl | rfl | rfl | rfl | rfl | rfl | rfl | rfl | rfl | rfl | rfl <;> simp[q5,dk]
 ·intro o ho;simp[bB]at ho;rcases ho with rfl | rfl | rfl | rfl | rfl | rfl | rfl | rfl | rfl | rfl | rfl | rfl <;> simp[eZ,eY,bB]
section
variable {W w:World}{L:List SP}{n c:Nat}{ad:Option Addr}
theorem M0 (I:U W w L):Calls prog 25 #[] w λe w'=>∃ ad,e=.returned (.agg (bP bB ad 12).toArray)∧U W w' (aA W bB ad 12::L):=by
 refine EN func25 ntmps25 rfl rfl λa E=>?_;refine AL 1 E I λzB a w E I=>?_;refine RN 13 E I λa E=>?_;refine cr E rfl I underlying43 Ty.t114 rfl rfl rfl rfl (by decide) (by decide) λBt a w E I ho=>?_;clear ho;refine SA 1 E I λa w E I=>?_;refine RT 0 E I ?_;refine⟨some ⟨Bt,0,none⟩,rfl,?_⟩;have h1:U W w (aa Bt 114 ([]++rows dN bB.ops++[])::_):=I.jJ Bt;have h2:=U.iM (n:=12) (c:=12) (sz:=4) h1 rfl (a7 _) (Nat.zero_le _);have h3:U W w (aA W bB (some ⟨Bt,0,none⟩) 12::_):=h2.Dn;exact h3.sub
set_option maxHeartbeats 2000000 in
end
section
variable {W w:World}{L:List SP}{m cP:Nat}{adP:Option Addr}{p:Pr}
theorem yL {fr:Int}{g:Nat→Int}{aq:Option Addr}{cO:Nat}{P:List (List UInt8)}{zs:List dY}(I:U W w (aA W p aq cO::L))(hm:P.length=m)(a6:dh p)(aG:p.title.size≤1000000000)(hg:dO g)(hP:P.length≤65536∧∀ b∈P,b.length≤1099511627776)(hz:zs.map (·.2.2)=P)(hf:-1099511627776≤fr∧fr≤1099511627776)(hp:∀ w',U W w' L→hU w' adP zs) :
   Calls prog 116 #[.agg (bP p aq cO).toArray,.agg (ints .i32 32 g).toArray,.int .i64 fr,.slice adP m cP] w λe w'=>e=.returned (.agg (ints .i32 32 (foldI p fr g P)).toArray)∧dO (foldI p fr g P)∧U W w' (aA W p aq cO::L):=by
 subst hm;exact WZ I a6 aG hg hP hz hf hp
end
def jn (P O:List UInt8)(k:Nat):List (List UInt8):=(List.range k).map (bJ [P,O])
end
end Go.Proofs.YteoldcfapaiobaaGreat
