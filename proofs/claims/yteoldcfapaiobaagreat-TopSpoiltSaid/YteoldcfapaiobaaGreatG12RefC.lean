/- The document's player without its game: how it lies in memory; quintainref21.within, May, New, Head, Front, event, held, Mark, Told. -/
import Derived.Test.YteoldcfapaiobaaGreatG09Core
import Derived.Test.YteoldcfapaiobaaGreatG11Mul
import Derived.Test.YteoldcfapaiobaaGreatG01Row
import Derived.Test.YteoldcfapaiobaaGreatG06Ref
import Derived.Test.YteoldcfapaiobaaGreatG10Rank
import Derived.ProofKit
import Derived.Deep.Slices
import Derived.Deep.Strs
import Derived.Test.YteoldcfapaiobaaGreatG05Vm
import Derived.Test.YteoldcfapaiobaaGreatG08Pkt4
namespace Go.Proofs.YteoldcfapaiobaaGreat
open Tryz
open List (take_zero nil_append drop_eq_nil_of_le cons_append append_nil ext_getElem? set_set range_succ getElem?_set_ne getElem?_set_self replicate_succ' map_singleton getLastD_eq_getLast? map_replicate)
open Go.RowKit
set_option linter.unusedVariables false
set_option linter.unusedSimpArgs false
set_option maxRecDepth 10000
set_option synthInstance.maxSize 4000
set_option synthInstance.maxHeartbeats 400000
section
theorem Ci (z:Value)(h:z.cells=#[z])(n:Nat):(madeCells z.cells (n*1)).toList=List.replicate n z:=by
 apply ext_getElem?;intro i;rw[madeCells,Array.getElem?_toList,Array.getElem?_map,Array.getElem?_range,h,List.getElem?_replicate];by_cases hi:i<n
 ·simp[hi,Nat.mod_one]
 ·simp[hi]
theorem abe (n:Nat):(madeCells (Value.agg #[.int .i64 0,.int .u32 0]).cells (n*2)).toList=rows (λ_:Pe=>[Value.int .i64 0,.int .u32 0]) (List.replicate n (fC 0)):=by
 have hl:∀ m:Nat,(madeCells (Value.agg #[.int .i64 0,.int .u32 0]).cells m).toList=(List.range m).map λi=>if i%2=0 then Value.int .i64 0 else .int .u32 0:=by
  intro m;apply ext_getElem?;intro i;rw[madeCells,Array.getElem?_toList,Array.getElem?_map,Array.getElem?_range,bl];by_cases hi:i<m
  ·rcases Nat.mod_two_eq_zero_or_one i with h | h <;> simp[hi,Value.cells,h]
  ·simp[hi]
 rw[hl]
 induction n with
 | zero=>rfl
 | succ n ih =>
  rw[Nat.succ_mul,replicate_succ',kG,← ih,range_succ,range_succ];simp only[cW,dx]
  congr 1
  have h1:n*2%2=0:=by omega
  have h2:¬ (n*2+1)%2=0:=by omega
  simp[h1,h2,rows]
def bL (lb lo c:Nat)(ls:List (List UInt8)):SP:=λh=>∃ xs:List ee,bj xs=ls∧cm [Sl 65 1 (some ⟨lb,lo,none⟩) ls.length c (xs.map aM),ah ba xs] h
structure oj where
 cb:Nat
 lb:Nat
 lo:Nat
 cL:Nat
 hb:Nat
 dZ:Nat
 wb:Nat
 xb:Nat
structure m6 where
 cj:Option Addr
 cM:Nat
 adE:Option Addr
 cE:Nat
abbrev cX (k:Ks)(B:oj)(A:m6):List Value:=[.int .i64 k.n,.int .i64 k.me,.int .i64 k.id,.int .i64 k.aL,.int .i64 k.bq,.int .i64 k.bf,.int .i64 k.order,.int .i64 k.cv,.int .i64 k.workers,.int .i64 k.room,
 .slice (some ⟨B.lb,B.lo,none⟩) k.ls.length B.cL,.int .i64 k.now,.slice (some ⟨B.hb,0,none⟩) k.n k.n,.slice (some ⟨B.dZ,0,none⟩) k.n k.n,.slice (some ⟨B.wb,0,none⟩) k.n k.n,.slice (some ⟨B.xb,0,none⟩) k.n k.n,.slice A.cj k.mr.length A.cM,.slice A.adE k.ev.length A.cE,.bool k.cl]
def fb (l:List Pe):List Value:=l.map λp=>Value.int .i64 (p.heard:Int)
def eW (l:List Pe):List Value:=l.map λp=>Value.int .i64 (p.has:Int)
def fc (l:List Pe):List Value:=l.map λp=>Value.bool p.apart
abbrev fe (p:Pe):List Value:=[.int .i64 p.frame,.int .u32 p.sum]
theorem Cj (p:Pe):(fe p).length=2:=rfl
def a1 (B:oj)(k:Ks):SP:=λh=>∃ A:m6,cm [aa B.cb 72 (cX k B A),bL B.lb B.lo B.cL k.ls,aa B.hb 3 (fb k.ps),aa B.dZ 3 (eW k.ps),aa B.wb 313 (rows fe k.ps),aa B.xb 4 (fc k.ps),Sl 100 1 A.cj k.mr.length A.cM (c4 k.mr),Sl 102 3 A.adE k.ev.length A.cE (rows bW k.ev)] h
section
variable {W w:World}{L R:List SP}{c m lb lo i:Nat}{ad:Option Addr}{ls:List (List UInt8)}{k:Ks}{A:m6}{B:oj}
theorem bL.open (I:U W w (bL lb lo c ls::L)):∃ xs:List ee,bj xs=ls∧U W w (Sl 65 1 (some ⟨lb,lo,none⟩) ls.length c (xs.map aM)::ah ba xs::L):=by
 obtain⟨xs,h1,I⟩:=I.jM (ι:=List ee) (p:=λxs=>bj xs=ls) (B:=λxs h=>cm [Sl 65 1 (some ⟨lb,lo,none⟩) ls.length c (xs.map aM),ah ba xs] h) λ_ ⟨xs,h1,h2⟩=>⟨xs,h1,h2⟩;exact⟨xs,h1,I.open (M:=[_,_]) λ_ h=>h⟩
theorem bL.close {xs:List ee}(I:U W w (Sl 65 1 (some ⟨lb,lo,none⟩) ls.length c (xs.map aM)::ah ba xs::L))(h:bj xs=ls):U W w (bL lb lo c ls::L) :=
 U.shut (M:=[_,_]) I λ_ h'=>⟨xs,h,h'⟩
theorem U.pj {xs:List ee}{el:TypeId}{m:Nat}(I:U W w (Sl el 1 ad m c (xs.map aM)::ah ba xs::L)):iM w ad xs:=by
 have hl:=(I.sl ad).1;rw[a8,fW]at hl;refine⟨λh0=>?_,λx hx=>?_⟩
 ·obtain⟨b,off,h1,h2⟩:=I.bU ad (by omega);exact⟨b,off,h1,h2⟩
 ·obtain⟨i,hi,rfl⟩:=xe hx;have h2:=(I.tail).fy hi;exact U.cu (L:=ba xs[i]::_) h2 _ _ (k:=(fS.head:fS (Sl 5 1 xs[i].1 xs[i].2.2.length xs[i].2.1 (bc xs[i].2.2)::_) xs[i].1 _ _ _ _ _ _)) rfl rfl
theorem a1.open (I:U W w (a1 B k::L)):∃ A:m6,U W w (aa B.cb 72 (cX k B A)::bL B.lb B.lo B.cL k.ls::aa B.hb 3 (fb k.ps)::aa B.dZ 3 (eW k.ps)::aa B.wb 313 (rows fe k.ps)::aa B.xb 4 (fc k.ps)::Sl 100 1 A.cj k.mr.length A.cM (c4 k.mr)::Sl 102 3 A.adE k.ev.length A.cE (rows bW k.ev)::L):=by
 obtain⟨A,_,I⟩:=I.jM (ι:=m6) (p:=λ_=>True) (B:=λA h=>cm [aa B.cb 72 (cX k B A),bL B.lb B.lo B.cL k.ls,aa B.hb 3 (fb k.ps),aa B.dZ 3 (eW k.ps),aa B.wb 313 (rows fe k.ps),aa B.xb 4 (fc k.ps),Sl 100 1 A.cj k.mr.length A.cM (c4 k.mr),Sl 102 3 A.adE k.ev.length A.cE (rows bW k.ev)] h) λ_ ⟨A,h⟩=>⟨A,trivial,h⟩;exact⟨A,I.open (M:=[_,_,_,_,_,_,_,_]) λ_ h=>h⟩
theorem a1.fold (I:U W w L)(B:oj)(k:Ks)(A:m6)[kk:fI L [aa B.cb 72 (cX k B A),bL B.lb B.lo B.cL k.ls,aa B.hb 3 (fb k.ps),aa B.dZ 3 (eW k.ps),aa B.wb 313 (rows fe k.ps),aa B.xb 4 (fc k.ps),Sl 100 1 A.cj k.mr.length A.cM (c4 k.mr),Sl 102 3 A.adE k.ev.length A.cE (rows bW k.ev)] R]:U W w (a1 B k::R) :=
 U.shut (M:=[_,_,_,_,_,_,_,_]) (I.perm kk.perm) λ_ h=>⟨A,h⟩
end
theorem abf {l:List Pe}{i:Nat}{p:Pe}(h:l[i]?=some p):(fb l)[i]?=some (.int .i64 p.heard):=by rw[fb,bl,h];rfl
theorem xC {l:List Pe}{i:Nat}{p:Pe}(h:l[i]?=some p):(eW l)[i]?=some (.int .i64 p.has):=by rw[eW,bl,h];rfl
theorem abg {l:List Pe}{i:Nat}{p:Pe}(h:l[i]?=some p):(fc l)[i]?=some (.bool p.apart):=by rw[fc,bl,h];rfl
theorem zw {α β:Type}(f:α→β){l:List α}{i:Nat}{x:α}{v:β}(h:f x=v):(l.map f).set i v=(l.set i x).map f:=by rw[← h,map_set]
theorem Ck {β:Type}(f:Pe→β){l:List Pe}{i:Nat}{p q:Pe}(h:l[i]?=some p)(hf:f q=f p):(l.set i q).map f=l.map f:=by
 apply ext_getElem?;intro j;rw[bl,bl,jO];by_cases hj:i=j
 ·subst hj;have hi:=(aY.1 h).1;rw[ak rfl,ak hi,h];simp[hf]
 ·rw[ag hj]
theorem abh (f:Pe→List Value){l:List Pe}{i:Nat}{p q:Pe}(h:l[i]?=some p)(hf:f q=f p):rows f (l.set i q)=rows f l:=by
 rw[rows,rows,List.flatMap_def,List.flatMap_def,Ck f h hf]
theorem G1 {l:List Pe}{i:Nat}{p:Pe}(h:l[i]?=some p)(q:Pe)(hf:q.heard=p.heard):fb (l.set i q)=fb l:=Ck _ h (by rw[hf])
theorem G2 {l:List Pe}{i:Nat}{p:Pe}(h:l[i]?=some p)(q:Pe)(hf:q.has=p.has):eW (l.set i q)=eW l:=Ck _ h (by rw[hf])
theorem G3 {l:List Pe}{i:Nat}{p:Pe}(h:l[i]?=some p)(q:Pe)(hf:q.apart=p.apart):fc (l.set i q)=fc l:=Ck _ h (by rw[hf])
theorem G4 {l:List Pe}{i:Nat}{p:Pe}(h:l[i]?=some p)(q:Pe)(hf:q.frame=p.frame)(I:q.sum=p.sum):rows fe (l.set i q)=rows fe l:=abh _ h (by rw[fe,fe,hf,I])
theorem abi {l:List Pe}{i:Nat}(q:Pe){v:Int}(h:(q.heard:Int)=v):(fb l).set i (.int .i64 v)=fb (l.set i q):=zw _ (by rw[h])
theorem abj {l:List Pe}{i:Nat}(q:Pe){v:Int}(h:(q.has:Int)=v):(eW l).set i (.int .i64 v)=eW (l.set i q):=zw _ (by rw[h])
section
variable {W w:World}{L:List SP}{n c lb lo i f cl:Nat}{ad:Option Addr}{ls:List (List UInt8)}{k:Ks}{A:m6}{B:oj}{x:UInt8}
theorem sD (I:U W w (a1 B k::L))(hk:WC k):Calls prog 20 #[pt B.cb] w λr w'=>r=.returned (.int .i64 (aG k))∧U W w' (a1 B k::L):=by
 have eE:k.me<k.ls.length:=by rw[hk.ls];exact hk.me
 obtain⟨A,I⟩:=a1.open I;refine EN func20 ntmps20 rfl rfl λa E=>?_;refine bR 3 [8] [0,1,2,4,5,6,7,3003,1008,9,10,1011,12,13] E I λa w E I hH hC=>?_;obtain⟨xs,bd,I⟩:=bL.open (I.pick (bL B.lb B.lo B.cL k.ls));have b9:xs.length=k.ls.length:=by rw[← bd,gb]
 obtain⟨na,ol,y,zx,hy,pg,qm⟩:=(U.pj I).at (i:=k.me) (by omega);cases zx;have jm:aG k=y.2.2.length:=by
  show (k.ls.getD k.me []).length=_;rw[← bd,sA hy]
 replace hH:=Hd.gE I;refine RH 11 E I hH hC λa E=>?_;refine SS E (ae E (pg)) λa E=>?_;rw[aM]at E;refine RH 2 E I hH hC λa E=>?_;refine RT 0 E I ?_;refine⟨by rw[jm],?_⟩;exact (a1.fold (bL.close I bd) B k A).sub
theorem G5 (I:U W w (a1 B k::L))(hk:WC k):Calls prog 19 #[pt B.cb] w λr w'=>r=.returned (.int .i64 (aw k))∧U W w' (a1 B k::L):=by
 have hn:=hk.n;have fa:=hk.ls;obtain⟨A,I⟩:=a1.open I;refine EN func19 ntmps19 rfl rfl λa E=>?_;refine RN 7 E I λa E=>?_;obtain⟨xs,bd,I⟩:=bL.open (I.pick (bL B.lb B.lo B.cL k.ls));have b9:xs.length=k.ls.length:=by rw[← bd,gb]
 rw[← b9]at E;refine CL 0 E I (B9 (xs:=xs) I (by omega) (by omega) (λw' hw=>U.pj hw)) λa w E I=>?_;refine RT 1 E I ?_;refine⟨by rw[bd];rfl,?_⟩;exact (a1.fold (bL.close I bd) B k A).sub
theorem G6 {kd pl fr:Nat}(I:U W w (a1 B k::L))(hl:k.ev.length≤100):Calls prog 112 #[pt B.cb,.int .i64 kd,.int .i64 pl,.int .i64 fr] w λr w'=>r=.returned (.tuple #[])∧U W w' (a1 B { k with ev:=k.ev++[(kd,pl,fr)] }::L):=by
 obtain⟨A,I⟩:=a1.open I;refine EN func112 ntmps112 rfl rfl λa E=>?_;refine RN 9 E I λa E=>?_;refine cp E rfl I underlying70 Ty.t102 rfl rfl rfl rfl (by decide) (by decide) λiz a w E I ho=>?_;clear ho;refine RN 0 E I λa E=>?_;refine cQ E rfl I underlying70 Ty.t102 rfl rfl I.ai rfl (F4 (kd,pl,fr)) (by decide) (by decide) (by omega) λG7 G8 a w E I=>?_;rw[show rows bW k.ev++_=rows bW (k.ev++[(kd,pl,fr)]) from by rw[kG];rfl,show k.ev.length+1=(k.ev++[(kd,pl,fr)]).length from by simp]at I;rw[show k.ev.length+1=(k.ev++[(kd,pl,fr)]).length from by simp]at E;refine ST 2 E I (λa w E I=>?_);refine RT 0 E I ?_;exact⟨rfl,(a1.fold I B { k with ev:=k.ev++[(kd,pl,fr)] } { A with adE:=G7,cE:=G8 }).sub⟩
theorem abk (I:U W w (a1 B k::L)):Calls prog 51 #[pt B.cb] w λr w'=>∃ ad c,r=.returned (.slice ad k.ev.length c)∧U W w' (Sl 102 3 ad k.ev.length c (rows bW k.ev)::a1 B { k with ev:=[] }::L):=by
 obtain⟨A,I⟩:=a1.open I;refine EN func51 ntmps51 rfl rfl λa E=>?_;refine ST 12 E I (λa w E I=>?_);refine RT 3 E I ?_;refine⟨A.adE,A.cE,rfl,?_⟩;replace I:=I.bM 102 3 none;have h2:U W w (aa B.cb 72 (cX { k with ev:=[] } B ⟨A.cj,A.cM,none,0⟩)::bL B.lb B.lo B.cL k.ls::aa B.hb 3 (fb k.ps)::aa B.dZ 3 (eW k.ps)::aa B.wb 313 (rows fe k.ps)::aa B.xb 4 (fc k.ps)::Sl 100 1 A.cj k.mr.length A.cM (c4 k.mr)::Sl 102 3 none 0 0 []::Sl 102 3 A.adE k.ev.length A.cE (rows bW k.ev)::L):=I.sub (M:=aa B.cb 72 _::bL B.lb B.lo B.cL k.ls::aa B.hb 3 (fb k.ps)::aa B.dZ 3 (eW k.ps)::aa B.wb 313 (rows fe k.ps)::aa B.xb 4 (fc k.ps)::Sl 100 1 A.cj k.mr.length A.cM (c4 k.mr)::Sl 102 3 none 0 0 []::Sl 102 3 A.adE k.ev.length A.cE (rows bW k.ev)::L);refine U.perm (L:=a1 B { k with ev:=[] }::Sl 102 3 A.adE k.ev.length A.cE (rows bW k.ev)::L) ?_ (cZ _ _ _);exact U.shut (M:=[_,_,_,_,_,_,_,_]) h2 λ_ h=>⟨⟨A.cj,A.cM,none,0⟩,h⟩
theorem NP (I:U W w (a1 B k::L))(hk:WC k):Calls prog 153 #[pt B.cb] w λr w'=>r=.returned (.tuple #[])∧U W w' (a1 B (lr k)::L):=by
 have eo:k.ps.length=k.n:=hk.ps;have hn:=hk.n;refine EN func153 ntmps153 rfl rfl λa E=>?_;refine RN 2 E I λa E=>?_;refine aN (λμ a w=>∃ (i:Nat),(μ=k.n-i∧i≤k.n)∧Fr a 68 [(0,pt B.cb),(2,.int .i64 i)]∧U W w (a1 B (gy k i)::L)) (k.n) (⟨0,⟨rfl,by omega⟩,E.ab [0,2],I⟩) ?_;clear E I;rintro μ a w ⟨i,⟨rfl,hi⟩,E,I⟩;have j6:=hk.gy (i:=i) hi;have dI:=BK k i;have ph:(gy k i).n=k.n:=by obtain⟨ps,ev,h1,_⟩:=y9 k i;rw[h1]
 have eR:gy k (i+1)=lq (gy k i) i:=rfl;rw[lq]at eR;generalize nR:gy k i=kk at I j6 dI eR ph;obtain⟨A,I⟩:=a1.open I;refine IF 9 E I (λaj a E=>?_) λaj a E=>?_
 ·
  have aI:i<kk.ps.length:=by omega
  have iE:=j6.qe (i:=i) (by omega);have e8:=vj aI;have fj:=jl Cj (I.ai (b:=B.wb)) e8;rw[eG]at fj;refine RN 8 E I λa E=>?_;refine SS E (bT E underlying313 rfl Ty.t313 (fj)) λa E=>?_;refine AL 0 E I λb3 a w E I=>?_;refine SA 0 E I λa w E I=>?_;refine bR 1 [19,20,29,30,34] [0,1,2,4,1003,5,1006,7,8,9,1010,11,12,13,14,16,17,18,3015,1019,1020,21,22,23,24,25,26,28,33,3027,3029,3030,31,3032,1034,35,36] E I λa w E I hH hC=>?_;have jV:Rd w B.cb 0 (cX kk B A):=I.ai (b:=B.cb);have xD:Rd w b3 0 (fe (au kk i)):=I.ai (b:=b3);have np:=I.bz (b:=B.xb) (abg e8);refine RH 4 E I hH hC λa E=>?_;refine SS E (ae E (jV 15 _ rfl)) λa E=>?_;refine RH 1 E I hH hC λa E=>?_;refine SS E (ae E (np)) λa E=>?_;refine RH 2 E I hH hC λa E=>?_;refine E.by (s:=28) (λfh E=>?_) (λfh E=>?_)
  ·
   refine RH 1 E I hH hC λa E=>?_;refine bw E (cw E rfl (s:=28)) (ae E (xD 0 _ rfl)) rfl λa E=>?_;refine RH 3 E I hH hC λa E=>?_;refine E.by (s:=33) (λnB E=>?_) (λnB E=>?_)
   ·
    refine RH 4 E I hH hC λa E=>?_;refine QH E (λw hc=>ae E (hc.cell (xD 0 _ rfl))) hC λa E=>?_;refine RH 0 E I hH hC λa E=>?_;refine bw E (cw E rfl (s:=33)) (ae E (jV 16 _ rfl)) rfl λa E=>?_;refine RH 4 E I hH hC λa E=>?_;refine E.by (s:=43) (λmV E=>?_) (λmV E=>?_)
    ·
     have lM:(au kk i).frame-1<kk.mr.length:=by omega
     obtain⟨F8,F9,eE,l5⟩:=(I.pick (Sl 100 1 A.cj kk.mr.length A.cM (c4 kk.mr))).bU A.cj (by omega);have zc:=jV 16 _ rfl;rw[eE]at zc;refine RH 5 E I hH hC λa E=>?_;refine QH E (λw hc=>ae E (hc.cell (zc))) hC λa E=>?_;refine QH E (λw hc=>ae E (hc.cell (xD 0 _ rfl))) hC λa E=>?_;refine RH 1 E I hH hC λa E=>?_;rw[show (((au kk i).frame:Nat):Int)-1=(((au kk i).frame-1:Nat):Int) from by omega]at E;refine RH 1 E I hH hC λa E=>?_;refine QH E (λw hc=>ae E (hc.cell (l5 ((au kk i).frame-1) _ (BR lM)))) hC λa E=>?_;refine RH 0 E I hH hC λa E=>?_;refine bw E (cw E rfl (s:=43)) (ae E (xD 1 _ rfl)) rfl λa E=>?_;refine RH 2 E I hH hC λa E=>?_;refine IF 0 E I (λao a E=>?_) λao a E=>?_
     ·
      refine RN 1 E I λa E=>?_;rw[ak ⟨fh,by omega,by omega,by omega⟩]at eR;refine ST 6 E I (λa w E I=>?_) (hlt:=(by rw[fc,a8];exact aI));rw[show (fc kk.ps).set i (.bool true)=fc (kk.ps.set i { au kk i with apart:=true }) from zw _ rfl,← G1 e8 { au kk i with apart:=true } rfl,← G2 e8 { au kk i with apart:=true } rfl,← G4 e8 { au kk i with apart:=true } rfl rfl]at I;replace I:=a1.fold I B { kk with ps:=kk.ps.set i { au kk i with apart:=true } } A;refine CL 4 E I (G6 (kd:=3) (pl:=i) (fr:=(au kk i).frame) I (by have:=j6.kT;show kk.ev.length≤100;omega)) λa w E I=>?_;refine RN 3 E I λa E=>?_;exact⟨k.n-(i+1),by omega,i+1,⟨rfl,by omega⟩,E.ab [0,2],by rw[eR];exact I.sub⟩
     refine RN 3 E I λa E=>?_;rw[ag (λh=>by have:=h.2.2.2;omega)]at eR;exact⟨k.n-(i+1),by omega,i+1,⟨rfl,by omega⟩,E.ab [0,2],by rw[eR];exact (a1.fold I B kk A).sub⟩
    refine RH 13 E I hH hC λa E=>?_;refine RN 4 E I λa E=>?_;rw[ag (λh=>by have:=h.2.2.1;omega)]at eR;exact⟨k.n-(i+1),by omega,i+1,⟨rfl,by omega⟩,E.ab [0,2],by rw[eR];exact (a1.fold I B kk A).sub⟩
   refine RH 23 E I hH hC λa E=>?_;refine RN 4 E I λa E=>?_;rw[ag (λh=>by have:=h.2.1;omega)]at eR;exact⟨k.n-(i+1),by omega,i+1,⟨rfl,by omega⟩,E.ab [0,2],by rw[eR];exact (a1.fold I B kk A).sub⟩
  refine RH 28 E I hH hC λa E=>?_;refine RN 4 E I λa E=>?_;rw[ag (λh=>by have:=h.1;rw[fh]at this;cases this)]at eR;exact⟨k.n-(i+1),by omega,i+1,⟨rfl,by omega⟩,E.ab [0,2],by rw[eR];exact (a1.fold I B kk A).sub⟩
 refine RT 0 E I ?_;obtain rfl:i=k.n:=by omega
 refine⟨rfl,?_⟩;rw[lr,eo,nR];exact (a1.fold I B kk A).sub
theorem abl {s:Nat}(I:U W w (a1 B k::L))(hk:WC k)(hl:k.mr.length<1000)(yB:s<4294967296):Calls prog 105 #[pt B.cb,.int .u32 s] w λr w'=>r=.returned (.tuple #[])∧U W w' (a1 B (lY k s)::L):=by
 have zd : WC { k with mr := k.mr ++ [s] } := { hk with
     mr:=by show (k.mr++[s]).length≤1000;rw[aJ,jF];omega
     sk:=λx hx=>by
      rcases eT.1 hx with hx | hx
      ·exact hk.sk x hx
      ·rw[iK]at hx;rw[hx];exact yB }
 obtain⟨A,I⟩:=a1.open I;refine EN func105 ntmps105 rfl rfl λa E=>?_;refine RN 8 E I λa E=>?_;rw[dk (by omega)]at E;refine RN 7 E I λa E=>?_;refine cp E rfl I underlying69 Ty.t100 rfl rfl rfl rfl (by decide) (by decide) λqZ a w E I ho=>?_;clear ho;refine RN 0 E I λa E=>?_;refine cQ E rfl I underlying69 Ty.t100 rfl rfl I.ai rfl (by simp[Value.oneCell']) (by decide) (by decide) (by omega) λabm c17 a w E I=>?_;rw[show c4 k.mr++_=c4 (k.mr++[s]) from by rw[c4,c4,cW];rfl,show k.mr.length+1=(k.mr++[s]).length from by simp]at I;rw[show k.mr.length+1=(k.mr++[s]).length from by simp]at E;refine ST 2 E I (λa w E I=>?_);refine RN 0 E I λa E=>?_;replace I:=a1.fold I B { k with mr:=k.mr++[s] } { A with cj:=abm,cM:=c17 };refine CL 1 E I (NP I zd) λa w E I=>?_;refine RT 0 E I ?_;exact⟨rfl,by rw[lY,ak hl];exact I.sub⟩
theorem abn (I:U W w (a1 B k::L))(hk:WC k):Calls prog 111 #[pt B.cb,.int .u8 (x.toNat:Nat)] w λr w'=>r=.returned (.int .i64 (c3 x k).1)∧U W w' (a1 B (c3 x k).2::L):=by
 have eE:k.me<k.ls.length:=by rw[hk.ls];exact hk.me
 have gX:=hk.lZ;have fw:=hk.nG;obtain⟨A0,I⟩:=a1.open I;refine EN func111 ntmps111 rfl rfl λa E=>?_;refine IF 9 E I (λaj a E=>?_) λaj a E=>?_
 ·
  replace I:=a1.fold I B k A0;refine RT 2 E I ?_;exact⟨by rw[c3,ak aj],by rw[c3,ak aj];exact I⟩
 have cn:¬ k.cl=true:=by rw[aj];decide
 replace I:=a1.fold I B k A0;refine CL 2 E I (sD I hk) λa w E I=>?_;refine IF 2 E I (λao a E=>?_) λao a E=>?_
 ·
  refine RT 2 E I ?_;exact⟨by rw[c3,ag cn,ak (by omega)],by rw[c3,ag cn,ak (by omega)];exact I⟩
 refine aV 1 (λw0 w'=>w'.cell? ⟨B.cb,4,none⟩=some (.int .i64 k.bq)) [1,3,4] [0,2,5,6,7,8,3009,1001,1003,1004,10,11] E I λa w E I hH=>?_;have hC:w.cell? ⟨B.cb,4,none⟩=some (.int .i64 k.bq):=by
  obtain⟨A1,I⟩:=a1.open I;exact I.bz (b:=B.cb) rfl
 refine RH 6 E I hH hC λa E=>?_;refine QH E (λw hc=>ae E (hc)) hC λa E=>?_;refine RH 0 E I hH hC λa E=>?_;refine CL 0 E I (sD I hk) λa w E I=>?_;replace hC:=hH.at w (by obtain⟨A1,I⟩:=a1.open I;exact I.bz (b:=B.cb) rfl);refine RH 0 E I hH hC λa E=>?_;refine CL 0 E I (G5 I hk) λa w E I=>?_;replace hC:=hH.at w (by obtain⟨A1,I⟩:=a1.open I;exact I.bz (b:=B.cb) rfl);refine RH 3 E I hH hC λa E=>?_;refine IF 0 E I (λay a E=>?_) λay a E=>?_
 ·
  refine RT 2 E I ?_;exact⟨by rw[c3,ag cn,ag (by omega),ak (by omega)],by rw[c3,ag cn,ag (by omega),ak (by omega)];exact I⟩
 refine RN 1 E I λa E=>?_;obtain⟨A,I⟩:=a1.open I;have vk:c3 x k=(0,{ k with ls:=k.ls.set k.me (k.ls.getD k.me []++[x]) }):=by rw[c3,ag cn,ag (by omega),ag (by omega)]
 rw[vk];obtain⟨xs,bd,I⟩:=bL.open (I.pick (bL B.lb B.lo B.cL k.ls));have b9:xs.length=k.ls.length:=by rw[← bd,gb]
 obtain⟨y,hy⟩:∃ y,xs[k.me]?=some y:=⟨_,aD (by omega)⟩;obtain⟨ud,ua⟩:=aY.1 hy;have jm:k.ls.getD k.me []=y.2.2:=by rw[← bd,sA hy]
 refine bR 0 [8] [0,1,2,4,5,6,7,3003,1008,9,10] E I λa w E I hH hC=>?_;refine RH 11 E I hH hC λa E=>?_;refine RN 5 E I λa E=>?_;refine SS E (ae E ((I.cK B.lb B.lo (by omega)) k.me (aM y) (by rw[bl,hy];rfl))) λa E=>?_;rw[aM]at E;replace I:=(I.pick (ah ba xs)).fy ud;rw[ua]at I;have gI:U W w (Sl 5 1 y.1 y.2.2.length y.2.1 (bc y.2.2)::_):=I;clear I;have I:=gI;clear gI;have NQ:y.2.2.length≤1000:=by rw[← jm];exact gX
 refine RN 1 E I λa E=>?_;refine cp E rfl I underlying22 Ty.t5 rfl rfl rfl rfl (by decide) (by decide) λb43 a w E I ho=>?_;clear ho;refine RN 0 E I λa E=>?_;refine cQ E rfl I underlying22 Ty.t5 rfl rfl I.ai rfl (ez [x]) (by decide) (by decide) (by omega) λnL ly a w E I=>?_;rw[show bc y.2.2++_=bc (y.2.2++[x]) from (fM _ [_]).symm,show y.2.2.length+1=(y.2.2++[x]).length from by simp]at I;rw[show y.2.2.length+1=(y.2.2++[x]).length from by simp]at E;refine RN 2 E I λa E=>?_;refine mG (off:=B.lo) (k:=k.me) E rfl I Ty.t22 rfl (by omega) (by rw[a8];exact ud) λa w E I=>?_;rw[show (xs.map aM).set k.me (.slice nL (y.2.2++[x]).length ly)=(xs.set k.me (nL,ly,y.2.2++[x])).map aM from zw _ rfl]at I;have h2:=I.arr (M:=[Sl 5 1 nL (y.2.2++[x]).length ly (bc (y.2.2++[x])),ah ba (xs.eraseIdx k.me)]);simp only[cons_append,nil_append]at h2;have h3:=U.kZ (f:=ba) (x:=(nL,ly,y.2.2++[x])) ud h2;have fa:(k.ls.set k.me (k.ls.getD k.me []++[x])).length=k.ls.length:=bt;have a6:bj (xs.set k.me (nL,ly,y.2.2++[x]))=k.ls.set k.me (k.ls.getD k.me []++[x]):=by rw[bj,map_set,← bj,bd,jm]
 have h4:=h3.arr (M:=[Sl 65 1 (some ⟨B.lb,B.lo,none⟩) k.ls.length B.cL ((xs.set k.me (nL,ly,y.2.2++[x])).map aM),ah ba (xs.set k.me (nL,ly,y.2.2++[x]))]);simp only[cons_append,nil_append]at h4;rw[show k.ls.length=(k.ls.set k.me (k.ls.getD k.me []++[x])).length from fa.symm]at h4;have h5:=bL.close (xs:=xs.set k.me (nL,ly,y.2.2++[x])) h4 a6;clear I;have I:=h5;rw[show cX k B A=cX { k with ls:=k.ls.set k.me (k.ls.getD k.me []++[x]) } B A from by simp only[cX,bt]]at I;refine RT 2 E I ?_;exact⟨rfl,(a1.fold I B { k with ls:=k.ls.set k.me (k.ls.getD k.me []++[x]) } A).sub⟩
end
section
variable {W w:World}{L R:List SP}{n c m lb lo i f cl:Nat}{ad:Option Addr}{ls:List (List UInt8)}{k:Ks}{A:m6}{B:oj}{x:UInt8}{bs:List UInt8}
theorem bL.out {ls:List (List UInt8)}(I:U W w (bL lb lo c ls::L))(hi:i<ls.length):∃ (xs:List ee) (y:ee),bj xs=ls∧xs[i]?=some y∧y.2.2=ls.getD i [] ∧
   U W w (Sl 5 1 y.1 y.2.2.length y.2.1 (bc y.2.2)::Sl 65 1 (some ⟨lb,lo,none⟩) ls.length c (xs.map aM)::ah ba (xs.eraseIdx i)::L):=by
 obtain⟨xs,bd,I⟩:=bL.open I;have b9:xs.length=ls.length:=by rw[← bd,gb]
 have hy:xs[i]?=some xs[i]:=aD (by omega);refine⟨xs,xs[i],bd,hy,by have:=sA hy;rw[bd]at this;exact this.symm,?_⟩;have h1:=(I.pick (ah ba xs)).fy (i:=i) (by omega);exact U.sub (M:=ba xs[i]::Sl 65 1 (some ⟨lb,lo,none⟩) ls.length c (xs.map aM)::ah ba (xs.eraseIdx i)::L) h1
theorem bL.put {xs:List ee}{q:List UInt8}(I:U W w L)(bd:bj xs=ls)(hi:i<ls.length)[kk:fI L [Sl 5 1 ad q.length cl (bc q),Sl 65 1 (some ⟨lb,lo,none⟩) ls.length c ((xs.map aM).set i (.slice ad q.length cl)),ah ba (xs.eraseIdx i)] R]:U W w (bL lb lo c (ls.set i q)::R):=by
 have b9:xs.length=ls.length:=by rw[← bd,gb]
 have h1:U W w (ba (ad,cl,q)::Sl 65 1 (some ⟨lb,lo,none⟩) ls.length c ((xs.map aM).set i (.slice ad q.length cl))::ah ba (xs.eraseIdx i)::R):=I.perm kk.perm;rw[show (xs.map aM).set i (.slice ad q.length cl)=(xs.set i (ad,cl,q)).map aM from zw _ rfl]at h1;have h2:=U.kZ (f:=ba) (x:=(ad,cl,q)) (l:=xs) (i:=i) (by omega) (h1.sub (M:=ba (ad,cl,q)::ah ba (xs.eraseIdx i)::Sl 65 1 (some ⟨lb,lo,none⟩) ls.length c ((xs.set i (ad,cl,q)).map aM)::R));refine bL.close (xs:=xs.set i (ad,cl,q)) ?_ (by rw[bj,map_set,← bj,bd]);rw[bt];exact h2.perm (cZ _ _ _)
theorem bL.hd (I:U W w (bL lb lo c ls::L))(hi:i<ls.length):∃ ad c',w.cell? ⟨lb,lo+i,none⟩=some (.slice ad (ls.getD i []).length c'):=by
 obtain⟨xs,y,h1,h2,h3,h4⟩:=bL.out I hi;rw[← h3];exact⟨_,_,(h4.tail.cK lb lo (by omega)) i (aM y) (by rw[bl,h2];rfl)⟩
theorem abo {f:Nat}(I:U W w (bL lb lo c ls::L))(hi:i<ls.length)(hl:(ls.getD i []).length≤1000)(hb:bs.length≤65536)(hp:∀ w',U W w' L→aX w' ad bs.length bs) :
   Calls prog 190 #[.pointer (some ⟨lb,lo+i,none⟩),.int .i64 f,.slice ad bs.length cl] w λr w'=>∃ n er:Int,r=.returned (.tuple #[.int .i64 n,.int .i64 er])∧U W w' (bL lb lo c (ls.set i (du (ls.getD i []) f bs))::L):=by
 obtain⟨l0,rf⟩:∃ l0,l0=ls.getD i []:=⟨_,rfl⟩;rw[← rf];rw[← rf]at hl;have NR:ls.set i l0=ls:=by rw[rf];exact L1
 refine EN func190 ntmps190 rfl rfl λa E=>?_;refine RN 7 E I λa E=>?_;rw[bo (by omega)]at E;refine RN 3 E I λa E=>?_;obtain⟨ga,gm,NS⟩:=bL.hd I hi;rw[← rf]at NS;refine RN 4 E I λa E=>?_;refine SS E (ae E (NS)) λa E=>?_;refine IF 2 E I (λao a E=>?_) λao a E=>?_
 ·
  refine RT 3 E I ?_;exact⟨_,_,rfl,by rw[du,ak (by omega),NR];exact I⟩
 refine RN 5 E I λa E=>?_;have ef:f≤l0.length:=by omega
 refine aN (λμ a w=>∃ (j:Nat) (q:List UInt8),(μ=bs.length-j∧j≤bs.length∧q=l0++(bs.drop (l0.length-f)).take (j-(l0.length-f))∧q.length=l0.length+(j-(l0.length-f))∧q.length≤1000)∧Fr a 57 [(0,.pointer (some ⟨lb,lo+i,none⟩)),(1,.int .i64 f),(2,.slice ad bs.length cl),(8,.int .i64 (j-(l0.length-f):Nat)),(9,.int .i64 j)]∧U W w (bL lb lo c (ls.set i q)::L)) (bs.length) (⟨0,l0,⟨rfl,by omega,by rw[Nat.zero_sub,take_zero,append_nil],by omega,hl⟩,by rw[Nat.zero_sub];exact E.ab [0,1,2,8,9],by rw[NR];exact I⟩) ?_;clear E I;rintro μ a w ⟨j,q,⟨rfl,hj,hq,Uw,mn⟩,E,I⟩;refine IF 6 E I (λay a E=>?_) λay a E=>?_
 ·
  have dL:i<(ls.set i q).length:=by rw[bt];exact hi
  have qW:(ls.set i q).getD i []=q:=by rw[bm,getElem?_set_self hi];rfl
  obtain⟨adq,cq,pg⟩:=bL.hd I dL;rw[qW]at pg;have NT:j<bs.length:=by omega
  have tv:=(hp _ I.tail).get (by omega);refine RN 7 E I λa E=>?_;refine SS E (ae E (pg)) λa E=>?_;refine IF 4 E I (λbk a E=>?_) λbk a E=>?_
  ·
   refine RN 3 E I λa E=>?_;exact⟨bs.length-(j+1),by omega,j+1,q,⟨rfl,by omega,by rw[hq,show j-(l0.length-f)=0 from by omega,show j+1-(l0.length-f)=0 from by omega],by omega,mn⟩,by rw[show j+1-(l0.length-f)=j-(l0.length-f) from by omega];exact E.ab [0,1,2,8,9],I⟩
  refine RN 5 E I λa E=>?_;refine SS E (ae E (pg)) λa E=>?_;refine IF 2 E I (λbN a E=>?_) λbN a E=>?_
  ·
   refine RT 4 E I ?_;exact⟨_,_,rfl,by rw[du,ag (by omega),show 1000-l0.length=j-(l0.length-f) from by omega,← hq];exact I⟩
  refine bR 1 [8,9] [0,1,2,3,5,6,7,3004,1008,1009,1010,11,12,1013] E I λa w E I hH hC=>?_;obtain⟨bb,oo,rfl,_⟩:=tv;obtain⟨xs,y,bd,hy,ue,I⟩:=bL.out I dL;rw[qW]at ue;rw[ue]at I;have oe:=(I.tail.cK lb lo (by omega)) i (aM y) (by rw[bl,hy];rfl);rw[aM,ue]at oe;have Bq:=(hp _ I.tail.tail.tail).rd (by omega);have zy:i<xs.length:=(aY.1 hy).1;replace hH:=Hd.gE I;refine RH 7 E I hH hC λa E=>?_;refine QH E (λw hc=>ae E (hc.cell (oe))) hC λa E=>?_;refine RH 0 E I hH hC λa E=>?_;refine SS E (ae E (Bq j _ (dU NT))) λa E=>?_;refine RH 0 E I hH hC λa E=>?_;refine cp E rfl I underlying22 Ty.t5 rfl rfl rfl rfl (by decide) (by decide) λb50 a w E I ho=>?_;replace hC:=hC.trans ho;clear ho;refine RH 0 E I hH hC λa E=>?_;refine cQ E rfl I underlying22 Ty.t5 rfl rfl I.ai rfl (ez [bs[j]]) (by decide) (by decide) (by omega) λLw Ly a w E I=>?_;rw[show bc q++_=bc (q++[bs[j]]) from (fM _ [_]).symm,show q.length+1=(q++[bs[j]]).length from by simp]at I;rw[show q.length+1=(q++[bs[j]]).length from by simp]at E;refine RN 2 E I λa E=>?_;refine mG (off:=lo) (k:=i) E rfl I Ty.t22 rfl (by omega) (by rw[a8];exact zy) λa w E I=>?_;refine RN 6 E I λa E=>?_;have h9:=bL.put (q:=q++[bs[j]]) (ad:=Lw) (cl:=Ly) (lb:=lb) (lo:=lo) (c:=c) I bd dL;rw[set_set]at h9;exact⟨bs.length-(j+1),by omega,j+1,q++[bs[j]],⟨rfl,by omega,by rw[LM ef NT (by omega) (by omega),← hq],by rw[aJ,jF];omega,by rw[aJ,jF];omega⟩,by rw[show ((j+1-(l0.length-f):Nat):Int)=((j-(l0.length-f):Nat):Int)+1 from by omega];exact E.ab [0,1,2,8,9],h9.sub⟩
 refine RT 4 E I ?_;obtain rfl:j=bs.length:=by omega
 refine⟨_,_,rfl,?_⟩;rw[du,ag (by omega),gi (by rw[c7];omega)];rw[hq,gi (by rw[c7];omega)]at I;exact I
abbrev zA (n me:Nat)(id:Int)(aL bq:Nat)(bf order cv workers room:Int)(b8 iN eO iz:Nat)(ad:Option Addr)(i c:Nat):List Value:=[.int .i64 n,.int .i64 me,.int .i64 id,.int .i64 aL,.int .i64 bq,.int .i64 bf,.int .i64 order,.int .i64 cv,.int .i64 workers,.int .i64 room,.slice ad i c,.int .i64 0,.slice (some ⟨b8,0,none⟩) n n,.slice (some ⟨iN,0,none⟩) n n,.slice (some ⟨eO,0,none⟩) n n,.slice (some ⟨iz,0,none⟩) n n,.slice none 0 0,.slice none 0 0,.bool false]
theorem abp (n d:Nat):fb (List.replicate n (fC d))=ints .i64 n (λ_=>0):=by rw[fb,map_replicate];exact q6 _ _ _
theorem abq (n d:Nat):eW (List.replicate n (fC d))=ints .i64 n (λ_=>d):=by rw[eW,map_replicate];exact q6 _ _ _
theorem abr (n d:Nat):fc (List.replicate n (fC d))=List.replicate n (.bool false):=by rw[fc,map_replicate];rfl
theorem abt (n d:Nat):rows fe (List.replicate n (fC d))=rows (λ_:Pe=>[Value.int .i64 0,.int .u32 0]) (List.replicate n (fC 0)):=by
 induction n with
 | zero=>rfl
 | succ n ih=>rw[List.replicate_succ,List.replicate_succ,oD,oD,ih];rfl
theorem abu (d:Nat):List.replicate d (Value.int .u8 0)=bc (List.replicate d 0):=by rw[bc,map_replicate];rfl
set_option maxHeartbeats 4000000 in
theorem abv {n me aL bq:Nat}{id bf order cv workers room:Int}(I:U W w L)(h:eV ⟨n,me,id,aL,bq,bf,order,cv,workers,room⟩) :
   Calls prog 65 #[.agg (bV ⟨n,me,id,aL,bq,bf,order,cv,workers,room⟩).toArray] w λr w'=>∃ B:oj,r=.returned (pt B.cb)∧U W w' (a1 B (fl ⟨n,me,id,aL,bq,bf,order,cv,workers,room⟩)::L):=by
 obtain⟨⟨h1,h2,h3⟩,⟨h4,h5,h6,h7⟩,h8,h9,fg,lP⟩:=h;simp only[fB] at *;refine EN func65 ntmps65 rfl rfl λa E=>?_;refine BX 1 E I λb1 a w E I=>?_;change U W w (aa b1 28 [.int .i64 n,.int .i64 me,.int .i64 id,.int .i64 aL,.int .i64 bq,.int .i64 bf,.int .i64 order,.int .i64 cv,.int .i64 workers,.int .i64 room]::_) at I;refine RN 1 E I λa E=>?_;refine cc (M:=λa w=>∃ b8 iN eO iz nn:Nat,Fr a 48 [(1,pt b1),(3,pt nn)]∧U W w (aa nn 72 [.int .i64 n,.int .i64 me,.int .i64 id,.int .i64 aL,.int .i64 bq,.int .i64 bf,.int .i64 order,.int .i64 cv,.int .i64 workers,.int .i64 room,.slice none 0 0,.int .i64 0,.slice (some ⟨b8,0,none⟩) n n,.slice (some ⟨iN,0,none⟩) n n,.slice (some ⟨eO,0,none⟩) n n,.slice (some ⟨iz,0,none⟩) n n,.slice none 0 0,.slice none 0 0,.bool false]::aa b8 3 (List.replicate n (.int .i64 0))::aa iN 3 (List.replicate n (.int .i64 0))::aa eO 313 (rows (λ_:Pe=>[Value.int .i64 0,.int .u32 0]) (List.replicate n (fC 0)))::aa iz 4 (List.replicate n (.bool false))::aa b1 28 [.int .i64 n,.int .i64 me,.int .i64 id,.int .i64 aL,.int .i64 bq,.int .i64 bf,.int .i64 order,.int .i64 cv,.int .i64 workers,.int .i64 room]::L)) ?_ ?_
 ·
  refine bR 0 [2,3,5,6,8,9,11,12] [1,4,7,10,3000,3002,3005,3008,3011,2003,2006,2009,1012,13,1014,15] E I λa w E I hH hC=>?_;refine RH 9 E I hH hC λa E=>?_;refine DN [(3,[2006,2009,1012,13,1014,15]),(6,[2003,2009,1012,13,1014,15]),(9,[2003,2006,1012,13,1014,15]),(12,[2003,2006,1009,13,1014,15])] (by kernel_rfl) rfl ⟨⟨_,rfl,?_⟩,⟨_,rfl,?_⟩,⟨_,rfl,?_⟩,⟨_,rfl,?_⟩,trivial⟩
  all_goals repeat' first
   | (refine RH 0 E I hH hC λa E=>?_;(first | refine rB E rfl I underlying53 Ty.t3 rfl (by omega) (by omega) λb8 a w (E:Fr a 48 ((8,_)::_)) I ho=>?_ | refine rB E rfl I underlying53 Ty.t3 rfl (by omega) (by omega) λiN a w (E:Fr a 48 ((11,_)::_)) I ho=>?_ | refine rB E rfl I underlying67 Ty.t313 rfl (by omega) (by omega) λeO a w E I ho=>?_ | refine rB E rfl I underlying68 Ty.t4 rfl (by omega) (by omega) λiz a w E I ho=>?_);replace hC:=hC.trans ho;clear ho;(first | rw[Ci _ rfl]at I | rw[abe]at I))
   | (refine RH 1 E I hH hC λa E=>?_;refine xW E rfl I rfl λnn a w E I ho=>?_;replace hC:=hC.trans ho;clear ho;refine RH 1 E I hH hC λa E=>?_;exact⟨b8,iN,eO,iz,nn,E.ab [1,3],I.sub⟩)
   | (refine RH 0 E I hH hC λa E=>?_;(first | (have q:=(iN,eO);clear q;refine DN [(3,[1012,13,1014,15]),(12,[1003,13,1014,15])] (by kernel_rfl) rfl ⟨⟨_,rfl,?_⟩,⟨_,rfl,?_⟩,trivial⟩) | (have q:=(iN,iz);clear q;refine DN [(3,[1009,13,1014,15]),(9,[1003,13,1014,15])] (by kernel_rfl) rfl ⟨⟨_,rfl,?_⟩,⟨_,rfl,?_⟩,trivial⟩) | (have q:=(eO,iz);clear q;refine DN [(3,[1006,13,1014,15]),(6,[1003,13,1014,15])] (by kernel_rfl) rfl ⟨⟨_,rfl,?_⟩,⟨_,rfl,?_⟩,trivial⟩) | (have q:=(b8,iN);clear q;refine DN [(9,[1012,13,1014,15]),(12,[1009,13,1014,15])] (by kernel_rfl) rfl ⟨⟨_,rfl,?_⟩,⟨_,rfl,?_⟩,trivial⟩) | (have q:=(b8,eO);clear q;refine DN [(6,[1012,13,1014,15]),(12,[1006,13,1014,15])] (by kernel_rfl) rfl ⟨⟨_,rfl,?_⟩,⟨_,rfl,?_⟩,trivial⟩) | (have q:=(b8,iz);clear q;refine DN [(6,[1009,13,1014,15]),(9,[1006,13,1014,15])] (by kernel_rfl) rfl ⟨⟨_,rfl,?_⟩,⟨_,rfl,?_⟩,trivial⟩) | (have q:=iN;clear q;refine DN [(3,[2009,1012,13,1014,15]),(9,[2003,1012,13,1014,15]),(12,[2003,1009,13,1014,15])] (by kernel_rfl) rfl ⟨⟨_,rfl,?_⟩,⟨_,rfl,?_⟩,⟨_,rfl,?_⟩,trivial⟩) | (have q:=eO;clear q;refine DN [(3,[2006,1012,13,1014,15]),(6,[2003,1012,13,1014,15]),(12,[2003,1006,13,1014,15])] (by kernel_rfl) rfl ⟨⟨_,rfl,?_⟩,⟨_,rfl,?_⟩,⟨_,rfl,?_⟩,trivial⟩) | (have q:=iz;clear q;refine DN [(3,[2006,1009,13,1014,15]),(6,[2003,1009,13,1014,15]),(9,[2003,1006,13,1014,15])] (by kernel_rfl) rfl ⟨⟨_,rfl,?_⟩,⟨_,rfl,?_⟩,⟨_,rfl,?_⟩,trivial⟩) | (have q:=b8;clear q;refine DN [(6,[2009,1012,13,1014,15]),(9,[2006,1012,13,1014,15]),(12,[2006,1009,13,1014,15])] (by kernel_rfl) rfl ⟨⟨_,rfl,?_⟩,⟨_,rfl,?_⟩,⟨_,rfl,?_⟩,trivial⟩)))
 clear E;(try clear I);rintro a w ⟨b8,iN,eO,iz,nn,E,I⟩;refine RN 3 E I λa E=>?_;replace I:=I.bM 65 1 none;replace I:=U.ja (f:=ba) I;rw[q6]at I;refine aN (λμ a w=>∃ (i:Nat) (xs:List ee) (adL:Option Addr) (cL:Nat),(μ=n-i∧i≤n∧bj xs=List.replicate i (List.replicate aL 0))∧Fr a 48 [(1,pt b1),(3,pt nn),(4,.int .i64 i)]∧U W w (aa nn 72 (zA n me id aL bq bf order cv workers room b8 iN eO iz adL i cL)::Sl 65 1 adL i cL (xs.map aM)::ah ba xs::aa b8 3 (ints .i64 n (λ_=>0))::aa iN 3 (ints .i64 n (λj=>if j<i then aL else 0))::aa eO 313 (rows (λ_:Pe=>[Value.int .i64 0,.int .u32 0]) (List.replicate n (fC 0)))::aa iz 4 (List.replicate n (.bool false))::aa b1 28 [.int .i64 n,.int .i64 me,.int .i64 id,.int .i64 aL,.int .i64 bq,.int .i64 bf,.int .i64 order,.int .i64 cv,.int .i64 workers,.int .i64 room]::L)) (n) (⟨0,[],none,0,⟨rfl,by omega,rfl⟩,E.ab [1,3,4],(I.sub:U W w (aa nn 72 (zA n me id aL bq bf order cv workers room b8 iN eO iz none 0 0)::Sl 65 1 none 0 0 []::ah ba []::aa b8 3 (ints .i64 n (λ_=>0))::aa iN 3 (ints .i64 n (λ_=>0))::aa eO 313 (rows (λ_:Pe=>[Value.int .i64 0,.int .u32 0]) (List.replicate n (fC 0)))::aa iz 4 (List.replicate n (.bool false))::aa b1 28 [.int .i64 n,.int .i64 me,.int .i64 id,.int .i64 aL,.int .i64 bq,.int .i64 bf,.int .i64 order,.int .i64 cv,.int .i64 workers,.int .i64 room]::L))⟩) ?_;clear E I;rintro μ a w ⟨i,xs,adL,cL,⟨rfl,hi,bd⟩,E,I⟩;refine IF 6 E I (λaj a E=>?_) λaj a E=>?_
 ·
  refine bR 2 [6,7,8,9] [0,1,2,3,5,3004,1006,1007,1008,1009,1010,11,12,1013] E I λa w E I hH hC=>?_;refine RH 7 E I hH hC λa E=>?_;refine rB E rfl I underlying22 Ty.t5 rfl (by omega) (by omega) λjQ a w E I ho=>?_;replace hC:=hC.trans ho;clear ho;rw[Ci _ rfl,abu]at I;replace I:=I.LS (m:=aL) (sz:=1) (by rw[dy,kJ,fW]);refine RH 1 E I hH hC λa E=>?_;refine cp E rfl I underlying66 Ty.t65 rfl rfl rfl rfl (by decide) (by decide) λb35 a w E I ho=>?_;replace hC:=hC.trans ho;clear ho;refine RH 0 E I hH hC λa E=>?_;refine cQ E rfl I underlying66 Ty.t65 rfl rfl I.ai rfl (by simp[Value.oneCell']) (by decide) (by decide) (by omega) λG9 Ha a w E I=>?_;rw[show List.map aM xs++_=List.map aM (xs++[(some (⟨jQ,0,none⟩:Addr),aL,List.replicate aL 0)]) from by rw[cW,map_singleton,aM,kJ];rfl]at I;refine ST 2 E I (λa w E I=>?_);refine RN 0 E I λa E=>?_;refine bR 0 [6] [0,1,2,4,5,3003,1006,7,1008] E I λa w E I hH hC=>?_;refine RH 8 E I hH hC λa E=>?_;refine ST 0 E I (λa w E I=>?_) (hlt:=(by rw[dj];omega));rw[ints_set,x7 (g:=λj=>if j=i then (aL:Int) else if j<i then (aL:Int) else 0) (g':=λj=>if j<i+1 then (aL:Int) else 0) (λj _=>by
   by_cases h1:j=i
   ·subst h1;simp
   ·by_cases h2:j<i
    ·simp[h1,h2,show j<i+1 from by omega]
    ·simp[h1,h2,show ¬ j<i+1 from by omega])]at I
  refine RN 3 E I λa E=>?_;have dz:=U.j1 (f:=ba) (x:=(some (⟨jQ,0,none⟩:Addr),aL,List.replicate aL 0)) (by
   show U _ _ (Sl 5 1 (some (⟨jQ,0,none⟩:Addr)) (List.replicate aL (0:UInt8)).length aL (bc (List.replicate aL 0))::_);rw[kJ];exact I.sub (M:=Sl 5 1 (some ⟨jQ,0,none⟩) aL aL (bc (List.replicate aL 0))::ah ba xs::aa nn 72 (zA n me id aL bq bf order cv workers room b8 iN eO iz G9 (i+1) Ha)::Sl 65 1 G9 (i+1) Ha ((xs++[(some (⟨jQ,0,none⟩:Addr),aL,List.replicate aL 0)]).map aM)::aa b8 3 (ints .i64 n (λ_=>0))::aa iN 3 (ints .i64 n (λj=>if j<i+1 then (aL:Int) else 0))::aa eO 313 (rows (λ_:Pe=>[Value.int .i64 0,.int .u32 0]) (List.replicate n (fC 0)))::aa iz 4 (List.replicate n (.bool false))::aa b1 28 [.int .i64 n,.int .i64 me,.int .i64 id,.int .i64 aL,.int .i64 bq,.int .i64 bf,.int .i64 order,.int .i64 cv,.int .i64 workers,.int .i64 room]::L))
  exact⟨n-(i+1),by omega,i+1,xs++[(some (⟨jQ,0,none⟩:Addr),aL,List.replicate aL 0)],G9,Ha,⟨rfl,by omega,by rw[bj,cW,← bj,bd,replicate_succ'];rfl⟩,E.ab [1,3,4],dz.sub⟩
 refine RT 3 E I ?_;obtain rfl:i=n:=by omega
 obtain⟨lb,lo,rfl,_⟩:=(I.pick (Sl 65 1 adL i cL (xs.map aM))).bU adL (by omega);rw[x7 (g:=λj=>if j<i then (aL:Int) else 0) (g':=λ_=>(aL:Int)) (λj hj=>by simp[hj])]at I;refine⟨⟨nn,lb,lo,cL,b8,iN,eO,iz⟩,rfl,?_⟩;have ha:(fl ⟨i,me,id,aL,bq,bf,order,cv,workers,room⟩).ls.length=i:=by simp[fl]
 have h9:=I.sub (M:=Sl 65 1 (some ⟨lb,lo,none⟩) i cL (xs.map aM)::ah ba xs::aa nn 72 (zA i me id aL bq bf order cv workers room b8 iN eO iz (some ⟨lb,lo,none⟩) i cL)::aa b8 3 (ints .i64 i (λ_=>0))::aa iN 3 (ints .i64 i (λ_=>(aL:Int)))::aa eO 313 (rows (λ_:Pe=>[Value.int .i64 0,.int .u32 0]) (List.replicate i (fC 0)))::aa iz 4 (List.replicate i (.bool false))::L);have h8:=bL.close (ls:=List.replicate i (List.replicate aL 0)) (by rw[kJ];exact h9) bd;replace h8:=U.bM (U.bM h8 100 1 none) 102 3 none;refine U.shut (M:=[_,_,_,_,_,_,_,_]) (A:=a1 _ _) ?_ (λ_ h=>⟨⟨none,0,none,0⟩,h⟩);have fL:(fl ⟨i,me,id,aL,bq,bf,order,cv,workers,room⟩).ps=List.replicate i (fC aL):=by simp[fl]
 rw[cX,ha,fL,abp,abq,abr,abt];exact h8.sub (M:=aa nn 72 (zA i me id aL bq bf order cv workers room b8 iN eO iz (some ⟨lb,lo,none⟩) i cL)::bL lb lo cL (List.replicate i (List.replicate aL 0))::aa b8 3 (ints .i64 i (λ_=>0))::aa iN 3 (ints .i64 i (λ_=>(aL:Int)))::aa eO 313 (rows (λ_:Pe=>[Value.int .i64 0,.int .u32 0]) (List.replicate i (fC 0)))::aa iz 4 (List.replicate i (.bool false))::Sl 100 1 none 0 0 []::Sl 102 3 none 0 0 []::L)
end
section
variable {W w:World}{L L':List SP}{n c m lb lo i f cl:Nat}{ad:Option Addr}{ls:List (List UInt8)}{k:Ks}{A:m6}{B:oj}{x:UInt8}
theorem NU {fr m aO cq:Nat}{adq:Option Addr}{q:List UInt8}(I:U W w L)(pg:w.cell? ⟨lb,aO,none⟩=some (.slice adq q.length cq))(hqc:q.length≤cq)(qm:∀ w',U W w' L→aX w' adq q.length q)(hl:q.length≤1000)(hf:fr≤1000)(hk:1≤m∧m≤1000) :
   Calls prog 113 #[.pointer (some ⟨lb,aO,none⟩),.int .i64 fr,.int .i64 m] w λr w'=>∃ av c',r=.returned (.slice av ((q.drop fr).take m).length c')∧U W w' (Sl 5 1 av ((q.drop fr).take m).length c' (bc ((q.drop fr).take m))::L):=by
 refine EN func113 ntmps113 rfl rfl λa E=>?_;refine RN 7 E I λa E=>?_;rw[bo (by omega)]at E;refine RN 4 E I λa E=>?_;refine bw E (cw E rfl (s:=10)) (ae E (pg)) rfl λa E=>?_;refine BY 4 E I (λla a E=>?_) λla a E=>?_
 ·
  refine RT 6 E I ?_;have hz:(q.drop fr).take m=[]:=by rw[drop_eq_nil_of_le (by omega),List.take_nil]
  rw[hz];exact⟨none,0,rfl,I.bM _ _ none⟩
 refine RN 3 E I λa E=>?_;rw[bo (by omega)]at E;refine RN 5 E I λa E=>?_;refine SS E (ae E (pg)) λa E=>?_;refine RN 9 E I λa E=>?_;rw[show min (m:Int) ((((q.length-fr:Nat):Int)))=((min m (q.length-fr):Nat):Int) from by omega]at E;refine RN 1 E I λa E=>?_;rw[rH,Nat.sub_zero,Nat.sub_zero]at E;have zB:=((qm _ I).y6 (c:=cq) (lo:=fr) (n:=min m (q.length-fr)) (by omega) hqc);have hte:(q.drop fr).take (min m (q.length-fr))=(q.drop fr).take m:=by rw[List.take_eq_take_iff,c7];omega
 rw[hte]at zB;have eP:min m (q.length-fr)=((q.drop fr).take m).length:=by rw[eA,c7]
 rw[eP]at E zB;replace I:=I.bM 5 1 none;refine g8 E rfl I underlying22 Ty.t5 rfl rfl (by decide) (λh0=>zB.get h0) (by rw[dy];omega) (ez _) (by rw[eA,c7];omega) λFt Fu a w E I=>?_;rw[nil_append,eG]at I;rw[eG]at E;refine RT 1 E I ?_;exact⟨_,_,rfl,I⟩
theorem a1.Cl (I:U W w (a1 B k::L)):∃ (A:m6) (D:SP),U W w (aa B.cb 72 (cX k B A)::D::L)∧∀ (w':World) (L':List SP) (nw:Nat) (cl:Bool),U W w' (aa B.cb 72 (cX { k with now:=nw,cl:=cl } B A)::D::L')→U W w' (a1 B { k with now:=nw,cl:=cl }::L'):=by
 obtain⟨A,I⟩:=a1.open I;have h1:U W w ([bL B.lb B.lo B.cL k.ls,aa B.hb 3 (fb k.ps),aa B.dZ 3 (eW k.ps),aa B.wb 313 (rows fe k.ps),aa B.xb 4 (fc k.ps),Sl 100 1 A.cj k.mr.length A.cM (c4 k.mr),Sl 102 3 A.adE k.ev.length A.cE (rows bW k.ev)]++(aa B.cb 72 (cX k B A)::L)):=I.sub (M:=bL B.lb B.lo B.cL k.ls::aa B.hb 3 (fb k.ps)::aa B.dZ 3 (eW k.ps)::aa B.wb 313 (rows fe k.ps)::aa B.xb 4 (fc k.ps)::Sl 100 1 A.cj k.mr.length A.cM (c4 k.mr)::Sl 102 3 A.adE k.ev.length A.cE (rows bW k.ev)::aa B.cb 72 (cX k B A)::L);refine⟨A,λh=>cm [bL B.lb B.lo B.cL k.ls,aa B.hb 3 (fb k.ps),aa B.dZ 3 (eW k.ps),aa B.wb 313 (rows fe k.ps),aa B.xb 4 (fc k.ps),Sl 100 1 A.cj k.mr.length A.cM (c4 k.mr),Sl 102 3 A.adE k.ev.length A.cE (rows bW k.ev)] h,?_,λw' L' nw cl I=>?_⟩
 ·exact (U.shut (A:=λh=>cm [bL B.lb B.lo B.cL k.ls,aa B.hb 3 (fb k.ps),aa B.dZ 3 (eW k.ps),aa B.wb 313 (rows fe k.ps),aa B.xb 4 (fc k.ps),Sl 100 1 A.cj k.mr.length A.cM (c4 k.mr),Sl 102 3 A.adE k.ev.length A.cE (rows bW k.ev)] h) h1 λ_ h=>h).perm (cZ _ _ _)
 ·have h2:U W w' (bL B.lb B.lo B.cL k.ls::aa B.hb 3 (fb k.ps)::aa B.dZ 3 (eW k.ps)::aa B.wb 313 (rows fe k.ps)::aa B.xb 4 (fc k.ps)::Sl 100 1 A.cj k.mr.length A.cM (c4 k.mr)::Sl 102 3 A.adE k.ev.length A.cE (rows bW k.ev)::aa B.cb 72 (cX { k with now:=nw,cl:=cl } B A)::L'):=(I.perm (cZ _ _ _)).open (M:=[_,_,_,_,_,_,_]) λ_ h=>h;exact a1.fold h2 B { k with now:=nw,cl:=cl } A
def xE (k:Ks)(i:Nat):List Ml:=(lv k i).map λj=>(k.me,j,aT (iD k j))
def xF (k:Ks)(i:Nat):List Ml:=(lv k i).map λj=>(k.me,j,aT (dP k j))
theorem abw (I:U W w (a1 B k::L))(hk:WC k):Calls prog 74 #[pt B.cb] w λr w'=>∃ ad c,r=.returned (.slice ad (cy k).1.length c)∧U W w' (cd 60 ad (cy k).1.length c (cy k).1::a1 B (cy k).2::L):=by
 have hn:=hk.n;obtain⟨A,D,I,hD⟩:=a1.Cl I;refine EN func74 ntmps74 rfl rfl λa E=>?_;refine IF 8 E I (λaj a E=>?_) λaj a E=>?_
 ·
  refine RT 2 E I ?_;refine⟨none,0,by rw[cy,ak aj];rfl,?_⟩;rw[cy,ak aj];exact cd.nil (hD _ _ k.now k.cl I)
 refine RN 5 E I λa E=>?_;have hq:cy k=((bH k).map λi=>(k.me,i,aT (iD k i)),{ k with cl:=true }):=by rw[cy,ag (by rw[aj];decide)]
 replace I:=U.bM (U.ja (f:=ca) I) 60 3 none;refine aN (λμ a w=>∃ (i:Nat) (xs:List Mx) (ad:Option Addr) (c:Nat),(μ=k.n-i∧i≤k.n∧xs.map (·.2.2)=xE k i∧xs.length≤i)∧Fr a 52 [(0,pt B.cb),(3,.slice ad xs.length c),(4,.int .i64 i)]∧U W w (Sl 60 3 ad xs.length c (rows b7 xs)::ah ca xs::aa B.cb 72 (cX k B A)::D::L)) (k.n) (⟨0,[],none,0,⟨rfl,by omega,rfl,a7 _⟩,E.ab [0,3,4],I⟩) ?_;clear E I;rintro μ a w ⟨i,xs,ad,c,⟨rfl,hi,eI,b9⟩,E,I⟩;refine IF 9 E I (λao a E=>?_) λao a E=>?_
 ·
  have l6:xE k (i+1)=if i=k.me then xE k i else xE k i++[(k.me,i,aT (iD k i))]:=by
   rw[xE,Gb];split
   ·rfl
   ·rw[cW];rfl
  refine IF 9 E I (λay a E=>?_) λay a E=>?_
  ·
   rw[ag (by omega)]at l6;refine aV 0 (λw0 w'=>Rd w' B.cb 0 (cX k B A)) [11,17,18,19] [0,1,2,3,4,6,7,8,9,10,12,13,14,15,16,3005,3011,1017,1018,1019,20,1021,1022,23] E I λa w E I hH=>?_;have hC:=hH.at w (I.ai (b:=B.cb));refine RH 15 E I hH hC λa E=>?_;refine QH E (λw hc=>ae E (hc 1 _ rfl)) hC λa E=>?_;refine QH E (λw hc=>ae E (hc 1 _ rfl)) hC λa E=>?_;refine RH 0 E I hH hC λa E=>?_;refine SS E (ae E (hC 2 _ rfl)) λa E=>?_;refine RH 1 E I hH hC λa E=>?_;refine aZ 0 E I (FH (p:=iD k i) (ad:=none) (c:=0) I (by show 0<4294967296;decide) (λw' hw=>aX.nil)) λad2 c2 a w E I=>?_;replace hC:=hH.at w (I.ai (b:=B.cb));refine RH 1 E I hH hC λa E=>?_;refine cp E rfl I underlying37 Ty.t60 rfl rfl rfl rfl (by decide) (by decide) λb46 a w E I ho=>?_;clear ho;refine RN 0 E I λa E=>?_;refine cQ E rfl I underlying37 Ty.t60 rfl rfl I.ai rfl (by simp[Value.oneCell']) (by decide) (by decide) (by omega) λqd se a w E I=>?_;rw[show rows b7 xs++_=rows b7 (xs++[(ad2,c2,(k.me,i,aT (iD k i)))]) from by rw[kG];rfl,show xs.length+1=(xs++[(ad2,c2,(k.me,i,aT (iD k i)))]).length from by simp]at I;rw[show xs.length+1=(xs++[(ad2,c2,(k.me,i,aT (iD k i)))]).length from by simp]at E;refine RN 1 E I λa E=>?_;refine RN 3 E I λa E=>?_;have dz:=U.j1 (f:=ca) (x:=(ad2,c2,(k.me,i,aT (iD k i)))) (I.sub (M:=Sl 5 1 ad2 (aT (iD k i)).length c2 (bc (aT (iD k i)))::ah ca xs::Sl 60 3 qd (xs++[(ad2,c2,(k.me,i,aT (iD k i)))]).length se (rows b7 (xs++[(ad2,c2,(k.me,i,aT (iD k i)))]))::aa B.cb 72 (cX k B A)::D::L));exact⟨k.n-(i+1),by omega,i+1,xs++[(ad2,c2,(k.me,i,aT (iD k i)))],qd,se,⟨rfl,by omega,by rw[cW,eI,l6];rfl,by rw[aJ];simp;omega⟩,E.ab [0,3,4],dz.sub⟩
  rw[ak (by omega)]at l6;refine RN 3 E I λa E=>?_;exact⟨k.n-(i+1),by omega,i+1,xs,ad,c,⟨rfl,by omega,by rw[l6,eI],by omega⟩,E.ab [0,3,4],I⟩
 obtain rfl:i=k.n:=by omega
 refine ST 4 E I (λa w E I=>?_);refine RT 3 E I ?_;have ha:xs.length=((bH k).map λi=>(k.me,i,aT (iD k i))).length:=by
  have h1:(xs.map (·.2.2)).length=(xE k k.n).length:=by rw[eI]
  rw[a8]at h1;exact h1
 rw[hq];refine⟨ad,c,by rw[ha],?_⟩;rw[ha]at I;have h5:=hD _ _ k.now true (I.sub (M:=aa B.cb 72 (cX { k with now:=k.now,cl:=true } B A)::D::Sl 60 3 ad ((bH k).map λi=>(k.me,i,aT (iD k i))).length c (rows b7 xs)::ah ca xs::L));exact cd.close (xs:=xs) h5.sub eI rfl
theorem abx {k:Ks}{i:Nat}(h1:∀ j,j<i→j≠k.me→¬ jH k j)(hi:i<k.n)(hm:i≠k.me)(hl:jH k i):(bH k).find? (λi=>decide (jH k i))=some i:=by
 rw[bH,List.find?_filter,List.find?_range_eq_some];refine⟨by simp[hm,hl],by simpa using hi,λj hj=>?_⟩;by_cases vq:j=k.me
 ·simp[vq]
 ·simp[h1 j hj vq]
theorem aby {k:Ks}(h1:∀ j,j<k.n→j≠k.me→¬ jH k j):(bH k).find? (λi=>decide (jH k i))=none :=
 Mz λj hj=>bo (h1 j (xk.1 hj).1 (xk.1 hj).2)
set_option maxHeartbeats 2000000 in
theorem abz (I:U W w (a1 B k::L))(hk:WC k)(pG:k.now≤1000000):Calls prog 73 #[pt B.cb] w λr w'=>∃ ad c,r=.returned (.slice ad (br k).1.length c)∧U W w' (cd 60 ad (br k).1.length c (br k).1::a1 B (br k).2::L):=by
 have hn:=hk.n;obtain⟨A0,D,I,hD⟩:=a1.Cl I;refine EN func73 ntmps73 rfl rfl λa E=>?_;refine IF 8 E I (λaj a E=>?_) λaj a E=>?_
 ·
  refine RT 2 E I ?_;refine⟨none,0,by rw[br,ak aj];rfl,?_⟩;rw[br,ak aj];exact cd.nil (hD _ _ k.now k.cl I)
 have iy:br k=(match (bH { k with now:=k.now+1 }).find? (λi=>decide (jH { k with now:=k.now+1 } i)) with
  | some i=>([],{ ({ k with now:=k.now+1 }:Ks) with ev:=({ k with now:=k.now+1 }:Ks).ev++[(2,i,0)],cl:=true })
  | none=>((bH { k with now:=k.now+1 }).map λi=>(({ k with now:=k.now+1 }:Ks).me,i,aT (dP { k with now:=k.now+1 } i)),{ k with now:=k.now+1 })):=by rw[br,ag (by rw[aj];decide)];rfl
 refine RN 6 E I λa E=>?_;rw[show ((k.now:Nat):Int)+1=((k.now+1:Nat):Int) from by omega]at E;refine ST 2 E I (λa w E I=>?_);refine RN 0 E I λa E=>?_;replace I:=hD _ _ (k.now+1) k.cl I;clear hD;have e0:WC { k with now:=k.now+1 }:=hk.BM;have qh:=hk.kT;have Gf:({ k with now:=k.now+1 }:Ks).now≤1000001:=by show k.now+1≤_;omega
 have Gg:({ k with now:=k.now+1 }:Ks).ev.length≤9:=qh;have Gh:2≤({ k with now:=k.now+1 }:Ks).n∧({ k with now:=k.now+1 }:Ks).n≤8:=hn;have abA:({ k with now:=k.now+1 }:Ks).cl=false:=aj;replace I:U W w (a1 B { k with now:=k.now+1 }::L):=I;generalize ({ k with now:=k.now+1 }:Ks)=k1 at I e0 iy Gf Gg Gh abA;obtain⟨A,I⟩:=a1.open I;refine RN 3 E I λa E=>?_;refine aN (λμ a w=>∃ (i:Nat),(μ=k1.n-i∧i≤k1.n∧∀ j,j<i→j≠k1.me→¬ jH k1 j)∧Fr a 154 [(0,pt B.cb),(3,.int .i64 i)]∧U W w (aa B.cb 72 (cX k1 B A)::bL B.lb B.lo B.cL k1.ls::aa B.hb 3 (fb k1.ps)::aa B.dZ 3 (eW k1.ps)::aa B.wb 313 (rows fe k1.ps)::aa B.xb 4 (fc k1.ps)::Sl 100 1 A.cj k1.mr.length A.cM (c4 k1.mr)::Sl 102 3 A.adE k1.ev.length A.cE (rows bW k1.ev)::L)) (k1.n) (⟨0,⟨rfl,by omega,λj hj=>by omega⟩,E.ab [0,3],I⟩) ?_;clear E I;rintro μ a w ⟨i,⟨rfl,hi,bQ⟩,E,I⟩;refine IF 9 E I (λao a E=>?_) λao a E=>?_
 ·
  have cD:i<k1.n:=by omega
  have aI:i<k1.ps.length:=by rw[e0.ps];exact cD
  have iE:=e0.qe cD;have e8:=vj aI;refine bR 2 [15,17,18] [0,1,2,3,4,1005,6,7,8,9,10,12,13,14,16,3011,1015,1017,1018,19,20,21] E I λa w E I hH hC=>?_;have jV:Rd w B.cb 0 (cX k1 B A):=I.ai (b:=B.cb);have hrh:=I.bz (b:=B.hb) (abf e8);refine RH 5 E I hH hC λa E=>?_;refine SS E (ae E (jV 1 _ rfl)) λa E=>?_;refine RH 2 E I hH hC λa E=>?_;refine E.by (s:=34) (λjU E=>?_) (λjU E=>?_)
  ·
   refine RH 7 E I hH hC λa E=>?_;refine QH E (λw hc=>ae E (hc.cell (jV 11 _ rfl))) hC λa E=>?_;refine RH 0 E I hH hC λa E=>?_;refine bw E (cw E rfl (s:=34)) (ae E (jV 12 _ rfl)) rfl λa E=>?_;refine RH 1 E I hH hC λa E=>?_;refine bw E (cw E rfl (s:=34)) (ae E (hrh)) rfl λa E=>?_;refine RH 3 E I hH hC λa E=>?_;refine IF 0 E I (λay a E=>?_) λay a E=>?_
   ·
    have hlt:jH k1 i:=by rw[jH];omega
    rw[abx bQ cD (by omega) hlt]at iy;replace I:=a1.fold I B k1 A;refine CL 3 E I (G6 (kd:=2) (pl:=i) (fr:=0) I (by omega)) λa w E I=>?_;refine RN 1 E I λa E=>?_;obtain⟨A2,Rs,I,hD2⟩:=a1.Cl I;refine ST 3 E I (λa w E I=>?_);refine RN 0 E I λa E=>?_;replace I:=hD2 _ _ k1.now true I;refine RT 2 E I ?_;rw[iy];exact⟨none,0,rfl,cd.nil I⟩
   refine RN 3 E I λa E=>?_;exact⟨k1.n-(i+1),by omega,i+1,⟨rfl,by omega,λj hj vq=>by
    by_cases h:j=i
    ·subst h;rw[jH];omega
    ·exact bQ j (by omega) vq⟩,E.ab [0,3],I⟩
  refine RH 14 E I hH hC λa E=>?_;refine RN 4 E I λa E=>?_;exact⟨k1.n-(i+1),by omega,i+1,⟨rfl,by omega,λj hj vq=>by
   by_cases h:j=i
   ·omega
   ·exact bQ j (by omega) vq⟩,E.ab [0,3],I⟩
 obtain rfl:i=k1.n:=by omega
 rw[aby bQ]at iy;clear bQ;have Ms:=e0.mr;have eE:k1.me<k1.ls.length:=by rw[e0.ls];exact e0.me
 obtain⟨xs,bd,I⟩:=bL.open (I.pick (bL B.lb B.lo B.cL k1.ls));have b9:xs.length=k1.ls.length:=by rw[← bd,gb]
 obtain⟨y,hy⟩:∃ y,xs[k1.me]?=some y:=⟨_,aD (by omega)⟩;have ue:k1.ls.getD k1.me []=y.2.2:=by rw[← bd,sA hy]
 have jm:y.2.2.length≤1000:=by rw[← ue];exact e0.lZ
 have pd:y.2.2.length≤y.2.1:=by
  obtain⟨ud,ua⟩:=aY.1 hy;have h1:=((I.pick (ah ba xs)).fy ud);rw[ua]at h1;have h2:U W w (Sl 5 1 y.1 y.2.2.length y.2.1 (bc y.2.2)::_):=h1;exact (h2.sl y.1).2
 refine RN 5 E I λa E=>?_;replace I:=U.bM (U.ja (f:=ca) I) 60 3 none;refine aN (λμ a w=>∃ (i:Nat) (zs:List Mx) (ad:Option Addr) (c:Nat),(μ=k1.n-i∧i≤k1.n∧zs.map (·.2.2)=xF k1 i∧zs.length≤i)∧Fr a 154 [(0,pt B.cb),(4,.slice ad zs.length c),(5,.int .i64 i)]∧U W w (Sl 60 3 ad zs.length c (rows b7 zs)::ah ca zs::aa B.cb 72 (cX k1 B A)::Sl 65 1 (some ⟨B.lb,B.lo,none⟩) k1.ls.length B.cL (xs.map aM)::ah ba xs::aa B.hb 3 (fb k1.ps)::aa B.dZ 3 (eW k1.ps)::aa B.wb 313 (rows fe k1.ps)::aa B.xb 4 (fc k1.ps)::Sl 100 1 A.cj k1.mr.length A.cM (c4 k1.mr)::Sl 102 3 A.adE k1.ev.length A.cE (rows bW k1.ev)::L)) (k1.n) (⟨0,[],none,0,⟨(Nat.sub_zero _).symm,Nat.zero_le _,rfl,a7 _⟩,E.ab [0,4,5],(show U W w (Sl 60 3 none ([]:List Mx).length 0 (rows b7 [])::ah ca []::_) from I).sub⟩) ?_;clear E I;rintro μ a w ⟨i,zs,ad,c,⟨rfl,hi,rh,iL⟩,E,I⟩;refine IF 9 E I (λbk a E=>?_) λbk a E=>?_
 ·
  have l6:xF k1 (i+1)=if i=k1.me then xF k1 i else xF k1 i++[(k1.me,i,aT (dP k1 i))]:=by
   rw[xF,Gb];split
   ·rfl
   ·rw[cW];rfl
  have cD:i<k1.n:=by omega
  have aI:i<k1.ps.length:=by rw[e0.ps];exact cD
  have iE:=e0.qe cD;have e8:=vj aI;obtain⟨z,hz⟩:∃ z,xs[i]?=some z:=⟨_,aD (by rw[b9,e0.ls];exact cD)⟩;have hzq:k1.ls.getD i []=z.2.2:=by rw[← bd,sA hz]
  refine IF 10 E I (λbN a E=>?_) λbN a E=>?_
  ·
   rw[ak (by omega)]at l6;refine RN 3 E I λa E=>?_;exact⟨k1.n-(i+1),by omega,i+1,zs,ad,c,⟨rfl,by omega,by rw[l6,rh],by omega⟩,E.ab [0,4,5],I⟩
  rw[ag (by omega)]at l6;refine RN 0 E I λa E=>?_;refine cc (M:=λa w=>∃ (cH:Nat) (c1:Option Addr) (dT:Nat),Fr a 154 [(0,pt B.cb),(4,.slice ad zs.length c),(5,.int .i64 i),(6,pt cH)]∧U W w (aa cH 203 [.int .i64 1,.int .i64 k1.me,.int .i64 i,.int .i64 k1.id,.int .i64 (au k1 i).has,.slice c1 ((y.2.2.drop (au k1 i).has).take 32).length dT,.int .i64 z.2.2.length,.int .i64 k1.mr.length,.int .u32 0]::Sl 5 1 c1 ((y.2.2.drop (au k1 i).has).take 32).length dT (bc ((y.2.2.drop (au k1 i).has).take 32))::Sl 60 3 ad zs.length c (rows b7 zs)::ah ca zs::aa B.cb 72 (cX k1 B A)::Sl 65 1 (some ⟨B.lb,B.lo,none⟩) k1.ls.length B.cL (xs.map aM)::ah ba xs::aa B.hb 3 (fb k1.ps)::aa B.dZ 3 (eW k1.ps)::aa B.wb 313 (rows fe k1.ps)::aa B.xb 4 (fc k1.ps)::Sl 100 1 A.cj k1.mr.length A.cM (c4 k1.mr)::Sl 102 3 A.adE k1.ev.length A.cE (rows bW k1.ev)::L)) ?_ ?_
  ·
   refine aV 0 (λw0 w'=>Rd w' B.cb 0 (cX k1 B A)∧w'.cell? ⟨B.dZ,i,none⟩=some (.int .i64 (au k1 i).has)∧Rd w' B.lb B.lo (xs.map aM)) [10,14,16,17,21,26,27,31,33,34,35,39,41,42,43,44,48,49,51] [0,1,2,3,5,6,7,8,9,11,12,13,15,18,19,20,22,23,24,25,28,29,30,32,36,37,38,40,45,46,47,3004,3010,3014,3016,3017,3021,3026,3027,3031,3033,3034,3039,3041,3042,3043,3044,3048,3049,2035,50,1051,1052] E I λa w E I hH=>?_;have hC:=hH.at w ⟨I.ai (b:=B.cb),I.bz (b:=B.dZ) (xC e8),I.cK B.lb B.lo (by omega)⟩;refine RH 31 E I hH hC λa E=>?_;refine QH E (λw hc=>ae E (hc.1 1 _ rfl)) hC λa E=>?_;refine QH E (λw hc=>ae E (hc.1 2 _ rfl)) hC λa E=>?_;refine QH E (λw hc=>ae E (hc.1 13 _ rfl)) hC λa E=>?_;refine RH 1 E I hH hC λa E=>?_;refine QH E (λw hc=>ae E (hc.2.1)) hC λa E=>?_;refine QH E (λw hc=>ae E (hc.1 10 _ rfl)) hC λa E=>?_;refine QH E (λw hc=>ae E (hc.1 1 _ rfl)) hC λa E=>?_;refine RH 1 E I hH hC λa E=>?_;refine QH E (λw hc=>ae E (hc.1 13 _ rfl)) hC λa E=>?_;refine RH 1 E I hH hC λa E=>?_;refine QH E (λw hc=>ae E (hc.2.1)) hC λa E=>?_;refine QH E (λw hc=>ae E (hc.1 10 _ rfl)) hC λa E=>?_;refine QH E (λw hc=>Iw E underlying66 Ty.t65 (by rw[e0.ls];exact cD)) hC λa E=>?_;rw[fW]at E;refine RH 1 E I hH hC λa E=>?_;refine QH E (λw hc=>ae E (hc.2.2 i (aM z) (by rw[bl,hz];rfl))) hC λa E=>?_;rw[aM]at E;refine RH 1 E I hH hC λa E=>?_;refine QH E (λw hc=>ae E (hc.1 16 _ rfl)) hC λa E=>?_;refine RH 1 E I hH hC λa E=>?_;refine DN [(35,[50,1051,1052]),(51,[1035,50,1052])] (by kernel_rfl) rfl ⟨⟨_,rfl,?_⟩,⟨_,rfl,?_⟩,trivial⟩
   ·
    refine RH 0 E I hH hC λa E=>?_;refine aZ 0 E I (NU (q:=y.2.2) (adq:=y.1) (cq:=y.2.1) (m:=32) I (by have h9:=hC.2.2 k1.me (aM y) (by rw[bl,hy];rfl);exact h9) pd (λw' hw=>(U.pj (hw.sub (M:=Sl 65 1 (some ⟨B.lb,B.lo,none⟩) k1.ls.length B.cL (xs.map aM)::ah ba xs::[]))).2 y (bF hy)) jm iE.1 (by decide)) λc1 dT a w E I=>?_;replace hC:=hH.at w ⟨I.ai (b:=B.cb),I.bz (b:=B.dZ) (xC e8),I.cK B.lb B.lo (by omega)⟩;refine RH 1 E I hH hC λa E=>?_;refine eZ E rfl I Ty.t203 rfl λcH a w E I ho=>?_;clear ho;replace hC:=hH.at w ⟨I.ai (b:=B.cb),I.bz (b:=B.dZ) (xC e8),I.cK B.lb B.lo (by omega)⟩;refine RH 0 E I hH hC λa E=>?_;refine SA 0 E I λa w E I=>?_;refine RN 0 E I λa E=>?_;exact⟨cH,c1,dT,E.ab [0,4,5,6],I.sub⟩
   refine RH 0 E I hH hC λa E=>?_;refine eZ E rfl I Ty.t203 rfl λcH a w E I ho=>?_;clear ho;replace hC:=hH.at w ⟨I.ai (b:=B.cb),I.bz (b:=B.dZ) (xC e8),I.cK B.lb B.lo (by omega)⟩;refine RH 0 E I hH hC λa E=>?_;refine aZ 0 E I (NU (q:=y.2.2) (adq:=y.1) (cq:=y.2.1) (m:=32) I (by have h9:=hC.2.2 k1.me (aM y) (by rw[bl,hy];rfl);exact h9) pd (λw' hw=>(U.pj (hw.sub (M:=Sl 65 1 (some ⟨B.lb,B.lo,none⟩) k1.ls.length B.cL (xs.map aM)::ah ba xs::[]))).2 y (bF hy)) jm iE.1 (by decide)) λc1 dT a w E I=>?_;replace hC:=hH.at w ⟨I.ai (b:=B.cb),I.bz (b:=B.dZ) (xC e8),I.cK B.lb B.lo (by omega)⟩;refine RH 1 E I hH hC λa E=>?_;refine SA 0 E I λa w E I=>?_;refine RN 0 E I λa E=>?_;exact⟨cH,c1,dT,E.ab [0,4,5,6],I.sub⟩
  clear E;(try clear I);rintro a w ⟨cH,c1,dT,E,I⟩;refine cc (M:=λa w=>Fr a 154 [(0,pt B.cb),(4,.slice ad zs.length c),(5,.int .i64 i),(6,pt cH)]∧U W w (aa cH 203 [.int .i64 1,.int .i64 k1.me,.int .i64 i,.int .i64 k1.id,.int .i64 (au k1 i).has,.slice c1 ((y.2.2.drop (au k1 i).has).take 32).length dT,.int .i64 z.2.2.length,.int .i64 k1.mr.length,.int .u32 (k1.mr.getLastD 0:Nat)]::Sl 5 1 c1 ((y.2.2.drop (au k1 i).has).take 32).length dT (bc ((y.2.2.drop (au k1 i).has).take 32))::Sl 60 3 ad zs.length c (rows b7 zs)::ah ca zs::aa B.cb 72 (cX k1 B A)::Sl 65 1 (some ⟨B.lb,B.lo,none⟩) k1.ls.length B.cL (xs.map aM)::ah ba xs::aa B.hb 3 (fb k1.ps)::aa B.dZ 3 (eW k1.ps)::aa B.wb 313 (rows fe k1.ps)::aa B.xb 4 (fc k1.ps)::Sl 100 1 A.cj k1.mr.length A.cM (c4 k1.mr)::Sl 102 3 A.adE k1.ev.length A.cE (rows bW k1.ev)::L)) ?_ ?_
  ·
   refine IF 7 E I (λeN a E=>?_) λeN a E=>?_
   ·
    refine bR 0 [7,8,9] [0,1,2,4,5,6,3003,1007,1008,1009,10,1011,12,1013] E I λa w E I hH hC=>?_;obtain⟨F8,F9,Ge,l5⟩:=((I).pick (Sl 100 1 A.cj k1.mr.length A.cM (c4 k1.mr))).bU A.cj (by omega);have jV:w.cell? ⟨B.cb,16,none⟩=some (.slice A.cj k1.mr.length A.cM):=I.bz (b:=B.cb) rfl;rw[Ge]at jV;refine RH 6 E I hH hC λa E=>?_;refine QH E (λw hc=>ae E (hc.cell (jV))) hC λa E=>?_;refine RH 0 E I hH hC λa E=>?_;refine SS E (ae E (jV)) λa E=>?_;refine RH 2 E I hH hC λa E=>?_;rw[show ((k1.mr.length:Nat):Int)-1=((k1.mr.length-1:Nat):Int) from by omega]at E;refine RH 1 E I hH hC λa E=>?_;refine SS E (ae E (l5 (k1.mr.length-1) _ (BR (by omega)))) λa E=>?_;refine RH 1 E I hH hC λa E=>?_;refine ST 0 E I (λa w E I=>?_);refine RN 0 E I λa E=>?_;rw[Mr (by omega)]at I;exact⟨E.ab [0,4,5,6],I.sub⟩
   refine RN 0 E I λa E=>?_;have h0:k1.mr.getLastD 0=0:=by rw[gG (l:=k1.mr) (by omega)];rfl
   exact⟨E.ab [0,4,5,6],by rw[h0];exact I⟩
  clear E;(try clear I);rintro a w ⟨E,I⟩;refine RN 0 E I λa E=>?_;have hmp:dO (dP k1 i) c1 dT=[.int .i64 1,.int .i64 k1.me,.int .i64 i,.int .i64 k1.id,.int .i64 (au k1 i).has,.slice c1 ((y.2.2.drop (au k1 i).has).take 32).length dT,.int .i64 z.2.2.length,.int .i64 k1.mr.length,.int .u32 (k1.mr.getLastD 0:Nat)]:=by
   rw[← ue,← hzq];rfl
  have abB:(dP k1 i).al=(y.2.2.drop (au k1 i).has).take 32:=by rw[← ue];rfl
  rw[← hmp]at I;refine aV 0 (λw0 w'=>Rd w' B.cb 0 (cX k1 B A)∧Rd w' cH 0 (dO (dP k1 i) c1 dT)) [7,8] [0,1,2,3,4,6,3005,1007,1008,9,1010,1011,12] E I λa w E I hH=>?_;have hC:=hH.at w ⟨I.ai (b:=B.cb),I.ai (b:=cH)⟩;refine RH 6 E I hH hC λa E=>?_;refine QH E (λw hc=>ae E (hc.1 1 _ rfl)) hC λa E=>?_;refine RH 0 E I hH hC λa E=>?_;refine SS E (bT E underlying203 rfl Ty.t203 (hC.2)) λa E=>?_;refine RH 0 E I hH hC λa E=>?_;refine aZ 0 E I (FH (p:=dP k1 i) (ad:=c1) (c:=dT) I (by
   show k1.mr.getLastD 0<4294967296;rw[getLastD_eq_getLast?];cases hl:k1.mr.getLast? with
   | none=>decide
   | some s=>exact e0.sk s (List.mem_of_getLast? hl)) (λw' hw=>by
   have h9:=(hw.pick (Sl 5 1 c1 ((y.2.2.drop (au k1 i).has).take 32).length dT (bc ((y.2.2.drop (au k1 i).has).take 32)))).cu c1 _ rfl rfl;rw[abB];exact h9)) λad2 c2 a w E I=>?_
  replace hC:=hH.at w ⟨I.ai (b:=B.cb),I.ai (b:=cH)⟩;refine RH 1 E I hH hC λa E=>?_;refine cp E rfl I underlying37 Ty.t60 rfl rfl rfl rfl (by decide) (by decide) λagj a w E I ho=>?_;clear ho;refine RN 0 E I λa E=>?_;refine cQ E rfl I underlying37 Ty.t60 rfl rfl I.ai rfl (by simp[Value.oneCell']) (by decide) (by decide) (by omega) λNV NW a w E I=>?_;rw[show rows b7 zs++_=rows b7 (zs++[(ad2,c2,(k1.me,i,aT (dP k1 i)))]) from by rw[kG];rfl,show zs.length+1=(zs++[(ad2,c2,(k1.me,i,aT (dP k1 i)))]).length from by simp]at I;rw[show zs.length+1=(zs++[(ad2,c2,(k1.me,i,aT (dP k1 i)))]).length from by simp]at E;refine RN 1 E I λa E=>?_;refine RN 3 E I λa E=>?_;have dz:=U.j1 (f:=ca) (x:=(ad2,c2,(k1.me,i,aT (dP k1 i)))) (I.sub (M:=Sl 5 1 ad2 (aT (dP k1 i)).length c2 (bc (aT (dP k1 i)))::ah ca zs::Sl 60 3 NV (zs++[(ad2,c2,(k1.me,i,aT (dP k1 i)))]).length NW (rows b7 (zs++[(ad2,c2,(k1.me,i,aT (dP k1 i)))]))::aa B.cb 72 (cX k1 B A)::Sl 65 1 (some ⟨B.lb,B.lo,none⟩) k1.ls.length B.cL (xs.map aM)::ah ba xs::aa B.hb 3 (fb k1.ps)::aa B.dZ 3 (eW k1.ps)::aa B.wb 313 (rows fe k1.ps)::aa B.xb 4 (fc k1.ps)::Sl 100 1 A.cj k1.mr.length A.cM (c4 k1.mr)::Sl 102 3 A.adE k1.ev.length A.cE (rows bW k1.ev)::L));exact⟨k1.n-(i+1),by omega,i+1,zs++[(ad2,c2,(k1.me,i,aT (dP k1 i)))],NV,NW,⟨rfl,by omega,by rw[cW,rh,l6];rfl,by rw[aJ];simp;omega⟩,E.ab [0,4,5],dz.sub⟩
 obtain rfl:i=k1.n:=by omega
 refine RT 3 E I ?_;have ha:zs.length=((bH k1).map λi=>(k1.me,i,aT (dP k1 i))).length:=by
  have h1:(zs.map (·.2.2)).length=(xF k1 k1.n).length:=by rw[rh]
  rw[a8]at h1;exact h1
 rw[iy];refine⟨ad,c,by rw[ha],?_⟩;rw[ha]at I;have h4:=bL.close (xs:=xs) (ls:=k1.ls) (lb:=B.lb) (lo:=B.lo) (c:=B.cL) (W:=W) (w:=w) (L:=Sl 60 3 ad ((bH k1).map λi=>(k1.me,i,aT (dP k1 i))).length c (rows b7 zs)::ah ca zs::aa B.cb 72 (cX k1 B A)::aa B.hb 3 (fb k1.ps)::aa B.dZ 3 (eW k1.ps)::aa B.wb 313 (rows fe k1.ps)::aa B.xb 4 (fc k1.ps)::Sl 100 1 A.cj k1.mr.length A.cM (c4 k1.mr)::Sl 102 3 A.adE k1.ev.length A.cE (rows bW k1.ev)::L) I.sub bd;have h5:=(a1.fold h4 B k1 A);exact cd.close (xs:=zs) h5.sub rh rfl
end
section
variable {W w:World}{L R:List SP}{n c lb lo i f cl to:Nat}{ad:Option Addr}{ls:List (List UInt8)}{k:Ks}{A:m6}{B:oj}{bs:List UInt8}{e:ko}
theorem abC {a b:Nat}:((max a b:Nat):Int)=max (a:Int) (b:Int):=by omega
theorem abD {l:List (List UInt8)}(h:l.length=k.ls.length)(ps:List Pe):cX { k with ls:=l,ps:=ps } B A=cX k B A:=by simp only[cX,h]
theorem a1.abE (I:U W w L)(B:oj)(k:Ks)(A:m6){l:List (List UInt8)}(h:l.length=k.ls.length)[kk:fI L [aa B.cb 72 (cX k B A),bL B.lb B.lo B.cL l,aa B.hb 3 (fb k.ps),aa B.dZ 3 (eW k.ps),aa B.wb 313 (rows fe k.ps),aa B.xb 4 (fc k.ps),Sl 100 1 A.cj k.mr.length A.cM (c4 k.mr),Sl 102 3 A.adE k.ev.length A.cE (rows bW k.ev)] R]:U W w (a1 B { k with ls:=l }::R):=by
 have h1:=I.perm kk.perm;rw[← abD (l:=l) h k.ps]at h1;exact U.shut (M:=[_,_,_,_,_,_,_,_]) h1 λ_ h=>⟨A,h⟩
set_option maxHeartbeats 2000000 in
theorem abF (I:U W w (a1 B k::L))(hk:WC k)(hh:held k)(hb:bs.length≤65536)(hc:bs.length≤c)(hp:∀ w',U W w' L→aX w' ad bs.length bs) :
   Calls prog 155 #[pt B.cb,.slice ad bs.length c] w λr w'=>r=.returned (.int .i64 (dp bs k).1)∧U W w' (a1 B (dp bs k).2::L):=by
 have hn:=hk.n;obtain⟨A0,I⟩:=a1.open I;refine EN func155 ntmps155 rfl rfl λa E=>?_;refine IF 8 E I (λaj a E=>?_) λaj a E=>?_
 ·
  replace I:=a1.fold I B k A0;refine RT 2 E I ?_;exact⟨by rw[BU aj],by rw[BU aj];exact I.sub⟩
 replace I:=a1.fold I B k A0;refine j4 2 E I (Zd (I.pick (a1 B k)) hb hc (λw' hw=>hp w' hw.tail)) ?_;clear E I;rintro e w ⟨p,adP,cP,ok,rfl,NX,Cm,I⟩;refine⟨_,rfl,λa E=>?_⟩;refine AL 3 E I λb5 a w E I=>?_;refine SA 0 E I λa w E I=>?_;refine RN 3 E I λa E=>?_;obtain⟨A,I⟩:=a1.open (I.pick (a1 B k));refine bR 0 [9,19,29] [0,1,2,3,5,6,7,8,3004,1009,10,11,12,13,15,16,17,18,3014,1019,20,21,22,23,25,26,27,28,3024,1029,30,31] E I λa w E I hH hC=>?_;refine RH 3 E I hH hC λa E=>?_;refine E.by (s:=18) (λbA E=>?_) (λbA E=>?_)
 ·
  have dr:ok=false:=by revert bA;cases ok <;> simp
  have db:dN bs=none:=Cm dr;refine RH 29 E I hH hC λa E=>?_;refine RT 3 E I ?_;rw[Gi aj db];exact⟨rfl,(a1.fold I B k A).sub⟩
 have dr:ok=true:=by revert bA;cases ok <;> simp
 have qi:dN bs=some p:=NX dr;obtain⟨tR,fL,_⟩:=Fl qi;have Gj:=tR.1;refine RH 10 E I hH hC λa E=>?_;refine E.by (s:=28) (λiq E=>?_) (λiq E=>?_)
 ·
  refine RH 19 E I hH hC λa E=>?_;refine RT 3 E I ?_;rw[xp aj qi (.inl iq)];exact⟨rfl,(a1.fold I B k A).sub⟩
 refine RH 10 E I hH hC λa E=>?_;refine E.by (s:=38) (λp9 E=>?_) (λp9 E=>?_)
 ·
  refine RH 9 E I hH hC λa E=>?_;refine RT 3 E I ?_;rw[xp aj qi (.inr (.inl p9))];exact⟨rfl,(a1.fold I B k A).sub⟩
 refine RH 9 E I hH hC λa E=>?_;refine IF 0 E I (λao a E=>?_) λao a E=>?_
 ·
  refine RT 2 E I ?_;rw[xp aj qi (.inr (.inr ao))];exact⟨rfl,(a1.fold I B k A).sub⟩
 have bQ:¬ (p.to≠k.me∨(k.n:Int)≤p.aW∨p.id≠k.id):=by
  rintro (h | h | h)
  ·exact h iq
  ·omega
  ·exact h ao
 rw[ME aj qi bQ];clear NX Cm dr;obtain⟨fr,fw⟩:=su Gj.1;have hJ:fr<k.n:=by omega
 have ef:fr<k.ls.length:=by rw[hk.ls];exact hJ
 have nH:fr<k.ps.length:=by rw[hk.ps];exact hJ
 have Gk:fr≠k.me:=by have:=tR.2.2.1;omega
 have iE:=hk.qe hJ;have jW:p.aW.toNat=fr:=by omega
 have e8:=vj nH;refine bR 1 [5,9] [0,1,2,4,6,7,8,3003,3005,1009,10,1011] E I λa w E I hH hC=>?_;refine RH 9 E I hH hC λa E=>?_;rw[fw]at E;refine RH 2 E I hH hC λa E=>?_;refine ST 0 E I (λa w E I=>?_) (hlt:=(by rw[fb,a8];exact nH));rw[abi { au k fr with heard:=k.now } rfl,← G2 e8 { au k fr with heard:=k.now } rfl,← G4 e8 { au k fr with heard:=k.now } rfl rfl,← G3 e8 { au k fr with heard:=k.now } rfl]at I;have b0:=hk.peer (q:={ au k fr with heard:=k.now }) hJ ⟨iE.1,iE.2.2⟩ (a7 _) rfl;have xr:(k.ps.set fr { au k fr with heard:=k.now })[fr]?=some { au k fr with heard:=k.now }:=getElem?_set_self nH;replace I:=a1.fold I B { k with ps:=k.ps.set fr { au k fr with heard:=k.now } } A;refine RN 0 E I λa E=>?_;refine cc (M:=λa w=>∃ lp:Ks,(lp=(if p.kind=2 then { k with ps:=k.ps.set fr { au k fr with heard:=k.now },ev:=k.ev++[(1,fr,0)],cl:=true } else { k with ls:=k.ls.set fr (du (k.ls.getD fr []) p.first.toNat p.al),ps:=k.ps.set fr (fY k.now (aG k) p (au k fr)) })∧WC lp)∧Fr a 135 [(0,pt B.cb)]∧U W w (a1 B lp::L)) ?_ ?_
 ·
  refine IF 4 E I (λay a E=>?_) λay a E=>?_
  ·
   refine RN 4 E I λa E=>?_;rw[fw]at E;refine CL 0 E I (G6 (kd:=1) (pl:=fr) (fr:=0) I (by have:=hk.kT;show k.ev.length≤100;omega)) λa w E I=>?_;refine RN 0 E I λa E=>?_;obtain⟨A2,D,I,hD⟩:=a1.Cl I;refine ST 3 E I (λa w E I=>?_);refine RN 0 E I λa E=>?_;replace I:=hD _ _ k.now true I;exact⟨_,⟨by rw[ak ay],by have h9:=(hk.za tR fL (by omega) aj).1;rw[fZ,ak ay,jW]at h9;exact h9⟩,E.ab [0],I.sub⟩
  refine RN 1 E I λa E=>?_;have g7:eM p.first∧eM p.dc∧eM p.frame∧p.al.length≤32:=by
   rcases tR.2.2.2.2 with h | h
   ·exact h.2
   ·exact absurd h.1 ay
  simp only[eM]at g7;obtain⟨fi,xq⟩:=su g7.1.1;obtain⟨jI,BV⟩:=su g7.2.1.1;obtain⟨kq,Gl⟩:=su g7.2.2.1.1;have zh:p.first.toNat=fi:=by omega
  obtain⟨A2,I⟩:=a1.open I;refine bR 0 [5,8,10] [0,1,2,4,7,9,3003,3005,6,3008,1010,1011] E I λa w E I hH hC=>?_;refine RH 8 E I hH hC λa E=>?_;rw[fw]at E;refine RH 2 E I hH hC λa E=>?_;rw[xq]at E;refine RH 1 E I hH hC λa E=>?_;refine aZ 0 E I (abo (f:=fi) (bs:=p.al) (I.pick (bL B.lb B.lo B.cL k.ls)) ef (hk.mz hJ) (by omega) (λw' hw=>(hw.pick (Sl 5 1 adP p.al.length cP (bc p.al))).cu adP p.al rfl rfl)) λMG er a w E I=>?_;refine RN 0 E I λa E=>?_;have dz:U W w (a1 B { k with ls:=k.ls.set fr (du (k.ls.getD fr []) fi p.al),ps:=k.ps.set fr { au k fr with heard:=k.now } }::_):=a1.abE (l:=k.ls.set fr (du (k.ls.getD fr []) fi p.al)) I B { k with ps:=k.ps.set fr { au k fr with heard:=k.now } } A2 (bt ..);replace I:=dz;clear dz;have mK:=b0.line (i:=fr) (l:=du (k.ls.getD fr []) fi p.al) (sh (hk.mz hJ)).2;have gX:aG ({ k with ls:=k.ls.set fr (du (k.ls.getD fr []) fi p.al),ps:=k.ps.set fr { au k fr with heard:=k.now } }:Ks)=aG k:=by
   show ((k.ls.set fr _).getD k.me []).length=_;rw[MC Gk];rfl
  refine cc (M:=λa w=>∃ hh:Nat,hh=(if (au k fr).has<jI∧jI≤aG k then jI else (au k fr).has)∧Fr a 135 [(0,pt B.cb),(5,pt b5)]∧U W w (a1 B { k with ls:=k.ls.set fr (du (k.ls.getD fr []) fi p.al),ps:=k.ps.set fr { au k fr with heard:=k.now,has:=hh } }::aa b5 203 (dO p adP cP)::L)) ?_ ?_
  ·
   refine aV 1 (λw0 w'=>Rd w' b5 0 (dO p adP cP)) [3] [0,2,3001,1003,4] E I λa w E I hH=>?_;have hC:=hH.at w (I.ai (b:=b5));refine RH 2 E I hH hC λa E=>?_;refine QH E (λw hc=>ae E (hc 6 _ rfl)) hC λa E=>?_;rw[BV]at E;refine RH 0 E I hH hC λa E=>?_;refine CL 0 E I (sD I mK) λa w E I=>?_;replace hC:=hH.at w (I.ai (b:=b5));rw[gX]at E;refine RH 1 E I hH hC λa E=>?_;refine IF 0 E I (λbk a E=>?_) λbk a E=>?_
   ·
    refine RN 0 E I λa E=>?_;obtain⟨A3,I⟩:=a1.open I;have x8:(eW (k.ps.set fr { au k fr with heard:=k.now }))[fr]?=some (Value.int .i64 (au k fr).has):=by
     have h:=xC xr;exact h
    refine bR 0 [5,9,11,12,13,15,16] [0,1,2,4,6,7,8,10,14,3003,3005,3009,3011,3012,3013,1015,1016,17,1018] E I λa w E I hH hC=>?_;refine RH 11 E I hH hC λa E=>?_;rw[fw]at E;refine RH 2 E I hH hC λa E=>?_;rw[fw]at E;refine RH 1 E I hH hC λa E=>?_;refine QH E (λw hc=>ae E (hc.cell (I.bz (b:=B.dZ) x8))) hC λa E=>?_;refine RH 1 E I hH hC λa E=>?_;rw[BV]at E;refine RH 2 E I hH hC λa E=>?_;refine ST 0 E I (λa w E I=>?_) (hlt:=(by rw[eW,a8,bt];exact nH));rw[abj { au k fr with heard:=k.now,has:=max (au k fr).has jI } abC,← G1 xr { au k fr with heard:=k.now,has:=max (au k fr).has jI } rfl,← G4 xr { au k fr with heard:=k.now,has:=max (au k fr).has jI } rfl rfl,← G3 xr { au k fr with heard:=k.now,has:=max (au k fr).has jI } rfl,set_set]at I;replace I:=a1.fold I B { k with ls:=k.ls.set fr (du (k.ls.getD fr []) fi p.al),ps:=k.ps.set fr { au k fr with heard:=k.now,has:=max (au k fr).has jI } } A3;refine RN 0 E I λa E=>?_;exact⟨max (au k fr).has jI,by split <;> omega,E.ab [0,5],I.sub⟩
   refine RN 0 E I λa E=>?_;exact⟨_,by rw[ag (by omega)],E.ab [0,5],I.sub⟩
  clear E;(try clear I);rintro a w ⟨hh,zg,E,I⟩;refine bR 1 [9,11,12,13,14] [0,1001,2,3,4,6,7,8,10,3005,3009,1011,1012,1013,1014,15,16] E I λa w E I hH hC=>?_;have xt:(k.ps.set fr { au k fr with heard:=k.now,has:=hh })[fr]?=some { au k fr with heard:=k.now,has:=hh }:=getElem?_set_self nH;have Gm:p.dc.toNat=jI:=by omega
  have Gn:p.frame.toNat=kq:=by omega
  have hP:fY k.now (aG k) p (au k fr)=(if 0<p.frame∧((au k fr).frame:Int)≤p.frame then { au k fr with heard:=k.now,has:=hh,frame:=kq,sum:=p.sum } else { au k fr with heard:=k.now,has:=hh }):=by
   rw[fY,Gm,Gn,zg]
  have vl:hh≤1000:=by rw[zg];split <;> omega
  obtain⟨Hb,I⟩:=a1.open I;have fj:=jl Cj (I.ai (b:=B.wb)) xt;rw[eG]at fj;replace hH:=Hd.gE I;refine RH 4 E I hH hC λa E=>?_;refine E.by (s:=107) (λbX E=>?_) (λbX E=>?_)
  ·
   refine RH 8 E I hH hC λa E=>?_;rw[fw]at E;refine RH 2 E I hH hC λa E=>?_;refine bw E (cw E rfl (s:=107)) (ae E (fj 0 (.int .i64 (au k fr).frame) rfl)) rfl λa E=>?_;refine RH 2 E I hH hC λa E=>?_;refine IF 0 E I (λbN a E=>?_) λbN a E=>?_
   ·
    refine bR 0 [5,7,9,10] [0,1,2,4,6,8,3003,3005,3007,1009,1010,11,1012] E I λa w E I hH hC=>?_;refine RH 8 E I hH hC λa E=>?_;rw[fw]at E;refine RH 1 E I hH hC λa E=>?_;rw[Gl]at E;refine RH 3 E I hH hC λa E=>?_;refine ru E rfl I Ty.t313 (by simp[Value.oneCell']) (by rw[jw Cj,bt];show fr*2+2≤_;omega) λa w E I=>?_;rw[show cG (rows fe (k.ps.set fr { au k fr with heard:=k.now,has:=hh })) (fr*2) [Value.int .i64 kq,Value.int .u32 p.sum]=rows fe ((k.ps.set fr { au k fr with heard:=k.now,has:=hh }).set fr { au k fr with heard:=k.now,has:=hh,frame:=kq,sum:=p.sum }) from I3 Cj _ { au k fr with heard:=k.now,has:=hh,frame:=kq,sum:=p.sum } (by rw[bt];exact nH),← G1 xt { au k fr with heard:=k.now,has:=hh,frame:=kq,sum:=p.sum } rfl,← G2 xt { au k fr with heard:=k.now,has:=hh,frame:=kq,sum:=p.sum } rfl,← G3 xt { au k fr with heard:=k.now,has:=hh,frame:=kq,sum:=p.sum } rfl,set_set]at I;replace I:=a1.fold I B { k with ls:=k.ls.set fr (du (k.ls.getD fr []) fi p.al),ps:=k.ps.set fr { au k fr with heard:=k.now,has:=hh,frame:=kq,sum:=p.sum } } Hb;refine RN 0 E I λa E=>?_;exact⟨_,⟨by rw[ag ay,zh,hP,ak (by omega)],(hk.peer (q:={ au k fr with heard:=k.now,has:=hh,frame:=kq,sum:=p.sum }) hJ ⟨vl,by show kq≤1000;omega,fL⟩ (a7 _) rfl).line (sh (hk.mz hJ)).2⟩,E.ab [0],I.sub⟩
   refine RN 0 E I λa E=>?_;exact⟨_,⟨by rw[ag ay,zh,hP,ag (by omega)],(hk.peer (q:={ au k fr with heard:=k.now,has:=hh }) hJ ⟨vl,iE.2.2⟩ (a7 _) rfl).line (sh (hk.mz hJ)).2⟩,E.ab [0],(a1.fold I B { k with ls:=k.ls.set fr (du (k.ls.getD fr []) fi p.al),ps:=k.ps.set fr { au k fr with heard:=k.now,has:=hh } } Hb).sub⟩
  refine RH 13 E I hH hC λa E=>?_;refine RN 1 E I λa E=>?_;exact⟨_,⟨by rw[ag ay,zh,hP,ag (by omega)],(hk.peer (q:={ au k fr with heard:=k.now,has:=hh }) hJ ⟨vl,iE.2.2⟩ (a7 _) rfl).line (sh (hk.mz hJ)).2⟩,E.ab [0],(a1.fold I B { k with ls:=k.ls.set fr (du (k.ls.getD fr []) fi p.al),ps:=k.ps.set fr { au k fr with heard:=k.now,has:=hh } } Hb).sub⟩
 clear E;(try clear I);rintro a w ⟨lp,⟨mX,hkw⟩,E,I⟩;refine CL 2 E I (NP I hkw) λa w E I=>?_;refine RT 2 E I ?_;refine⟨rfl,?_⟩;have hz:lr lp=fZ k p:=by
  by_cases h2:p.kind=2
  ·rw[mX,ak h2,fZ,ak h2,jW];refine held.lr (hh.of rfl (bt ..) λi hi=>?_);by_cases h:i=fr
   ·subst h;rw[show au { k with ps:=k.ps.set i { au k i with heard:=k.now },ev:=k.ev++[(1,i,0)],cl:=true } i={ au k i with heard:=k.now } from by rw[au,bm,getElem?_set_self hi];rfl];exact⟨rfl,rfl,rfl⟩
   ·rw[show au { k with ps:=k.ps.set fr { au k fr with heard:=k.now },ev:=k.ev++[(1,fr,0)],cl:=true } i=au k i from by rw[au,bm,getElem?_set_ne (Ne.symm h),au,bm]];exact⟨rfl,rfl,rfl⟩
  ·rw[mX,ag h2,fZ,ag h2,jW]
 rw[hz]at I;exact I
end
end
section
def bP:Pr:=⟨⟨#[115,117,109]⟩,[⟨1,30,1,0⟩,⟨11,1,0,0⟩,⟨5,2,2,31⟩,⟨3,2,2,1⟩,⟨3,0,0,30⟩,⟨1,29,8,0⟩,⟨7,28,0,29⟩,⟨10,28,9,0⟩,⟨9,1,0,0⟩,⟨1,0,0,0⟩,⟨15,31,0,0⟩,⟨13,31,2,0⟩]⟩
theorem Hc {s:ByteArray}{i b:Nat}(hb:ki s i=b)(h:b<128):Utf8.decode s i=(b,1):=by
 simp only[ki]at hb;simp[Utf8.decode,hb,h]
theorem abG:eg bP.title 0=[(115,1),(117,1),(109,1)]:=by
 have h1:bP.title.size=3:=rfl;have h2:Utf8.decode bP.title 0=(115,1):=Hc (b:=115) rfl (by decide);have h3:Utf8.decode bP.title 1=(117,1):=Hc (b:=117) rfl (by decide);have h4:Utf8.decode bP.title 2=(109,1):=Hc (b:=109) rfl (by decide);have r3:eg bP.title 3=[]:=rR (by omega);have r2:eg bP.title 2=[(109,1)]:=by rw[rQ (by omega),ec,ak (by omega),h4];exact dd _ r3
 have r1:eg bP.title 1=[(117,1),(109,1)]:=by rw[rQ (by omega),ec,ak (by omega),h3];exact dd _ r2
 rw[rQ (by omega),ec,ak (by omega),h2];exact dd _ r1
theorem ri:dm bP:=by
 refine⟨⟨?_,by decide,by decide,?_⟩,?_⟩
 ·rw[pT,abG];decide
 ·intro o ho;simp[bP]at ho;rcases ho with rfl | rfl | rfl | rfl | rfl | rfl | rfl | rfl | rfl | rfl | rfl | rfl <;> simp[rS,ds]
 ·intro o ho;simp[bP]at ho;rcases ho with rfl | rfl | rfl | rfl | rfl | rfl | rfl | rfl | rfl | rfl | rfl | rfl <;> simp[e6,e5,bP]
section
variable {W w:World}{L:List SP}{n c:Nat}{ad:Option Addr}
theorem NY (I:U W w L):Calls prog 25 #[] w λe w'=>∃ ad,e=.returned (.agg (bO bP ad 12).toArray)∧U W w' (aA W bP ad 12::L):=by
 refine EN func25 ntmps25 rfl rfl λa E=>?_;refine AL 1 E I λAy a w E I=>?_;refine RN 13 E I λa E=>?_;refine cp E rfl I underlying43 Ty.t114 rfl rfl rfl rfl (by decide) (by decide) λCn a w E I ho=>?_;clear ho;refine SA 1 E I λa w E I=>?_;refine RT 0 E I ?_;refine⟨some ⟨Cn,0,none⟩,rfl,?_⟩;have h1:U W w (aa Cn 114 ([]++rows dR bP.ops++[])::_):=I.jZ Cn;have h2:=U.iZ (n:=12) (c:=12) (sz:=4) h1 rfl (a7 _) (Nat.zero_le _);have h3:U W w (aA W bP (some ⟨Cn,0,none⟩) 12::_):=h2.Ek;exact h3.sub
set_option maxHeartbeats 2000000 in
end
section
variable {W w:World}{L:List SP}{m cP:Nat}{adP:Option Addr}{p:Pr}
theorem zC {fr:Int}{g:Nat→Int}{aq:Option Addr}{cO:Nat}{P:List (List UInt8)}{zs:List ee}(I:U W w (aA W p aq cO::L))(hm:P.length=m)(a6:dm p)(aH:p.title.size≤1000000000)(hg:dS g)(hP:P.length≤65536∧∀ b∈P,b.length≤1099511627776)(hz:zs.map (·.2.2)=P)(hf:-1099511627776≤fr∧fr≤1099511627776)(hp:∀ w',U W w' L→iM w' adP zs) :
   Calls prog 116 #[.agg (bO p aq cO).toArray,.agg (ints .i32 32 g).toArray,.int .i64 fr,.slice adP m cP] w λe w'=>e=.returned (.agg (ints .i32 32 (foldI p fr g P)).toArray)∧dS (foldI p fr g P)∧U W w' (aA W p aq cO::L):=by
 subst hm;exact XZ I a6 aH hg hP hz hf hp
end
def jn (P O:List UInt8)(k:Nat):List (List UInt8):=(List.range k).map (bJ [P,O])
end
end Go.Proofs.YteoldcfapaiobaaGreat
