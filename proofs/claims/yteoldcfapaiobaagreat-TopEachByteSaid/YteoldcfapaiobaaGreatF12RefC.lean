/- The document's player without its game: how it lies in memory; quintainref21.within, May, New, Head, Front, event, held, Mark, Told. -/
import Derived.Test.YteoldcfapaiobaaGreatF09Core
import Derived.Test.YteoldcfapaiobaaGreatF11Mul
import Derived.Test.YteoldcfapaiobaaGreatF01Row
import Derived.Test.YteoldcfapaiobaaGreatF06Ref
import Derived.Test.YteoldcfapaiobaaGreatF10Rank
import Derived.ProofKit
import Derived.Deep.Slices
import Derived.Deep.Strs
import Derived.Test.YteoldcfapaiobaaGreatF05Vm
import Derived.Test.YteoldcfapaiobaaGreatF08Pkt4
namespace Go.Proofs.YteoldcfapaiobaaGreat
open Tryz
open List (take_zero nil_append drop_eq_nil_of_le cons_append append_nil ext_getElem? set_set range_succ getElem?_set_ne getElem?_set_self replicate_succ' map_singleton getLastD_eq_getLast? map_replicate)
open Go.RowKit
set_option linter.unusedVariables false
set_option linter.unusedSimpArgs false
set_option maxRecDepth 10000
set_option synthInstance.maxSize 4000
set_option synthInstance.maxHeartbeats 400000
section
theorem Cd (z:Value)(h:z.cells=#[z])(n:Nat):(madeCells z.cells (n*1)).toList=List.replicate n z:=by
 apply ext_getElem?;intro i;rw[madeCells,Array.getElem?_toList,Array.getElem?_map,Array.getElem?_range,h,List.getElem?_replicate];by_cases hi:i<n
 ·simp[hi,Nat.mod_one]
 ·simp[hi]
theorem aba (n:Nat):(madeCells (Value.agg #[.int .i64 0,.int .u32 0]).cells (n*2)).toList=rows (λ_:Pe=>[Value.int .i64 0,.int .u32 0]) (List.replicate n (fC 0)):=by
 have hl:∀ m:Nat,(madeCells (Value.agg #[.int .i64 0,.int .u32 0]).cells m).toList=(List.range m).map λi=>if i%2=0 then Value.int .i64 0 else .int .u32 0:=by
  intro m;apply ext_getElem?;intro i;rw[madeCells,Array.getElem?_toList,Array.getElem?_map,Array.getElem?_range,bn];by_cases hi:i<m
  ·rcases Nat.mod_two_eq_zero_or_one i with h | h <;> simp[hi,Value.cells,h]
  ·simp[hi]
 rw[hl]
 induction n with
 | zero=>rfl
 | succ n ih =>
  rw[Nat.succ_mul,replicate_succ',kE,← ih,range_succ,range_succ];simp only[cW,dx]
  congr 1
  have h1:n*2%2=0:=by omega
  have h2:¬ (n*2+1)%2=0:=by omega
  simp[h1,h2,rows]
def bM (lb lo c:Nat)(ls:List (List UInt8)):SP:=λh=>∃ xs:List ec,bk xs=ls∧cn [Sl 65 1 (some ⟨lb,lo,none⟩) ls.length c (xs.map aL),ah a7 xs] h
structure oj where
 cb:Nat
 lb:Nat
 lo:Nat
 cL:Nat
 hb:Nat
 dX:Nat
 wb:Nat
 xb:Nat
structure m1 where
 ck:Option Addr
 cM:Nat
 adE:Option Addr
 cE:Nat
abbrev cX (k:Ks)(B:oj)(A:m1):List Value:=[.int .i64 k.n,.int .i64 k.me,.int .i64 k.id,.int .i64 k.aK,.int .i64 k.br,.int .i64 k.bg,.int .i64 k.order,.int .i64 k.cw,.int .i64 k.workers,.int .i64 k.room,
 .slice (some ⟨B.lb,B.lo,none⟩) k.ls.length B.cL,.int .i64 k.now,.slice (some ⟨B.hb,0,none⟩) k.n k.n,.slice (some ⟨B.dX,0,none⟩) k.n k.n,.slice (some ⟨B.wb,0,none⟩) k.n k.n,.slice (some ⟨B.xb,0,none⟩) k.n k.n,.slice A.ck k.mr.length A.cM,.slice A.adE k.ev.length A.cE,.bool k.cl]
def fc (l:List Pe):List Value:=l.map λp=>Value.int .i64 (p.heard:Int)
def eX (l:List Pe):List Value:=l.map λp=>Value.int .i64 (p.has:Int)
def fe (l:List Pe):List Value:=l.map λp=>Value.bool p.apart
abbrev ff (p:Pe):List Value:=[.int .i64 p.frame,.int .u32 p.sum]
theorem Ce (p:Pe):(ff p).length=2:=rfl
def aZ (B:oj)(k:Ks):SP:=λh=>∃ A:m1,cn [aa B.cb 72 (cX k B A),bM B.lb B.lo B.cL k.ls,aa B.hb 3 (fc k.ps),aa B.dX 3 (eX k.ps),aa B.wb 313 (rows ff k.ps),aa B.xb 4 (fe k.ps),Sl 100 1 A.ck k.mr.length A.cM (c3 k.mr),Sl 102 3 A.adE k.ev.length A.cE (rows bW k.ev)] h
section
variable {W w:World}{L R:List SP}{c m lb lo i:Nat}{ad:Option Addr}{ls:List (List UInt8)}{k:Ks}{A:m1}{B:oj}
theorem bM.open (I:U W w (bM lb lo c ls::L)):∃ xs:List ec,bk xs=ls∧U W w (Sl 65 1 (some ⟨lb,lo,none⟩) ls.length c (xs.map aL)::ah a7 xs::L):=by
 obtain⟨xs,h1,I⟩:=I.jL (ι:=List ec) (p:=λxs=>bk xs=ls) (B:=λxs h=>cn [Sl 65 1 (some ⟨lb,lo,none⟩) ls.length c (xs.map aL),ah a7 xs] h) λ_ ⟨xs,h1,h2⟩=>⟨xs,h1,h2⟩;exact⟨xs,h1,I.open (M:=[_,_]) λ_ h=>h⟩
theorem bM.close {xs:List ec}(I:U W w (Sl 65 1 (some ⟨lb,lo,none⟩) ls.length c (xs.map aL)::ah a7 xs::L))(h:bk xs=ls):U W w (bM lb lo c ls::L) :=
 U.shut (M:=[_,_]) I λ_ h'=>⟨xs,h,h'⟩
theorem U.pg {xs:List ec}{el:TypeId}{m:Nat}(I:U W w (Sl el 1 ad m c (xs.map aL)::ah a7 xs::L)):iK w ad xs:=by
 have hl:=(I.sl ad).1;rw[a8,fU]at hl;refine⟨λh0=>?_,λx hx=>?_⟩
 ·obtain⟨b,off,h1,h2⟩:=I.bU ad (by omega);exact⟨b,off,h1,h2⟩
 ·obtain⟨i,hi,rfl⟩:=yZ hx;have h2:=(I.tail).fy hi;exact U.cv (L:=a7 xs[i]::_) h2 _ _ (k:=(fQ.head:fQ (Sl 5 1 xs[i].1 xs[i].2.2.length xs[i].2.1 (bc xs[i].2.2)::_) xs[i].1 _ _ _ _ _ _)) rfl rfl
theorem aZ.open (I:U W w (aZ B k::L)):∃ A:m1,U W w (aa B.cb 72 (cX k B A)::bM B.lb B.lo B.cL k.ls::aa B.hb 3 (fc k.ps)::aa B.dX 3 (eX k.ps)::aa B.wb 313 (rows ff k.ps)::aa B.xb 4 (fe k.ps)::Sl 100 1 A.ck k.mr.length A.cM (c3 k.mr)::Sl 102 3 A.adE k.ev.length A.cE (rows bW k.ev)::L):=by
 obtain⟨A,_,I⟩:=I.jL (ι:=m1) (p:=λ_=>True) (B:=λA h=>cn [aa B.cb 72 (cX k B A),bM B.lb B.lo B.cL k.ls,aa B.hb 3 (fc k.ps),aa B.dX 3 (eX k.ps),aa B.wb 313 (rows ff k.ps),aa B.xb 4 (fe k.ps),Sl 100 1 A.ck k.mr.length A.cM (c3 k.mr),Sl 102 3 A.adE k.ev.length A.cE (rows bW k.ev)] h) λ_ ⟨A,h⟩=>⟨A,trivial,h⟩;exact⟨A,I.open (M:=[_,_,_,_,_,_,_,_]) λ_ h=>h⟩
theorem aZ.fold (I:U W w L)(B:oj)(k:Ks)(A:m1)[kk:fJ L [aa B.cb 72 (cX k B A),bM B.lb B.lo B.cL k.ls,aa B.hb 3 (fc k.ps),aa B.dX 3 (eX k.ps),aa B.wb 313 (rows ff k.ps),aa B.xb 4 (fe k.ps),Sl 100 1 A.ck k.mr.length A.cM (c3 k.mr),Sl 102 3 A.adE k.ev.length A.cE (rows bW k.ev)] R]:U W w (aZ B k::R) :=
 U.shut (M:=[_,_,_,_,_,_,_,_]) (I.perm kk.perm) λ_ h=>⟨A,h⟩
end
theorem abb {l:List Pe}{i:Nat}{p:Pe}(h:l[i]?=some p):(fc l)[i]?=some (.int .i64 p.heard):=by rw[fc,bn,h];rfl
theorem xu {l:List Pe}{i:Nat}{p:Pe}(h:l[i]?=some p):(eX l)[i]?=some (.int .i64 p.has):=by rw[eX,bn,h];rfl
theorem abc {l:List Pe}{i:Nat}{p:Pe}(h:l[i]?=some p):(fe l)[i]?=some (.bool p.apart):=by rw[fe,bn,h];rfl
theorem zp {α β:Type}(f:α→β){l:List α}{i:Nat}{x:α}{v:β}(h:f x=v):(l.map f).set i v=(l.set i x).map f:=by rw[← h,map_set]
theorem Cg {β:Type}(f:Pe→β){l:List Pe}{i:Nat}{p q:Pe}(h:l[i]?=some p)(hf:f q=f p):(l.set i q).map f=l.map f:=by
 apply ext_getElem?;intro j;rw[bn,bn,jZ];by_cases hj:i=j
 ·subst hj;have hi:=(a2.1 h).1;rw[ak rfl,ak hi,h];simp[hf]
 ·rw[ag hj]
theorem abd (f:Pe→List Value){l:List Pe}{i:Nat}{p q:Pe}(h:l[i]?=some p)(hf:f q=f p):rows f (l.set i q)=rows f l:=by
 rw[rows,rows,List.flatMap_def,List.flatMap_def,Cg f h hf]
theorem GX {l:List Pe}{i:Nat}{p:Pe}(h:l[i]?=some p)(q:Pe)(hf:q.heard=p.heard):fc (l.set i q)=fc l:=Cg _ h (by rw[hf])
theorem GY {l:List Pe}{i:Nat}{p:Pe}(h:l[i]?=some p)(q:Pe)(hf:q.has=p.has):eX (l.set i q)=eX l:=Cg _ h (by rw[hf])
theorem GZ {l:List Pe}{i:Nat}{p:Pe}(h:l[i]?=some p)(q:Pe)(hf:q.apart=p.apart):fe (l.set i q)=fe l:=Cg _ h (by rw[hf])
theorem G0 {l:List Pe}{i:Nat}{p:Pe}(h:l[i]?=some p)(q:Pe)(hf:q.frame=p.frame)(I:q.sum=p.sum):rows ff (l.set i q)=rows ff l:=abd _ h (by rw[ff,ff,hf,I])
theorem abe {l:List Pe}{i:Nat}(q:Pe){v:Int}(h:(q.heard:Int)=v):(fc l).set i (.int .i64 v)=fc (l.set i q):=zp _ (by rw[h])
theorem abf {l:List Pe}{i:Nat}(q:Pe){v:Int}(h:(q.has:Int)=v):(eX l).set i (.int .i64 v)=eX (l.set i q):=zp _ (by rw[h])
section
variable {W w:World}{L:List SP}{n c lb lo i f cl:Nat}{ad:Option Addr}{ls:List (List UInt8)}{k:Ks}{A:m1}{B:oj}{x:UInt8}
theorem sy (I:U W w (aZ B k::L))(hk:WC k):Calls prog 20 #[pt B.cb] w λr w'=>r=.returned (.int .i64 (aG k))∧U W w' (aZ B k::L):=by
 have eB:k.me<k.ls.length:=by rw[hk.ls];exact hk.me
 obtain⟨A,I⟩:=aZ.open I;refine EN func20 ntmps20 rfl rfl λa E=>?_;refine bS 3 [8] [0,1,2,4,5,6,7,3003,1008,9,10,1011,12,13] E I λa w E I hH hC=>?_;obtain⟨xs,ba,I⟩:=bM.open (I.pick (bM B.lb B.lo B.cL k.ls));have ca:xs.length=k.ls.length:=by rw[← ba,fZ]
 obtain⟨m5,ol,y,zq,hy,pd,qj⟩:=(U.pg I).at (i:=k.me) (by omega);cases zq;have jl:aG k=y.2.2.length:=by
  show (k.ls.getD k.me []).length=_;rw[← ba,su hy]
 replace hH:=Hd.gD I;refine RH 11 E I hH hC λa E=>?_;refine SS E (ae E (pd)) λa E=>?_;rw[aL]at E;refine RH 2 E I hH hC λa E=>?_;refine RT 0 E I ?_;refine⟨by rw[jl],?_⟩;exact (aZ.fold (bM.close I ba) B k A).sub
theorem G1 (I:U W w (aZ B k::L))(hk:WC k):Calls prog 19 #[pt B.cb] w λr w'=>r=.returned (.int .i64 (aw k))∧U W w' (aZ B k::L):=by
 have hn:=hk.n;have fb:=hk.ls;obtain⟨A,I⟩:=aZ.open I;refine EN func19 ntmps19 rfl rfl λa E=>?_;refine RN 7 E I λa E=>?_;obtain⟨xs,ba,I⟩:=bM.open (I.pick (bM B.lb B.lo B.cL k.ls));have ca:xs.length=k.ls.length:=by rw[← ba,fZ]
 rw[← ca]at E;refine CL 0 E I (B5 (xs:=xs) I (by omega) (by omega) (λw' hw=>U.pg hw)) λa w E I=>?_;refine RT 1 E I ?_;refine⟨by rw[ba];rfl,?_⟩;exact (aZ.fold (bM.close I ba) B k A).sub
theorem G2 {kd pl fr:Nat}(I:U W w (aZ B k::L))(hl:k.ev.length≤100):Calls prog 112 #[pt B.cb,.int .i64 kd,.int .i64 pl,.int .i64 fr] w λr w'=>r=.returned (.tuple #[])∧U W w' (aZ B { k with ev:=k.ev++[(kd,pl,fr)] }::L):=by
 obtain⟨A,I⟩:=aZ.open I;refine EN func112 ntmps112 rfl rfl λa E=>?_;refine RN 9 E I λa E=>?_;refine cr E rfl I underlying70 Ty.t102 rfl rfl rfl rfl (by decide) (by decide) λix a w E I ho=>?_;clear ho;refine RN 0 E I λa E=>?_;refine cQ E rfl I underlying70 Ty.t102 rfl rfl I.ai rfl (F1 (kd,pl,fr)) (by decide) (by decide) (by omega) λG3 G4 a w E I=>?_;rw[show rows bW k.ev++_=rows bW (k.ev++[(kd,pl,fr)]) from by rw[kE];rfl,show k.ev.length+1=(k.ev++[(kd,pl,fr)]).length from by simp]at I;rw[show k.ev.length+1=(k.ev++[(kd,pl,fr)]).length from by simp]at E;refine ST 2 E I (λa w E I=>?_);refine RT 0 E I ?_;exact⟨rfl,(aZ.fold I B { k with ev:=k.ev++[(kd,pl,fr)] } { A with adE:=G3,cE:=G4 }).sub⟩
theorem abg (I:U W w (aZ B k::L)):Calls prog 51 #[pt B.cb] w λr w'=>∃ ad c,r=.returned (.slice ad k.ev.length c)∧U W w' (Sl 102 3 ad k.ev.length c (rows bW k.ev)::aZ B { k with ev:=[] }::L):=by
 obtain⟨A,I⟩:=aZ.open I;refine EN func51 ntmps51 rfl rfl λa E=>?_;refine ST 12 E I (λa w E I=>?_);refine RT 3 E I ?_;refine⟨A.adE,A.cE,rfl,?_⟩;replace I:=I.bN 102 3 none;have h2:U W w (aa B.cb 72 (cX { k with ev:=[] } B ⟨A.ck,A.cM,none,0⟩)::bM B.lb B.lo B.cL k.ls::aa B.hb 3 (fc k.ps)::aa B.dX 3 (eX k.ps)::aa B.wb 313 (rows ff k.ps)::aa B.xb 4 (fe k.ps)::Sl 100 1 A.ck k.mr.length A.cM (c3 k.mr)::Sl 102 3 none 0 0 []::Sl 102 3 A.adE k.ev.length A.cE (rows bW k.ev)::L):=I.sub (M:=aa B.cb 72 _::bM B.lb B.lo B.cL k.ls::aa B.hb 3 (fc k.ps)::aa B.dX 3 (eX k.ps)::aa B.wb 313 (rows ff k.ps)::aa B.xb 4 (fe k.ps)::Sl 100 1 A.ck k.mr.length A.cM (c3 k.mr)::Sl 102 3 none 0 0 []::Sl 102 3 A.adE k.ev.length A.cE (rows bW k.ev)::L);refine U.perm (L:=aZ B { k with ev:=[] }::Sl 102 3 A.adE k.ev.length A.cE (rows bW k.ev)::L) ?_ (cZ _ _ _);exact U.shut (M:=[_,_,_,_,_,_,_,_]) h2 λ_ h=>⟨⟨A.ck,A.cM,none,0⟩,h⟩
theorem NJ (I:U W w (aZ B k::L))(hk:WC k):Calls prog 153 #[pt B.cb] w λr w'=>r=.returned (.tuple #[])∧U W w' (aZ B (lr k)::L):=by
 have eF:k.ps.length=k.n:=hk.ps;have hn:=hk.n;refine EN func153 ntmps153 rfl rfl λa E=>?_;refine RN 2 E I λa E=>?_;refine aQ (λμ a w=>∃ (i:Nat),(μ=k.n-i∧i≤k.n)∧Fr a 68 [(0,pt B.cb),(2,.int .i64 i)]∧U W w (aZ B (gv k i)::L)) (k.n) (⟨0,⟨rfl,by omega⟩,E.ab [0,2],I⟩) ?_;clear E I;rintro μ a w ⟨i,⟨rfl,hi⟩,E,I⟩;have j5:=hk.gv (i:=i) hi;have dH:=BF k i;have pf:(gv k i).n=k.n:=by obtain⟨ps,ev,h1,_⟩:=y5 k i;rw[h1]
 have eP:gv k (i+1)=lq (gv k i) i:=rfl;rw[lq]at eP;generalize nS:gv k i=kk at I j5 dH eP pf;obtain⟨A,I⟩:=aZ.open I;refine IF 9 E I (λaj a E=>?_) λaj a E=>?_
 ·
  have aF:i<kk.ps.length:=by omega
  have iC:=j5.qa (i:=i) (by omega);have e9:=vf aF;have fk:=jk Ce (I.ai (b:=B.wb)) e9;rw[eE]at fk;refine RN 8 E I λa E=>?_;refine SS E (bT E underlying313 rfl Ty.t313 (fk)) λa E=>?_;refine AL 0 E I λb3 a w E I=>?_;refine SA 0 E I λa w E I=>?_;refine bS 1 [19,20,29,30,34] [0,1,2,4,1003,5,1006,7,8,9,1010,11,12,13,14,16,17,18,3015,1019,1020,21,22,23,24,25,26,28,33,3027,3029,3030,31,3032,1034,35,36] E I λa w E I hH hC=>?_;have jT:Rd w B.cb 0 (cX kk B A):=I.ai (b:=B.cb);have xv:Rd w b3 0 (ff (au kk i)):=I.ai (b:=b3);have ni:=I.bz (b:=B.xb) (abc e9);refine RH 4 E I hH hC λa E=>?_;refine SS E (ae E (jT 15 _ rfl)) λa E=>?_;refine RH 1 E I hH hC λa E=>?_;refine SS E (ae E (ni)) λa E=>?_;refine RH 2 E I hH hC λa E=>?_;refine E.by (s:=28) (λfj E=>?_) (λfj E=>?_)
  ·
   refine RH 1 E I hH hC λa E=>?_;refine bm E (bQ E rfl (s:=28)) (ae E (xv 0 _ rfl)) rfl λa E=>?_;refine RH 3 E I hH hC λa E=>?_;refine E.by (s:=33) (λnB E=>?_) (λnB E=>?_)
   ·
    refine RH 4 E I hH hC λa E=>?_;refine QH E (λw hc=>ae E (hc.cell (xv 0 _ rfl))) hC λa E=>?_;refine RH 0 E I hH hC λa E=>?_;refine bm E (bQ E rfl (s:=33)) (ae E (jT 16 _ rfl)) rfl λa E=>?_;refine RH 4 E I hH hC λa E=>?_;refine E.by (s:=43) (λmQ E=>?_) (λmQ E=>?_)
    ·
     have mE:(au kk i).frame-1<kk.mr.length:=by omega
     obtain⟨F5,F6,eB,lY⟩:=(I.pick (Sl 100 1 A.ck kk.mr.length A.cM (c3 kk.mr))).bU A.ck (by omega);have y8:=jT 16 _ rfl;rw[eB]at y8;refine RH 5 E I hH hC λa E=>?_;refine QH E (λw hc=>ae E (hc.cell (y8))) hC λa E=>?_;refine QH E (λw hc=>ae E (hc.cell (xv 0 _ rfl))) hC λa E=>?_;refine RH 1 E I hH hC λa E=>?_;rw[show (((au kk i).frame:Nat):Int)-1=(((au kk i).frame-1:Nat):Int) from by omega]at E;refine RH 1 E I hH hC λa E=>?_;refine QH E (λw hc=>ae E (hc.cell (lY ((au kk i).frame-1) _ (BL mE)))) hC λa E=>?_;refine RH 0 E I hH hC λa E=>?_;refine bm E (bQ E rfl (s:=43)) (ae E (xv 1 _ rfl)) rfl λa E=>?_;refine RH 2 E I hH hC λa E=>?_;refine IF 0 E I (λao a E=>?_) λao a E=>?_
     ·
      refine RN 1 E I λa E=>?_;rw[ak ⟨fj,by omega,by omega,by omega⟩]at eP;refine ST 6 E I (λa w E I=>?_) (hlt:=(by rw[fe,a8];exact aF));rw[show (fe kk.ps).set i (.bool true)=fe (kk.ps.set i { au kk i with apart:=true }) from zp _ rfl,← GX e9 { au kk i with apart:=true } rfl,← GY e9 { au kk i with apart:=true } rfl,← G0 e9 { au kk i with apart:=true } rfl rfl]at I;replace I:=aZ.fold I B { kk with ps:=kk.ps.set i { au kk i with apart:=true } } A;refine CL 4 E I (G2 (kd:=3) (pl:=i) (fr:=(au kk i).frame) I (by have:=j5.kT;show kk.ev.length≤100;omega)) λa w E I=>?_;refine RN 3 E I λa E=>?_;exact⟨k.n-(i+1),by omega,i+1,⟨rfl,by omega⟩,E.ab [0,2],by rw[eP];exact I.sub⟩
     refine RN 3 E I λa E=>?_;rw[ag (λh=>by have:=h.2.2.2;omega)]at eP;exact⟨k.n-(i+1),by omega,i+1,⟨rfl,by omega⟩,E.ab [0,2],by rw[eP];exact (aZ.fold I B kk A).sub⟩
    refine RH 13 E I hH hC λa E=>?_;refine RN 4 E I λa E=>?_;rw[ag (λh=>by have:=h.2.2.1;omega)]at eP;exact⟨k.n-(i+1),by omega,i+1,⟨rfl,by omega⟩,E.ab [0,2],by rw[eP];exact (aZ.fold I B kk A).sub⟩
   refine RH 23 E I hH hC λa E=>?_;refine RN 4 E I λa E=>?_;rw[ag (λh=>by have:=h.2.1;omega)]at eP;exact⟨k.n-(i+1),by omega,i+1,⟨rfl,by omega⟩,E.ab [0,2],by rw[eP];exact (aZ.fold I B kk A).sub⟩
  refine RH 28 E I hH hC λa E=>?_;refine RN 4 E I λa E=>?_;rw[ag (λh=>by have:=h.1;rw[fj]at this;cases this)]at eP;exact⟨k.n-(i+1),by omega,i+1,⟨rfl,by omega⟩,E.ab [0,2],by rw[eP];exact (aZ.fold I B kk A).sub⟩
 refine RT 0 E I ?_;obtain rfl:i=k.n:=by omega
 refine⟨rfl,?_⟩;rw[lr,eF,nS];exact (aZ.fold I B kk A).sub
theorem abh {s:Nat}(I:U W w (aZ B k::L))(hk:WC k)(hl:k.mr.length<1000)(yw:s<4294967296):Calls prog 105 #[pt B.cb,.int .u32 s] w λr w'=>r=.returned (.tuple #[])∧U W w' (aZ B (lU k s)::L):=by
 have y9 : WC { k with mr := k.mr ++ [s] } := { hk with
     mr:=by show (k.mr++[s]).length≤1000;rw[aI,jD];omega
     sf:=λx hx=>by
      rcases eS.1 hx with hx | hx
      ·exact hk.sf x hx
      ·rw[iH]at hx;rw[hx];exact yw }
 obtain⟨A,I⟩:=aZ.open I;refine EN func105 ntmps105 rfl rfl λa E=>?_;refine RN 8 E I λa E=>?_;rw[dh (by omega)]at E;refine RN 7 E I λa E=>?_;refine cr E rfl I underlying69 Ty.t100 rfl rfl rfl rfl (by decide) (by decide) λqW a w E I ho=>?_;clear ho;refine RN 0 E I λa E=>?_;refine cQ E rfl I underlying69 Ty.t100 rfl rfl I.ai rfl (by simp[Value.oneCell']) (by decide) (by decide) (by omega) λabi c17 a w E I=>?_;rw[show c3 k.mr++_=c3 (k.mr++[s]) from by rw[c3,c3,cW];rfl,show k.mr.length+1=(k.mr++[s]).length from by simp]at I;rw[show k.mr.length+1=(k.mr++[s]).length from by simp]at E;refine ST 2 E I (λa w E I=>?_);refine RN 0 E I λa E=>?_;replace I:=aZ.fold I B { k with mr:=k.mr++[s] } { A with ck:=abi,cM:=c17 };refine CL 1 E I (NJ I y9) λa w E I=>?_;refine RT 0 E I ?_;exact⟨rfl,by rw[lU,ak hl];exact I.sub⟩
theorem abj (I:U W w (aZ B k::L))(hk:WC k):Calls prog 111 #[pt B.cb,.int .u8 (x.toNat:Nat)] w λr w'=>r=.returned (.int .i64 (c1 x k).1)∧U W w' (aZ B (c1 x k).2::L):=by
 have eB:k.me<k.ls.length:=by rw[hk.ls];exact hk.me
 have gW:=hk.lV;have fw:=hk.nF;obtain⟨A0,I⟩:=aZ.open I;refine EN func111 ntmps111 rfl rfl λa E=>?_;refine IF 9 E I (λaj a E=>?_) λaj a E=>?_
 ·
  replace I:=aZ.fold I B k A0;refine RT 2 E I ?_;exact⟨by rw[c1,ak aj],by rw[c1,ak aj];exact I⟩
 have cp:¬ k.cl=true:=by rw[aj];decide
 replace I:=aZ.fold I B k A0;refine CL 2 E I (sy I hk) λa w E I=>?_;refine IF 2 E I (λao a E=>?_) λao a E=>?_
 ·
  refine RT 2 E I ?_;exact⟨by rw[c1,ag cp,ak (by omega)],by rw[c1,ag cp,ak (by omega)];exact I⟩
 refine aX 1 (λw0 w'=>w'.cell? ⟨B.cb,4,none⟩=some (.int .i64 k.br)) [1,3,4] [0,2,5,6,7,8,3009,1001,1003,1004,10,11] E I λa w E I hH=>?_;have hC:w.cell? ⟨B.cb,4,none⟩=some (.int .i64 k.br):=by
  obtain⟨A1,I⟩:=aZ.open I;exact I.bz (b:=B.cb) rfl
 refine RH 6 E I hH hC λa E=>?_;refine QH E (λw hc=>ae E (hc)) hC λa E=>?_;refine RH 0 E I hH hC λa E=>?_;refine CL 0 E I (sy I hk) λa w E I=>?_;replace hC:=hH.at w (by obtain⟨A1,I⟩:=aZ.open I;exact I.bz (b:=B.cb) rfl);refine RH 0 E I hH hC λa E=>?_;refine CL 0 E I (G1 I hk) λa w E I=>?_;replace hC:=hH.at w (by obtain⟨A1,I⟩:=aZ.open I;exact I.bz (b:=B.cb) rfl);refine RH 3 E I hH hC λa E=>?_;refine IF 0 E I (λay a E=>?_) λay a E=>?_
 ·
  refine RT 2 E I ?_;exact⟨by rw[c1,ag cp,ag (by omega),ak (by omega)],by rw[c1,ag cp,ag (by omega),ak (by omega)];exact I⟩
 refine RN 1 E I λa E=>?_;obtain⟨A,I⟩:=aZ.open I;have vg:c1 x k=(0,{ k with ls:=k.ls.set k.me (k.ls.getD k.me []++[x]) }):=by rw[c1,ag cp,ag (by omega),ag (by omega)]
 rw[vg];obtain⟨xs,ba,I⟩:=bM.open (I.pick (bM B.lb B.lo B.cL k.ls));have ca:xs.length=k.ls.length:=by rw[← ba,fZ]
 obtain⟨y,hy⟩:∃ y,xs[k.me]?=some y:=⟨_,aD (by omega)⟩;obtain⟨tY,tV⟩:=a2.1 hy;have jl:k.ls.getD k.me []=y.2.2:=by rw[← ba,su hy]
 refine bS 0 [8] [0,1,2,4,5,6,7,3003,1008,9,10] E I λa w E I hH hC=>?_;refine RH 11 E I hH hC λa E=>?_;refine RN 5 E I λa E=>?_;refine SS E (ae E ((I.cK B.lb B.lo (by omega)) k.me (aL y) (by rw[bn,hy];rfl))) λa E=>?_;rw[aL]at E;replace I:=(I.pick (ah a7 xs)).fy tY;rw[tV]at I;have gF:U W w (Sl 5 1 y.1 y.2.2.length y.2.1 (bc y.2.2)::_):=I;clear I;have I:=gF;clear gF;have NK:y.2.2.length≤1000:=by rw[← jl];exact gW
 refine RN 1 E I λa E=>?_;refine cr E rfl I underlying22 Ty.t5 rfl rfl rfl rfl (by decide) (by decide) λb43 a w E I ho=>?_;clear ho;refine RN 0 E I λa E=>?_;refine cQ E rfl I underlying22 Ty.t5 rfl rfl I.ai rfl (ep [x]) (by decide) (by decide) (by omega) λnK ly a w E I=>?_;rw[show bc y.2.2++_=bc (y.2.2++[x]) from (fM _ [_]).symm,show y.2.2.length+1=(y.2.2++[x]).length from by simp]at I;rw[show y.2.2.length+1=(y.2.2++[x]).length from by simp]at E;refine RN 2 E I λa E=>?_;refine mB (off:=B.lo) (k:=k.me) E rfl I Ty.t22 rfl (by omega) (by rw[a8];exact tY) λa w E I=>?_;rw[show (xs.map aL).set k.me (.slice nK (y.2.2++[x]).length ly)=(xs.set k.me (nK,ly,y.2.2++[x])).map aL from zp _ rfl]at I;have h2:=I.arr (M:=[Sl 5 1 nK (y.2.2++[x]).length ly (bc (y.2.2++[x])),ah a7 (xs.eraseIdx k.me)]);simp only[cons_append,nil_append]at h2;have h3:=U.kZ (f:=a7) (x:=(nK,ly,y.2.2++[x])) tY h2;have fb:(k.ls.set k.me (k.ls.getD k.me []++[x])).length=k.ls.length:=bw;have a6:bk (xs.set k.me (nK,ly,y.2.2++[x]))=k.ls.set k.me (k.ls.getD k.me []++[x]):=by rw[bk,map_set,← bk,ba,jl]
 have h4:=h3.arr (M:=[Sl 65 1 (some ⟨B.lb,B.lo,none⟩) k.ls.length B.cL ((xs.set k.me (nK,ly,y.2.2++[x])).map aL),ah a7 (xs.set k.me (nK,ly,y.2.2++[x]))]);simp only[cons_append,nil_append]at h4;rw[show k.ls.length=(k.ls.set k.me (k.ls.getD k.me []++[x])).length from fb.symm]at h4;have h5:=bM.close (xs:=xs.set k.me (nK,ly,y.2.2++[x])) h4 a6;clear I;have I:=h5;rw[show cX k B A=cX { k with ls:=k.ls.set k.me (k.ls.getD k.me []++[x]) } B A from by simp only[cX,bw]]at I;refine RT 2 E I ?_;exact⟨rfl,(aZ.fold I B { k with ls:=k.ls.set k.me (k.ls.getD k.me []++[x]) } A).sub⟩
end
section
variable {W w:World}{L R:List SP}{n c m lb lo i f cl:Nat}{ad:Option Addr}{ls:List (List UInt8)}{k:Ks}{A:m1}{B:oj}{x:UInt8}{bs:List UInt8}
theorem bM.out {ls:List (List UInt8)}(I:U W w (bM lb lo c ls::L))(hi:i<ls.length):∃ (xs:List ec) (y:ec),bk xs=ls∧xs[i]?=some y∧y.2.2=ls.getD i [] ∧
   U W w (Sl 5 1 y.1 y.2.2.length y.2.1 (bc y.2.2)::Sl 65 1 (some ⟨lb,lo,none⟩) ls.length c (xs.map aL)::ah a7 (xs.eraseIdx i)::L):=by
 obtain⟨xs,ba,I⟩:=bM.open I;have ca:xs.length=ls.length:=by rw[← ba,fZ]
 have hy:xs[i]?=some xs[i]:=aD (by omega);refine⟨xs,xs[i],ba,hy,by have:=su hy;rw[ba]at this;exact this.symm,?_⟩;have h1:=(I.pick (ah a7 xs)).fy (i:=i) (by omega);exact U.sub (M:=a7 xs[i]::Sl 65 1 (some ⟨lb,lo,none⟩) ls.length c (xs.map aL)::ah a7 (xs.eraseIdx i)::L) h1
theorem bM.put {xs:List ec}{q:List UInt8}(I:U W w L)(ba:bk xs=ls)(hi:i<ls.length)[kk:fJ L [Sl 5 1 ad q.length cl (bc q),Sl 65 1 (some ⟨lb,lo,none⟩) ls.length c ((xs.map aL).set i (.slice ad q.length cl)),ah a7 (xs.eraseIdx i)] R]:U W w (bM lb lo c (ls.set i q)::R):=by
 have ca:xs.length=ls.length:=by rw[← ba,fZ]
 have h1:U W w (a7 (ad,cl,q)::Sl 65 1 (some ⟨lb,lo,none⟩) ls.length c ((xs.map aL).set i (.slice ad q.length cl))::ah a7 (xs.eraseIdx i)::R):=I.perm kk.perm;rw[show (xs.map aL).set i (.slice ad q.length cl)=(xs.set i (ad,cl,q)).map aL from zp _ rfl]at h1;have h2:=U.kZ (f:=a7) (x:=(ad,cl,q)) (l:=xs) (i:=i) (by omega) (h1.sub (M:=a7 (ad,cl,q)::ah a7 (xs.eraseIdx i)::Sl 65 1 (some ⟨lb,lo,none⟩) ls.length c ((xs.set i (ad,cl,q)).map aL)::R));refine bM.close (xs:=xs.set i (ad,cl,q)) ?_ (by rw[bk,map_set,← bk,ba]);rw[bw];exact h2.perm (cZ _ _ _)
theorem bM.hd (I:U W w (bM lb lo c ls::L))(hi:i<ls.length):∃ ad c',w.cell? ⟨lb,lo+i,none⟩=some (.slice ad (ls.getD i []).length c'):=by
 obtain⟨xs,y,h1,h2,h3,h4⟩:=bM.out I hi;rw[← h3];exact⟨_,_,(h4.tail.cK lb lo (by omega)) i (aL y) (by rw[bn,h2];rfl)⟩
theorem abk {f:Nat}(I:U W w (bM lb lo c ls::L))(hi:i<ls.length)(hl:(ls.getD i []).length≤1000)(hb:bs.length≤65536)(hp:∀ w',U W w' L→aW w' ad bs.length bs) :
   Calls prog 190 #[.pointer (some ⟨lb,lo+i,none⟩),.int .i64 f,.slice ad bs.length cl] w λr w'=>∃ n er:Int,r=.returned (.tuple #[.int .i64 n,.int .i64 er])∧U W w' (bM lb lo c (ls.set i (du (ls.getD i []) f bs))::L):=by
 obtain⟨l0,q9⟩:∃ l0,l0=ls.getD i []:=⟨_,rfl⟩;rw[← q9];rw[← q9]at hl;have NL:ls.set i l0=ls:=by rw[q9];exact LQ
 refine EN func190 ntmps190 rfl rfl λa E=>?_;refine RN 7 E I λa E=>?_;rw[bo (by omega)]at E;refine RN 3 E I λa E=>?_;obtain⟨fY,gk,NM⟩:=bM.hd I hi;rw[← q9]at NM;refine RN 4 E I λa E=>?_;refine SS E (ae E (NM)) λa E=>?_;refine IF 2 E I (λao a E=>?_) λao a E=>?_
 ·
  refine RT 3 E I ?_;exact⟨_,_,rfl,by rw[du,ak (by omega),NL];exact I⟩
 refine RN 5 E I λa E=>?_;have ed:f≤l0.length:=by omega
 refine aQ (λμ a w=>∃ (j:Nat) (q:List UInt8),(μ=bs.length-j∧j≤bs.length∧q=l0++(bs.drop (l0.length-f)).take (j-(l0.length-f))∧q.length=l0.length+(j-(l0.length-f))∧q.length≤1000)∧Fr a 57 [(0,.pointer (some ⟨lb,lo+i,none⟩)),(1,.int .i64 f),(2,.slice ad bs.length cl),(8,.int .i64 (j-(l0.length-f):Nat)),(9,.int .i64 j)]∧U W w (bM lb lo c (ls.set i q)::L)) (bs.length) (⟨0,l0,⟨rfl,by omega,by rw[Nat.zero_sub,take_zero,append_nil],by omega,hl⟩,by rw[Nat.zero_sub];exact E.ab [0,1,2,8,9],by rw[NL];exact I⟩) ?_;clear E I;rintro μ a w ⟨j,q,⟨rfl,hj,hq,Uu,mg⟩,E,I⟩;refine IF 6 E I (λay a E=>?_) λay a E=>?_
 ·
  have dL:i<(ls.set i q).length:=by rw[bw];exact hi
  have qT:(ls.set i q).getD i []=q:=by rw[bl,getElem?_set_self hi];rfl
  obtain⟨adq,cq,pd⟩:=bM.hd I dL;rw[qT]at pd;have NN:j<bs.length:=by omega
  have tp:=(hp _ I.tail).get (by omega);refine RN 7 E I λa E=>?_;refine SS E (ae E (pd)) λa E=>?_;refine IF 4 E I (λbd a E=>?_) λbd a E=>?_
  ·
   refine RN 3 E I λa E=>?_;exact⟨bs.length-(j+1),by omega,j+1,q,⟨rfl,by omega,by rw[hq,show j-(l0.length-f)=0 from by omega,show j+1-(l0.length-f)=0 from by omega],by omega,mg⟩,by rw[show j+1-(l0.length-f)=j-(l0.length-f) from by omega];exact E.ab [0,1,2,8,9],I⟩
  refine RN 5 E I λa E=>?_;refine SS E (ae E (pd)) λa E=>?_;refine IF 2 E I (λbF a E=>?_) λbF a E=>?_
  ·
   refine RT 4 E I ?_;exact⟨_,_,rfl,by rw[du,ag (by omega),show 1000-l0.length=j-(l0.length-f) from by omega,← hq];exact I⟩
  refine bS 1 [8,9] [0,1,2,3,5,6,7,3004,1008,1009,1010,11,12,1013] E I λa w E I hH hC=>?_;obtain⟨bb,oo,rfl,_⟩:=tp;obtain⟨xs,y,ba,hy,tZ,I⟩:=bM.out I dL;rw[qT]at tZ;rw[tZ]at I;have oe:=(I.tail.cK lb lo (by omega)) i (aL y) (by rw[bn,hy];rfl);rw[aL,tZ]at oe;have Bl:=(hp _ I.tail.tail.tail).rd (by omega);have zr:i<xs.length:=(a2.1 hy).1;replace hH:=Hd.gD I;refine RH 7 E I hH hC λa E=>?_;refine QH E (λw hc=>ae E (hc.cell (oe))) hC λa E=>?_;refine RH 0 E I hH hC λa E=>?_;refine SS E (ae E (Bl j _ (dT NN))) λa E=>?_;refine RH 0 E I hH hC λa E=>?_;refine cr E rfl I underlying22 Ty.t5 rfl rfl rfl rfl (by decide) (by decide) λb50 a w E I ho=>?_;replace hC:=hC.trans ho;clear ho;refine RH 0 E I hH hC λa E=>?_;refine cQ E rfl I underlying22 Ty.t5 rfl rfl I.ai rfl (ep [bs[j]]) (by decide) (by decide) (by omega) λLl Lm a w E I=>?_;rw[show bc q++_=bc (q++[bs[j]]) from (fM _ [_]).symm,show q.length+1=(q++[bs[j]]).length from by simp]at I;rw[show q.length+1=(q++[bs[j]]).length from by simp]at E;refine RN 2 E I λa E=>?_;refine mB (off:=lo) (k:=i) E rfl I Ty.t22 rfl (by omega) (by rw[a8];exact zr) λa w E I=>?_;refine RN 6 E I λa E=>?_;have h9:=bM.put (q:=q++[bs[j]]) (ad:=Ll) (cl:=Lm) (lb:=lb) (lo:=lo) (c:=c) I ba dL;rw[set_set]at h9;exact⟨bs.length-(j+1),by omega,j+1,q++[bs[j]],⟨rfl,by omega,by rw[LC ed NN (by omega) (by omega),← hq],by rw[aI,jD];omega,by rw[aI,jD];omega⟩,by rw[show ((j+1-(l0.length-f):Nat):Int)=((j-(l0.length-f):Nat):Int)+1 from by omega];exact E.ab [0,1,2,8,9],h9.sub⟩
 refine RT 4 E I ?_;obtain rfl:j=bs.length:=by omega
 refine⟨_,_,rfl,?_⟩;rw[du,ag (by omega),gg (by rw[c5];omega)];rw[hq,gg (by rw[c5];omega)]at I;exact I
abbrev zt (n me:Nat)(id:Int)(aK br:Nat)(bg order cw workers room:Int)(b8 iL eL ix:Nat)(ad:Option Addr)(i c:Nat):List Value:=[.int .i64 n,.int .i64 me,.int .i64 id,.int .i64 aK,.int .i64 br,.int .i64 bg,.int .i64 order,.int .i64 cw,.int .i64 workers,.int .i64 room,.slice ad i c,.int .i64 0,.slice (some ⟨b8,0,none⟩) n n,.slice (some ⟨iL,0,none⟩) n n,.slice (some ⟨eL,0,none⟩) n n,.slice (some ⟨ix,0,none⟩) n n,.slice none 0 0,.slice none 0 0,.bool false]
theorem abl (n d:Nat):fc (List.replicate n (fC d))=ints .i64 n (λ_=>0):=by rw[fc,map_replicate];exact q3 _ _ _
theorem abm (n d:Nat):eX (List.replicate n (fC d))=ints .i64 n (λ_=>d):=by rw[eX,map_replicate];exact q3 _ _ _
theorem abn (n d:Nat):fe (List.replicate n (fC d))=List.replicate n (.bool false):=by rw[fe,map_replicate];rfl
theorem abo (n d:Nat):rows ff (List.replicate n (fC d))=rows (λ_:Pe=>[Value.int .i64 0,.int .u32 0]) (List.replicate n (fC 0)):=by
 induction n with
 | zero=>rfl
 | succ n ih=>rw[List.replicate_succ,List.replicate_succ,oC,oC,ih];rfl
theorem abp (d:Nat):List.replicate d (Value.int .u8 0)=bc (List.replicate d 0):=by rw[bc,map_replicate];rfl
set_option maxHeartbeats 4000000 in
theorem abq {n me aK br:Nat}{id bg order cw workers room:Int}(I:U W w L)(h:eW ⟨n,me,id,aK,br,bg,order,cw,workers,room⟩) :
   Calls prog 65 #[.agg (bV ⟨n,me,id,aK,br,bg,order,cw,workers,room⟩).toArray] w λr w'=>∃ B:oj,r=.returned (pt B.cb)∧U W w' (aZ B (fm ⟨n,me,id,aK,br,bg,order,cw,workers,room⟩)::L):=by
 obtain⟨⟨h1,h2,h3⟩,⟨h4,h5,h6,h7⟩,h8,h9,fh,lN⟩:=h;simp only[fB] at *;refine EN func65 ntmps65 rfl rfl λa E=>?_;refine BX 1 E I λb1 a w E I=>?_;change U W w (aa b1 28 [.int .i64 n,.int .i64 me,.int .i64 id,.int .i64 aK,.int .i64 br,.int .i64 bg,.int .i64 order,.int .i64 cw,.int .i64 workers,.int .i64 room]::_) at I;refine RN 1 E I λa E=>?_;refine cd (M:=λa w=>∃ b8 iL eL ix nh:Nat,Fr a 48 [(1,pt b1),(3,pt nh)]∧U W w (aa nh 72 [.int .i64 n,.int .i64 me,.int .i64 id,.int .i64 aK,.int .i64 br,.int .i64 bg,.int .i64 order,.int .i64 cw,.int .i64 workers,.int .i64 room,.slice none 0 0,.int .i64 0,.slice (some ⟨b8,0,none⟩) n n,.slice (some ⟨iL,0,none⟩) n n,.slice (some ⟨eL,0,none⟩) n n,.slice (some ⟨ix,0,none⟩) n n,.slice none 0 0,.slice none 0 0,.bool false]::aa b8 3 (List.replicate n (.int .i64 0))::aa iL 3 (List.replicate n (.int .i64 0))::aa eL 313 (rows (λ_:Pe=>[Value.int .i64 0,.int .u32 0]) (List.replicate n (fC 0)))::aa ix 4 (List.replicate n (.bool false))::aa b1 28 [.int .i64 n,.int .i64 me,.int .i64 id,.int .i64 aK,.int .i64 br,.int .i64 bg,.int .i64 order,.int .i64 cw,.int .i64 workers,.int .i64 room]::L)) ?_ ?_
 ·
  refine bS 0 [2,3,5,6,8,9,11,12] [1,4,7,10,3000,3002,3005,3008,3011,2003,2006,2009,1012,13,1014,15] E I λa w E I hH hC=>?_;refine RH 9 E I hH hC λa E=>?_;refine DN [(3,[2006,2009,1012,13,1014,15]),(6,[2003,2009,1012,13,1014,15]),(9,[2003,2006,1012,13,1014,15]),(12,[2003,2006,1009,13,1014,15])] (by kernel_rfl) rfl ⟨⟨_,rfl,?_⟩,⟨_,rfl,?_⟩,⟨_,rfl,?_⟩,⟨_,rfl,?_⟩,trivial⟩
  all_goals repeat' first
   | (refine RH 0 E I hH hC λa E=>?_;(first | refine rz E rfl I underlying53 Ty.t3 rfl (by omega) (by omega) λb8 a w (E:Fr a 48 ((8,_)::_)) I ho=>?_ | refine rz E rfl I underlying53 Ty.t3 rfl (by omega) (by omega) λiL a w (E:Fr a 48 ((11,_)::_)) I ho=>?_ | refine rz E rfl I underlying67 Ty.t313 rfl (by omega) (by omega) λeL a w E I ho=>?_ | refine rz E rfl I underlying68 Ty.t4 rfl (by omega) (by omega) λix a w E I ho=>?_);replace hC:=hC.trans ho;clear ho;(first | rw[Cd _ rfl]at I | rw[aba]at I))
   | (refine RH 1 E I hH hC λa E=>?_;refine xQ E rfl I rfl λnh a w E I ho=>?_;replace hC:=hC.trans ho;clear ho;refine RH 1 E I hH hC λa E=>?_;exact⟨b8,iL,eL,ix,nh,E.ab [1,3],I.sub⟩)
   | (refine RH 0 E I hH hC λa E=>?_;(first | (have q:=(iL,eL);clear q;refine DN [(3,[1012,13,1014,15]),(12,[1003,13,1014,15])] (by kernel_rfl) rfl ⟨⟨_,rfl,?_⟩,⟨_,rfl,?_⟩,trivial⟩) | (have q:=(iL,ix);clear q;refine DN [(3,[1009,13,1014,15]),(9,[1003,13,1014,15])] (by kernel_rfl) rfl ⟨⟨_,rfl,?_⟩,⟨_,rfl,?_⟩,trivial⟩) | (have q:=(eL,ix);clear q;refine DN [(3,[1006,13,1014,15]),(6,[1003,13,1014,15])] (by kernel_rfl) rfl ⟨⟨_,rfl,?_⟩,⟨_,rfl,?_⟩,trivial⟩) | (have q:=(b8,iL);clear q;refine DN [(9,[1012,13,1014,15]),(12,[1009,13,1014,15])] (by kernel_rfl) rfl ⟨⟨_,rfl,?_⟩,⟨_,rfl,?_⟩,trivial⟩) | (have q:=(b8,eL);clear q;refine DN [(6,[1012,13,1014,15]),(12,[1006,13,1014,15])] (by kernel_rfl) rfl ⟨⟨_,rfl,?_⟩,⟨_,rfl,?_⟩,trivial⟩) | (have q:=(b8,ix);clear q;refine DN [(6,[1009,13,1014,15]),(9,[1006,13,1014,15])] (by kernel_rfl) rfl ⟨⟨_,rfl,?_⟩,⟨_,rfl,?_⟩,trivial⟩) | (have q:=iL;clear q;refine DN [(3,[2009,1012,13,1014,15]),(9,[2003,1012,13,1014,15]),(12,[2003,1009,13,1014,15])] (by kernel_rfl) rfl ⟨⟨_,rfl,?_⟩,⟨_,rfl,?_⟩,⟨_,rfl,?_⟩,trivial⟩) | (have q:=eL;clear q;refine DN [(3,[2006,1012,13,1014,15]),(6,[2003,1012,13,1014,15]),(12,[2003,1006,13,1014,15])] (by kernel_rfl) rfl ⟨⟨_,rfl,?_⟩,⟨_,rfl,?_⟩,⟨_,rfl,?_⟩,trivial⟩) | (have q:=ix;clear q;refine DN [(3,[2006,1009,13,1014,15]),(6,[2003,1009,13,1014,15]),(9,[2003,1006,13,1014,15])] (by kernel_rfl) rfl ⟨⟨_,rfl,?_⟩,⟨_,rfl,?_⟩,⟨_,rfl,?_⟩,trivial⟩) | (have q:=b8;clear q;refine DN [(6,[2009,1012,13,1014,15]),(9,[2006,1012,13,1014,15]),(12,[2006,1009,13,1014,15])] (by kernel_rfl) rfl ⟨⟨_,rfl,?_⟩,⟨_,rfl,?_⟩,⟨_,rfl,?_⟩,trivial⟩)))
 clear E;(try clear I);rintro a w ⟨b8,iL,eL,ix,nh,E,I⟩;refine RN 3 E I λa E=>?_;replace I:=I.bN 65 1 none;replace I:=U.iY (f:=a7) I;rw[q3]at I;refine aQ (λμ a w=>∃ (i:Nat) (xs:List ec) (adL:Option Addr) (cL:Nat),(μ=n-i∧i≤n∧bk xs=List.replicate i (List.replicate aK 0))∧Fr a 48 [(1,pt b1),(3,pt nh),(4,.int .i64 i)]∧U W w (aa nh 72 (zt n me id aK br bg order cw workers room b8 iL eL ix adL i cL)::Sl 65 1 adL i cL (xs.map aL)::ah a7 xs::aa b8 3 (ints .i64 n (λ_=>0))::aa iL 3 (ints .i64 n (λj=>if j<i then aK else 0))::aa eL 313 (rows (λ_:Pe=>[Value.int .i64 0,.int .u32 0]) (List.replicate n (fC 0)))::aa ix 4 (List.replicate n (.bool false))::aa b1 28 [.int .i64 n,.int .i64 me,.int .i64 id,.int .i64 aK,.int .i64 br,.int .i64 bg,.int .i64 order,.int .i64 cw,.int .i64 workers,.int .i64 room]::L)) (n) (⟨0,[],none,0,⟨rfl,by omega,rfl⟩,E.ab [1,3,4],(I.sub:U W w (aa nh 72 (zt n me id aK br bg order cw workers room b8 iL eL ix none 0 0)::Sl 65 1 none 0 0 []::ah a7 []::aa b8 3 (ints .i64 n (λ_=>0))::aa iL 3 (ints .i64 n (λ_=>0))::aa eL 313 (rows (λ_:Pe=>[Value.int .i64 0,.int .u32 0]) (List.replicate n (fC 0)))::aa ix 4 (List.replicate n (.bool false))::aa b1 28 [.int .i64 n,.int .i64 me,.int .i64 id,.int .i64 aK,.int .i64 br,.int .i64 bg,.int .i64 order,.int .i64 cw,.int .i64 workers,.int .i64 room]::L))⟩) ?_;clear E I;rintro μ a w ⟨i,xs,adL,cL,⟨rfl,hi,ba⟩,E,I⟩;refine IF 6 E I (λaj a E=>?_) λaj a E=>?_
 ·
  refine bS 2 [6,7,8,9] [0,1,2,3,5,3004,1006,1007,1008,1009,1010,11,12,1013] E I λa w E I hH hC=>?_;refine RH 7 E I hH hC λa E=>?_;refine rz E rfl I underlying22 Ty.t5 rfl (by omega) (by omega) λjO a w E I ho=>?_;replace hC:=hC.trans ho;clear ho;rw[Cd _ rfl,abp]at I;replace I:=I.LJ (m:=aK) (sz:=1) (by rw[dy,kH,fU]);refine RH 1 E I hH hC λa E=>?_;refine cr E rfl I underlying66 Ty.t65 rfl rfl rfl rfl (by decide) (by decide) λb35 a w E I ho=>?_;replace hC:=hC.trans ho;clear ho;refine RH 0 E I hH hC λa E=>?_;refine cQ E rfl I underlying66 Ty.t65 rfl rfl I.ai rfl (by simp[Value.oneCell']) (by decide) (by decide) (by omega) λG5 G6 a w E I=>?_;rw[show List.map aL xs++_=List.map aL (xs++[(some (⟨jO,0,none⟩:Addr),aK,List.replicate aK 0)]) from by rw[cW,map_singleton,aL,kH];rfl]at I;refine ST 2 E I (λa w E I=>?_);refine RN 0 E I λa E=>?_;refine bS 0 [6] [0,1,2,4,5,3003,1006,7,1008] E I λa w E I hH hC=>?_;refine RH 8 E I hH hC λa E=>?_;refine ST 0 E I (λa w E I=>?_) (hlt:=(by rw[dg];omega));rw[ints_set,xX (g:=λj=>if j=i then (aK:Int) else if j<i then (aK:Int) else 0) (g':=λj=>if j<i+1 then (aK:Int) else 0) (λj _=>by
   by_cases h1:j=i
   ·subst h1;simp
   ·by_cases h2:j<i
    ·simp[h1,h2,show j<i+1 from by omega]
    ·simp[h1,h2,show ¬ j<i+1 from by omega])]at I
  refine RN 3 E I λa E=>?_;have dz:=U.j0 (f:=a7) (x:=(some (⟨jO,0,none⟩:Addr),aK,List.replicate aK 0)) (by
   show U _ _ (Sl 5 1 (some (⟨jO,0,none⟩:Addr)) (List.replicate aK (0:UInt8)).length aK (bc (List.replicate aK 0))::_);rw[kH];exact I.sub (M:=Sl 5 1 (some ⟨jO,0,none⟩) aK aK (bc (List.replicate aK 0))::ah a7 xs::aa nh 72 (zt n me id aK br bg order cw workers room b8 iL eL ix G5 (i+1) G6)::Sl 65 1 G5 (i+1) G6 ((xs++[(some (⟨jO,0,none⟩:Addr),aK,List.replicate aK 0)]).map aL)::aa b8 3 (ints .i64 n (λ_=>0))::aa iL 3 (ints .i64 n (λj=>if j<i+1 then (aK:Int) else 0))::aa eL 313 (rows (λ_:Pe=>[Value.int .i64 0,.int .u32 0]) (List.replicate n (fC 0)))::aa ix 4 (List.replicate n (.bool false))::aa b1 28 [.int .i64 n,.int .i64 me,.int .i64 id,.int .i64 aK,.int .i64 br,.int .i64 bg,.int .i64 order,.int .i64 cw,.int .i64 workers,.int .i64 room]::L))
  exact⟨n-(i+1),by omega,i+1,xs++[(some (⟨jO,0,none⟩:Addr),aK,List.replicate aK 0)],G5,G6,⟨rfl,by omega,by rw[bk,cW,← bk,ba,replicate_succ'];rfl⟩,E.ab [1,3,4],dz.sub⟩
 refine RT 3 E I ?_;obtain rfl:i=n:=by omega
 obtain⟨lb,lo,rfl,_⟩:=(I.pick (Sl 65 1 adL i cL (xs.map aL))).bU adL (by omega);rw[xX (g:=λj=>if j<i then (aK:Int) else 0) (g':=λ_=>(aK:Int)) (λj hj=>by simp[hj])]at I;refine⟨⟨nh,lb,lo,cL,b8,iL,eL,ix⟩,rfl,?_⟩;have hs:(fm ⟨i,me,id,aK,br,bg,order,cw,workers,room⟩).ls.length=i:=by simp[fm]
 have h9:=I.sub (M:=Sl 65 1 (some ⟨lb,lo,none⟩) i cL (xs.map aL)::ah a7 xs::aa nh 72 (zt i me id aK br bg order cw workers room b8 iL eL ix (some ⟨lb,lo,none⟩) i cL)::aa b8 3 (ints .i64 i (λ_=>0))::aa iL 3 (ints .i64 i (λ_=>(aK:Int)))::aa eL 313 (rows (λ_:Pe=>[Value.int .i64 0,.int .u32 0]) (List.replicate i (fC 0)))::aa ix 4 (List.replicate i (.bool false))::L);have h8:=bM.close (ls:=List.replicate i (List.replicate aK 0)) (by rw[kH];exact h9) ba;replace h8:=U.bN (U.bN h8 100 1 none) 102 3 none;refine U.shut (M:=[_,_,_,_,_,_,_,_]) (A:=aZ _ _) ?_ (λ_ h=>⟨⟨none,0,none,0⟩,h⟩);have gH:(fm ⟨i,me,id,aK,br,bg,order,cw,workers,room⟩).ps=List.replicate i (fC aK):=by simp[fm]
 rw[cX,hs,gH,abl,abm,abn,abo];exact h8.sub (M:=aa nh 72 (zt i me id aK br bg order cw workers room b8 iL eL ix (some ⟨lb,lo,none⟩) i cL)::bM lb lo cL (List.replicate i (List.replicate aK 0))::aa b8 3 (ints .i64 i (λ_=>0))::aa iL 3 (ints .i64 i (λ_=>(aK:Int)))::aa eL 313 (rows (λ_:Pe=>[Value.int .i64 0,.int .u32 0]) (List.replicate i (fC 0)))::aa ix 4 (List.replicate i (.bool false))::Sl 100 1 none 0 0 []::Sl 102 3 none 0 0 []::L)
end
section
variable {W w:World}{L L':List SP}{n c m lb lo i f cl:Nat}{ad:Option Addr}{ls:List (List UInt8)}{k:Ks}{A:m1}{B:oj}{x:UInt8}
theorem NO {fr m aT cq:Nat}{adq:Option Addr}{q:List UInt8}(I:U W w L)(pd:w.cell? ⟨lb,aT,none⟩=some (.slice adq q.length cq))(hqc:q.length≤cq)(qj:∀ w',U W w' L→aW w' adq q.length q)(hl:q.length≤1000)(hf:fr≤1000)(hk:1≤m∧m≤1000) :
   Calls prog 113 #[.pointer (some ⟨lb,aT,none⟩),.int .i64 fr,.int .i64 m] w λr w'=>∃ av c',r=.returned (.slice av ((q.drop fr).take m).length c')∧U W w' (Sl 5 1 av ((q.drop fr).take m).length c' (bc ((q.drop fr).take m))::L):=by
 refine EN func113 ntmps113 rfl rfl λa E=>?_;refine RN 7 E I λa E=>?_;rw[bo (by omega)]at E;refine RN 4 E I λa E=>?_;refine bm E (bQ E rfl (s:=10)) (ae E (pd)) rfl λa E=>?_;refine BY 4 E I (λla a E=>?_) λla a E=>?_
 ·
  refine RT 6 E I ?_;have hz:(q.drop fr).take m=[]:=by rw[drop_eq_nil_of_le (by omega),List.take_nil]
  rw[hz];exact⟨none,0,rfl,I.bN _ _ none⟩
 refine RN 3 E I λa E=>?_;rw[bo (by omega)]at E;refine RN 5 E I λa E=>?_;refine SS E (ae E (pd)) λa E=>?_;refine RN 9 E I λa E=>?_;rw[show min (m:Int) ((((q.length-fr:Nat):Int)))=((min m (q.length-fr):Nat):Int) from by omega]at E;refine RN 1 E I λa E=>?_;rw[rF,Nat.sub_zero,Nat.sub_zero]at E;have zu:=((qj _ I).y2 (c:=cq) (lo:=fr) (n:=min m (q.length-fr)) (by omega) hqc);have hte:(q.drop fr).take (min m (q.length-fr))=(q.drop fr).take m:=by rw[List.take_eq_take_iff,c5];omega
 rw[hte]at zu;have eM:min m (q.length-fr)=((q.drop fr).take m).length:=by rw[et,c5]
 rw[eM]at E zu;replace I:=I.bN 5 1 none;refine g9 E rfl I underlying22 Ty.t5 rfl rfl (by decide) (λh0=>zu.get h0) (by rw[dy];omega) (ep _) (by rw[et,c5];omega) λFp Fq a w E I=>?_;rw[nil_append,eE]at I;rw[eE]at E;refine RT 1 E I ?_;exact⟨_,_,rfl,I⟩
theorem aZ.Ch (I:U W w (aZ B k::L)):∃ (A:m1) (D:SP),U W w (aa B.cb 72 (cX k B A)::D::L)∧∀ (w':World) (L':List SP) (nw:Nat) (cl:Bool),U W w' (aa B.cb 72 (cX { k with now:=nw,cl:=cl } B A)::D::L')→U W w' (aZ B { k with now:=nw,cl:=cl }::L'):=by
 obtain⟨A,I⟩:=aZ.open I;have h1:U W w ([bM B.lb B.lo B.cL k.ls,aa B.hb 3 (fc k.ps),aa B.dX 3 (eX k.ps),aa B.wb 313 (rows ff k.ps),aa B.xb 4 (fe k.ps),Sl 100 1 A.ck k.mr.length A.cM (c3 k.mr),Sl 102 3 A.adE k.ev.length A.cE (rows bW k.ev)]++(aa B.cb 72 (cX k B A)::L)):=I.sub (M:=bM B.lb B.lo B.cL k.ls::aa B.hb 3 (fc k.ps)::aa B.dX 3 (eX k.ps)::aa B.wb 313 (rows ff k.ps)::aa B.xb 4 (fe k.ps)::Sl 100 1 A.ck k.mr.length A.cM (c3 k.mr)::Sl 102 3 A.adE k.ev.length A.cE (rows bW k.ev)::aa B.cb 72 (cX k B A)::L);refine⟨A,λh=>cn [bM B.lb B.lo B.cL k.ls,aa B.hb 3 (fc k.ps),aa B.dX 3 (eX k.ps),aa B.wb 313 (rows ff k.ps),aa B.xb 4 (fe k.ps),Sl 100 1 A.ck k.mr.length A.cM (c3 k.mr),Sl 102 3 A.adE k.ev.length A.cE (rows bW k.ev)] h,?_,λw' L' nw cl I=>?_⟩
 ·exact (U.shut (A:=λh=>cn [bM B.lb B.lo B.cL k.ls,aa B.hb 3 (fc k.ps),aa B.dX 3 (eX k.ps),aa B.wb 313 (rows ff k.ps),aa B.xb 4 (fe k.ps),Sl 100 1 A.ck k.mr.length A.cM (c3 k.mr),Sl 102 3 A.adE k.ev.length A.cE (rows bW k.ev)] h) h1 λ_ h=>h).perm (cZ _ _ _)
 ·have h2:U W w' (bM B.lb B.lo B.cL k.ls::aa B.hb 3 (fc k.ps)::aa B.dX 3 (eX k.ps)::aa B.wb 313 (rows ff k.ps)::aa B.xb 4 (fe k.ps)::Sl 100 1 A.ck k.mr.length A.cM (c3 k.mr)::Sl 102 3 A.adE k.ev.length A.cE (rows bW k.ev)::aa B.cb 72 (cX { k with now:=nw,cl:=cl } B A)::L'):=(I.perm (cZ _ _ _)).open (M:=[_,_,_,_,_,_,_]) λ_ h=>h;exact aZ.fold h2 B { k with now:=nw,cl:=cl } A
def xw (k:Ks)(i:Nat):List Ml:=(lv k i).map λj=>(k.me,j,aS (iB k j))
def xx (k:Ks)(i:Nat):List Ml:=(lv k i).map λj=>(k.me,j,aS (dO k j))
theorem abr (I:U W w (aZ B k::L))(hk:WC k):Calls prog 74 #[pt B.cb] w λr w'=>∃ ad c,r=.returned (.slice ad (cy k).1.length c)∧U W w' (cg 60 ad (cy k).1.length c (cy k).1::aZ B (cy k).2::L):=by
 have hn:=hk.n;obtain⟨A,D,I,hD⟩:=aZ.Ch I;refine EN func74 ntmps74 rfl rfl λa E=>?_;refine IF 8 E I (λaj a E=>?_) λaj a E=>?_
 ·
  refine RT 2 E I ?_;refine⟨none,0,by rw[cy,ak aj];rfl,?_⟩;rw[cy,ak aj];exact cg.nil (hD _ _ k.now k.cl I)
 refine RN 5 E I λa E=>?_;have hq:cy k=((bG k).map λi=>(k.me,i,aS (iB k i)),{ k with cl:=true }):=by rw[cy,ag (by rw[aj];decide)]
 replace I:=U.bN (U.iY (f:=cc) I) 60 3 none;refine aQ (λμ a w=>∃ (i:Nat) (xs:List Mx) (ad:Option Addr) (c:Nat),(μ=k.n-i∧i≤k.n∧xs.map (·.2.2)=xw k i∧xs.length≤i)∧Fr a 52 [(0,pt B.cb),(3,.slice ad xs.length c),(4,.int .i64 i)]∧U W w (Sl 60 3 ad xs.length c (rows b7 xs)::ah cc xs::aa B.cb 72 (cX k B A)::D::L)) (k.n) (⟨0,[],none,0,⟨rfl,by omega,rfl,bf _⟩,E.ab [0,3,4],I⟩) ?_;clear E I;rintro μ a w ⟨i,xs,ad,c,⟨rfl,hi,eG,ca⟩,E,I⟩;refine IF 9 E I (λao a E=>?_) λao a E=>?_
 ·
  have lZ:xw k (i+1)=if i=k.me then xw k i else xw k i++[(k.me,i,aS (iB k i))]:=by
   rw[xw,F8];split
   ·rfl
   ·rw[cW];rfl
  refine IF 9 E I (λay a E=>?_) λay a E=>?_
  ·
   rw[ag (by omega)]at lZ;refine aX 0 (λw0 w'=>Rd w' B.cb 0 (cX k B A)) [11,17,18,19] [0,1,2,3,4,6,7,8,9,10,12,13,14,15,16,3005,3011,1017,1018,1019,20,1021,1022,23] E I λa w E I hH=>?_;have hC:=hH.at w (I.ai (b:=B.cb));refine RH 15 E I hH hC λa E=>?_;refine QH E (λw hc=>ae E (hc 1 _ rfl)) hC λa E=>?_;refine QH E (λw hc=>ae E (hc 1 _ rfl)) hC λa E=>?_;refine RH 0 E I hH hC λa E=>?_;refine SS E (ae E (hC 2 _ rfl)) λa E=>?_;refine RH 1 E I hH hC λa E=>?_;refine aY 0 E I (FE (p:=iB k i) (ad:=none) (c:=0) I (by show 0<4294967296;decide) (λw' hw=>aW.nil)) λad2 c2 a w E I=>?_;replace hC:=hH.at w (I.ai (b:=B.cb));refine RH 1 E I hH hC λa E=>?_;refine cr E rfl I underlying37 Ty.t60 rfl rfl rfl rfl (by decide) (by decide) λb46 a w E I ho=>?_;clear ho;refine RN 0 E I λa E=>?_;refine cQ E rfl I underlying37 Ty.t60 rfl rfl I.ai rfl (by simp[Value.oneCell']) (by decide) (by decide) (by omega) λp9 r9 a w E I=>?_;rw[show rows b7 xs++_=rows b7 (xs++[(ad2,c2,(k.me,i,aS (iB k i)))]) from by rw[kE];rfl,show xs.length+1=(xs++[(ad2,c2,(k.me,i,aS (iB k i)))]).length from by simp]at I;rw[show xs.length+1=(xs++[(ad2,c2,(k.me,i,aS (iB k i)))]).length from by simp]at E;refine RN 1 E I λa E=>?_;refine RN 3 E I λa E=>?_;have dz:=U.j0 (f:=cc) (x:=(ad2,c2,(k.me,i,aS (iB k i)))) (I.sub (M:=Sl 5 1 ad2 (aS (iB k i)).length c2 (bc (aS (iB k i)))::ah cc xs::Sl 60 3 p9 (xs++[(ad2,c2,(k.me,i,aS (iB k i)))]).length r9 (rows b7 (xs++[(ad2,c2,(k.me,i,aS (iB k i)))]))::aa B.cb 72 (cX k B A)::D::L));exact⟨k.n-(i+1),by omega,i+1,xs++[(ad2,c2,(k.me,i,aS (iB k i)))],p9,r9,⟨rfl,by omega,by rw[cW,eG,lZ];rfl,by rw[aI];simp;omega⟩,E.ab [0,3,4],dz.sub⟩
  rw[ak (by omega)]at lZ;refine RN 3 E I λa E=>?_;exact⟨k.n-(i+1),by omega,i+1,xs,ad,c,⟨rfl,by omega,by rw[lZ,eG],by omega⟩,E.ab [0,3,4],I⟩
 obtain rfl:i=k.n:=by omega
 refine ST 4 E I (λa w E I=>?_);refine RT 3 E I ?_;have hs:xs.length=((bG k).map λi=>(k.me,i,aS (iB k i))).length:=by
  have h1:(xs.map (·.2.2)).length=(xw k k.n).length:=by rw[eG]
  rw[a8]at h1;exact h1
 rw[hq];refine⟨ad,c,by rw[hs],?_⟩;rw[hs]at I;have h5:=hD _ _ k.now true (I.sub (M:=aa B.cb 72 (cX { k with now:=k.now,cl:=true } B A)::D::Sl 60 3 ad ((bG k).map λi=>(k.me,i,aS (iB k i))).length c (rows b7 xs)::ah cc xs::L));exact cg.close (xs:=xs) h5.sub eG rfl
theorem abt {k:Ks}{i:Nat}(h1:∀ j,j<i→j≠k.me→¬ jE k j)(hi:i<k.n)(hm:i≠k.me)(hl:jE k i):(bG k).find? (λi=>decide (jE k i))=some i:=by
 rw[bG,List.find?_filter,List.find?_range_eq_some];refine⟨by simp[hm,hl],by simpa using hi,λj hj=>?_⟩;by_cases vl:j=k.me
 ·simp[vl]
 ·simp[h1 j hj vl]
theorem abu {k:Ks}(h1:∀ j,j<k.n→j≠k.me→¬ jE k j):(bG k).find? (λi=>decide (jE k i))=none :=
 Mo λj hj=>bo (h1 j (xc.1 hj).1 (xc.1 hj).2)
set_option maxHeartbeats 2000000 in
theorem abv (I:U W w (aZ B k::L))(hk:WC k)(pD:k.now≤1000000):Calls prog 73 #[pt B.cb] w λr w'=>∃ ad c,r=.returned (.slice ad (bt k).1.length c)∧U W w' (cg 60 ad (bt k).1.length c (bt k).1::aZ B (bt k).2::L):=by
 have hn:=hk.n;obtain⟨A0,D,I,hD⟩:=aZ.Ch I;refine EN func73 ntmps73 rfl rfl λa E=>?_;refine IF 8 E I (λaj a E=>?_) λaj a E=>?_
 ·
  refine RT 2 E I ?_;refine⟨none,0,by rw[bt,ak aj];rfl,?_⟩;rw[bt,ak aj];exact cg.nil (hD _ _ k.now k.cl I)
 have iw:bt k=(match (bG { k with now:=k.now+1 }).find? (λi=>decide (jE { k with now:=k.now+1 } i)) with
  | some i=>([],{ ({ k with now:=k.now+1 }:Ks) with ev:=({ k with now:=k.now+1 }:Ks).ev++[(2,i,0)],cl:=true })
  | none=>((bG { k with now:=k.now+1 }).map λi=>(({ k with now:=k.now+1 }:Ks).me,i,aS (dO { k with now:=k.now+1 } i)),{ k with now:=k.now+1 })):=by rw[bt,ag (by rw[aj];decide)];rfl
 refine RN 6 E I λa E=>?_;rw[show ((k.now:Nat):Int)+1=((k.now+1:Nat):Int) from by omega]at E;refine ST 2 E I (λa w E I=>?_);refine RN 0 E I λa E=>?_;replace I:=hD _ _ (k.now+1) k.cl I;clear hD;have e4:WC { k with now:=k.now+1 }:=hk.BH;have qe:=hk.kT;have Gb:({ k with now:=k.now+1 }:Ks).now≤1000001:=by show k.now+1≤_;omega
 have Gc:({ k with now:=k.now+1 }:Ks).ev.length≤9:=qe;have Ge:2≤({ k with now:=k.now+1 }:Ks).n∧({ k with now:=k.now+1 }:Ks).n≤8:=hn;have abw:({ k with now:=k.now+1 }:Ks).cl=false:=aj;replace I:U W w (aZ B { k with now:=k.now+1 }::L):=I;generalize ({ k with now:=k.now+1 }:Ks)=k1 at I e4 iw Gb Gc Ge abw;obtain⟨A,I⟩:=aZ.open I;refine RN 3 E I λa E=>?_;refine aQ (λμ a w=>∃ (i:Nat),(μ=k1.n-i∧i≤k1.n∧∀ j,j<i→j≠k1.me→¬ jE k1 j)∧Fr a 154 [(0,pt B.cb),(3,.int .i64 i)]∧U W w (aa B.cb 72 (cX k1 B A)::bM B.lb B.lo B.cL k1.ls::aa B.hb 3 (fc k1.ps)::aa B.dX 3 (eX k1.ps)::aa B.wb 313 (rows ff k1.ps)::aa B.xb 4 (fe k1.ps)::Sl 100 1 A.ck k1.mr.length A.cM (c3 k1.mr)::Sl 102 3 A.adE k1.ev.length A.cE (rows bW k1.ev)::L)) (k1.n) (⟨0,⟨rfl,by omega,λj hj=>by omega⟩,E.ab [0,3],I⟩) ?_;clear E I;rintro μ a w ⟨i,⟨rfl,hi,bR⟩,E,I⟩;refine IF 9 E I (λao a E=>?_) λao a E=>?_
 ·
  have cC:i<k1.n:=by omega
  have aF:i<k1.ps.length:=by rw[e4.ps];exact cC
  have iC:=e4.qa cC;have e9:=vf aF;refine bS 2 [15,17,18] [0,1,2,3,4,1005,6,7,8,9,10,12,13,14,16,3011,1015,1017,1018,19,20,21] E I λa w E I hH hC=>?_;have jT:Rd w B.cb 0 (cX k1 B A):=I.ai (b:=B.cb);have hrh:=I.bz (b:=B.hb) (abb e9);refine RH 5 E I hH hC λa E=>?_;refine SS E (ae E (jT 1 _ rfl)) λa E=>?_;refine RH 2 E I hH hC λa E=>?_;refine E.by (s:=34) (λjS E=>?_) (λjS E=>?_)
  ·
   refine RH 7 E I hH hC λa E=>?_;refine QH E (λw hc=>ae E (hc.cell (jT 11 _ rfl))) hC λa E=>?_;refine RH 0 E I hH hC λa E=>?_;refine bm E (bQ E rfl (s:=34)) (ae E (jT 12 _ rfl)) rfl λa E=>?_;refine RH 1 E I hH hC λa E=>?_;refine bm E (bQ E rfl (s:=34)) (ae E (hrh)) rfl λa E=>?_;refine RH 3 E I hH hC λa E=>?_;refine IF 0 E I (λay a E=>?_) λay a E=>?_
   ·
    have hlt:jE k1 i:=by rw[jE];omega
    rw[abt bR cC (by omega) hlt]at iw;replace I:=aZ.fold I B k1 A;refine CL 3 E I (G2 (kd:=2) (pl:=i) (fr:=0) I (by omega)) λa w E I=>?_;refine RN 1 E I λa E=>?_;obtain⟨A2,Rq,I,hD2⟩:=aZ.Ch I;refine ST 3 E I (λa w E I=>?_);refine RN 0 E I λa E=>?_;replace I:=hD2 _ _ k1.now true I;refine RT 2 E I ?_;rw[iw];exact⟨none,0,rfl,cg.nil I⟩
   refine RN 3 E I λa E=>?_;exact⟨k1.n-(i+1),by omega,i+1,⟨rfl,by omega,λj hj vl=>by
    by_cases h:j=i
    ·subst h;rw[jE];omega
    ·exact bR j (by omega) vl⟩,E.ab [0,3],I⟩
  refine RH 14 E I hH hC λa E=>?_;refine RN 4 E I λa E=>?_;exact⟨k1.n-(i+1),by omega,i+1,⟨rfl,by omega,λj hj vl=>by
   by_cases h:j=i
   ·omega
   ·exact bR j (by omega) vl⟩,E.ab [0,3],I⟩
 obtain rfl:i=k1.n:=by omega
 rw[abu bR]at iw;clear bR;have Mi:=e4.mr;have eB:k1.me<k1.ls.length:=by rw[e4.ls];exact e4.me
 obtain⟨xs,ba,I⟩:=bM.open (I.pick (bM B.lb B.lo B.cL k1.ls));have ca:xs.length=k1.ls.length:=by rw[← ba,fZ]
 obtain⟨y,hy⟩:∃ y,xs[k1.me]?=some y:=⟨_,aD (by omega)⟩;have tZ:k1.ls.getD k1.me []=y.2.2:=by rw[← ba,su hy]
 have jl:y.2.2.length≤1000:=by rw[← tZ];exact e4.lV
 have pa:y.2.2.length≤y.2.1:=by
  obtain⟨tY,tV⟩:=a2.1 hy;have h1:=((I.pick (ah a7 xs)).fy tY);rw[tV]at h1;have h2:U W w (Sl 5 1 y.1 y.2.2.length y.2.1 (bc y.2.2)::_):=h1;exact (h2.sl y.1).2
 refine RN 5 E I λa E=>?_;replace I:=U.bN (U.iY (f:=cc) I) 60 3 none;refine aQ (λμ a w=>∃ (i:Nat) (zs:List Mx) (ad:Option Addr) (c:Nat),(μ=k1.n-i∧i≤k1.n∧zs.map (·.2.2)=xx k1 i∧zs.length≤i)∧Fr a 154 [(0,pt B.cb),(4,.slice ad zs.length c),(5,.int .i64 i)]∧U W w (Sl 60 3 ad zs.length c (rows b7 zs)::ah cc zs::aa B.cb 72 (cX k1 B A)::Sl 65 1 (some ⟨B.lb,B.lo,none⟩) k1.ls.length B.cL (xs.map aL)::ah a7 xs::aa B.hb 3 (fc k1.ps)::aa B.dX 3 (eX k1.ps)::aa B.wb 313 (rows ff k1.ps)::aa B.xb 4 (fe k1.ps)::Sl 100 1 A.ck k1.mr.length A.cM (c3 k1.mr)::Sl 102 3 A.adE k1.ev.length A.cE (rows bW k1.ev)::L)) (k1.n) (⟨0,[],none,0,⟨(Nat.sub_zero _).symm,Nat.zero_le _,rfl,bf _⟩,E.ab [0,4,5],(show U W w (Sl 60 3 none ([]:List Mx).length 0 (rows b7 [])::ah cc []::_) from I).sub⟩) ?_;clear E I;rintro μ a w ⟨i,zs,ad,c,⟨rfl,hi,ra,iI⟩,E,I⟩;refine IF 9 E I (λbd a E=>?_) λbd a E=>?_
 ·
  have lZ:xx k1 (i+1)=if i=k1.me then xx k1 i else xx k1 i++[(k1.me,i,aS (dO k1 i))]:=by
   rw[xx,F8];split
   ·rfl
   ·rw[cW];rfl
  have cC:i<k1.n:=by omega
  have aF:i<k1.ps.length:=by rw[e4.ps];exact cC
  have iC:=e4.qa cC;have e9:=vf aF;obtain⟨z,hz⟩:∃ z,xs[i]?=some z:=⟨_,aD (by rw[ca,e4.ls];exact cC)⟩;have hzq:k1.ls.getD i []=z.2.2:=by rw[← ba,su hz]
  refine IF 10 E I (λbF a E=>?_) λbF a E=>?_
  ·
   rw[ak (by omega)]at lZ;refine RN 3 E I λa E=>?_;exact⟨k1.n-(i+1),by omega,i+1,zs,ad,c,⟨rfl,by omega,by rw[lZ,ra],by omega⟩,E.ab [0,4,5],I⟩
  rw[ag (by omega)]at lZ;refine RN 0 E I λa E=>?_;refine cd (M:=λa w=>∃ (cI:Nat) (c0:Option Addr) (dS:Nat),Fr a 154 [(0,pt B.cb),(4,.slice ad zs.length c),(5,.int .i64 i),(6,pt cI)]∧U W w (aa cI 203 [.int .i64 1,.int .i64 k1.me,.int .i64 i,.int .i64 k1.id,.int .i64 (au k1 i).has,.slice c0 ((y.2.2.drop (au k1 i).has).take 32).length dS,.int .i64 z.2.2.length,.int .i64 k1.mr.length,.int .u32 0]::Sl 5 1 c0 ((y.2.2.drop (au k1 i).has).take 32).length dS (bc ((y.2.2.drop (au k1 i).has).take 32))::Sl 60 3 ad zs.length c (rows b7 zs)::ah cc zs::aa B.cb 72 (cX k1 B A)::Sl 65 1 (some ⟨B.lb,B.lo,none⟩) k1.ls.length B.cL (xs.map aL)::ah a7 xs::aa B.hb 3 (fc k1.ps)::aa B.dX 3 (eX k1.ps)::aa B.wb 313 (rows ff k1.ps)::aa B.xb 4 (fe k1.ps)::Sl 100 1 A.ck k1.mr.length A.cM (c3 k1.mr)::Sl 102 3 A.adE k1.ev.length A.cE (rows bW k1.ev)::L)) ?_ ?_
  ·
   refine aX 0 (λw0 w'=>Rd w' B.cb 0 (cX k1 B A)∧w'.cell? ⟨B.dX,i,none⟩=some (.int .i64 (au k1 i).has)∧Rd w' B.lb B.lo (xs.map aL)) [10,14,16,17,21,26,27,31,33,34,35,39,41,42,43,44,48,49,51] [0,1,2,3,5,6,7,8,9,11,12,13,15,18,19,20,22,23,24,25,28,29,30,32,36,37,38,40,45,46,47,3004,3010,3014,3016,3017,3021,3026,3027,3031,3033,3034,3039,3041,3042,3043,3044,3048,3049,2035,50,1051,1052] E I λa w E I hH=>?_;have hC:=hH.at w ⟨I.ai (b:=B.cb),I.bz (b:=B.dX) (xu e9),I.cK B.lb B.lo (by omega)⟩;refine RH 31 E I hH hC λa E=>?_;refine QH E (λw hc=>ae E (hc.1 1 _ rfl)) hC λa E=>?_;refine QH E (λw hc=>ae E (hc.1 2 _ rfl)) hC λa E=>?_;refine QH E (λw hc=>ae E (hc.1 13 _ rfl)) hC λa E=>?_;refine RH 1 E I hH hC λa E=>?_;refine QH E (λw hc=>ae E (hc.2.1)) hC λa E=>?_;refine QH E (λw hc=>ae E (hc.1 10 _ rfl)) hC λa E=>?_;refine QH E (λw hc=>ae E (hc.1 1 _ rfl)) hC λa E=>?_;refine RH 1 E I hH hC λa E=>?_;refine QH E (λw hc=>ae E (hc.1 13 _ rfl)) hC λa E=>?_;refine RH 1 E I hH hC λa E=>?_;refine QH E (λw hc=>ae E (hc.2.1)) hC λa E=>?_;refine QH E (λw hc=>ae E (hc.1 10 _ rfl)) hC λa E=>?_;refine QH E (λw hc=>Ik E underlying66 Ty.t65 (by rw[e4.ls];exact cC)) hC λa E=>?_;rw[fU]at E;refine RH 1 E I hH hC λa E=>?_;refine QH E (λw hc=>ae E (hc.2.2 i (aL z) (by rw[bn,hz];rfl))) hC λa E=>?_;rw[aL]at E;refine RH 1 E I hH hC λa E=>?_;refine QH E (λw hc=>ae E (hc.1 16 _ rfl)) hC λa E=>?_;refine RH 1 E I hH hC λa E=>?_;refine DN [(35,[50,1051,1052]),(51,[1035,50,1052])] (by kernel_rfl) rfl ⟨⟨_,rfl,?_⟩,⟨_,rfl,?_⟩,trivial⟩
   ·
    refine RH 0 E I hH hC λa E=>?_;refine aY 0 E I (NO (q:=y.2.2) (adq:=y.1) (cq:=y.2.1) (m:=32) I (by have h9:=hC.2.2 k1.me (aL y) (by rw[bn,hy];rfl);exact h9) pa (λw' hw=>(U.pg (hw.sub (M:=Sl 65 1 (some ⟨B.lb,B.lo,none⟩) k1.ls.length B.cL (xs.map aL)::ah a7 xs::[]))).2 y (bH hy)) jl iC.1 (by decide)) λc0 dS a w E I=>?_;replace hC:=hH.at w ⟨I.ai (b:=B.cb),I.bz (b:=B.dX) (xu e9),I.cK B.lb B.lo (by omega)⟩;refine RH 1 E I hH hC λa E=>?_;refine e0 E rfl I Ty.t203 rfl λcI a w E I ho=>?_;clear ho;replace hC:=hH.at w ⟨I.ai (b:=B.cb),I.bz (b:=B.dX) (xu e9),I.cK B.lb B.lo (by omega)⟩;refine RH 0 E I hH hC λa E=>?_;refine SA 0 E I λa w E I=>?_;refine RN 0 E I λa E=>?_;exact⟨cI,c0,dS,E.ab [0,4,5,6],I.sub⟩
   refine RH 0 E I hH hC λa E=>?_;refine e0 E rfl I Ty.t203 rfl λcI a w E I ho=>?_;clear ho;replace hC:=hH.at w ⟨I.ai (b:=B.cb),I.bz (b:=B.dX) (xu e9),I.cK B.lb B.lo (by omega)⟩;refine RH 0 E I hH hC λa E=>?_;refine aY 0 E I (NO (q:=y.2.2) (adq:=y.1) (cq:=y.2.1) (m:=32) I (by have h9:=hC.2.2 k1.me (aL y) (by rw[bn,hy];rfl);exact h9) pa (λw' hw=>(U.pg (hw.sub (M:=Sl 65 1 (some ⟨B.lb,B.lo,none⟩) k1.ls.length B.cL (xs.map aL)::ah a7 xs::[]))).2 y (bH hy)) jl iC.1 (by decide)) λc0 dS a w E I=>?_;replace hC:=hH.at w ⟨I.ai (b:=B.cb),I.bz (b:=B.dX) (xu e9),I.cK B.lb B.lo (by omega)⟩;refine RH 1 E I hH hC λa E=>?_;refine SA 0 E I λa w E I=>?_;refine RN 0 E I λa E=>?_;exact⟨cI,c0,dS,E.ab [0,4,5,6],I.sub⟩
  clear E;(try clear I);rintro a w ⟨cI,c0,dS,E,I⟩;refine cd (M:=λa w=>Fr a 154 [(0,pt B.cb),(4,.slice ad zs.length c),(5,.int .i64 i),(6,pt cI)]∧U W w (aa cI 203 [.int .i64 1,.int .i64 k1.me,.int .i64 i,.int .i64 k1.id,.int .i64 (au k1 i).has,.slice c0 ((y.2.2.drop (au k1 i).has).take 32).length dS,.int .i64 z.2.2.length,.int .i64 k1.mr.length,.int .u32 (k1.mr.getLastD 0:Nat)]::Sl 5 1 c0 ((y.2.2.drop (au k1 i).has).take 32).length dS (bc ((y.2.2.drop (au k1 i).has).take 32))::Sl 60 3 ad zs.length c (rows b7 zs)::ah cc zs::aa B.cb 72 (cX k1 B A)::Sl 65 1 (some ⟨B.lb,B.lo,none⟩) k1.ls.length B.cL (xs.map aL)::ah a7 xs::aa B.hb 3 (fc k1.ps)::aa B.dX 3 (eX k1.ps)::aa B.wb 313 (rows ff k1.ps)::aa B.xb 4 (fe k1.ps)::Sl 100 1 A.ck k1.mr.length A.cM (c3 k1.mr)::Sl 102 3 A.adE k1.ev.length A.cE (rows bW k1.ev)::L)) ?_ ?_
  ·
   refine IF 7 E I (λeU a E=>?_) λeU a E=>?_
   ·
    refine bS 0 [7,8,9] [0,1,2,4,5,6,3003,1007,1008,1009,10,1011,12,1013] E I λa w E I hH hC=>?_;obtain⟨F5,F6,Ga,lY⟩:=((I).pick (Sl 100 1 A.ck k1.mr.length A.cM (c3 k1.mr))).bU A.ck (by omega);have jT:w.cell? ⟨B.cb,16,none⟩=some (.slice A.ck k1.mr.length A.cM):=I.bz (b:=B.cb) rfl;rw[Ga]at jT;refine RH 6 E I hH hC λa E=>?_;refine QH E (λw hc=>ae E (hc.cell (jT))) hC λa E=>?_;refine RH 0 E I hH hC λa E=>?_;refine SS E (ae E (jT)) λa E=>?_;refine RH 2 E I hH hC λa E=>?_;rw[show ((k1.mr.length:Nat):Int)-1=((k1.mr.length-1:Nat):Int) from by omega]at E;refine RH 1 E I hH hC λa E=>?_;refine SS E (ae E (lY (k1.mr.length-1) _ (BL (by omega)))) λa E=>?_;refine RH 1 E I hH hC λa E=>?_;refine ST 0 E I (λa w E I=>?_);refine RN 0 E I λa E=>?_;rw[Mh (by omega)]at I;exact⟨E.ab [0,4,5,6],I.sub⟩
   refine RN 0 E I λa E=>?_;have h0:k1.mr.getLastD 0=0:=by rw[g4 (l:=k1.mr) (by omega)];rfl
   exact⟨E.ab [0,4,5,6],by rw[h0];exact I⟩
  clear E;(try clear I);rintro a w ⟨E,I⟩;refine RN 0 E I λa E=>?_;have hmp:dN (dO k1 i) c0 dS=[.int .i64 1,.int .i64 k1.me,.int .i64 i,.int .i64 k1.id,.int .i64 (au k1 i).has,.slice c0 ((y.2.2.drop (au k1 i).has).take 32).length dS,.int .i64 z.2.2.length,.int .i64 k1.mr.length,.int .u32 (k1.mr.getLastD 0:Nat)]:=by
   rw[← tZ,← hzq];rfl
  have abx:(dO k1 i).al=(y.2.2.drop (au k1 i).has).take 32:=by rw[← tZ];rfl
  rw[← hmp]at I;refine aX 0 (λw0 w'=>Rd w' B.cb 0 (cX k1 B A)∧Rd w' cI 0 (dN (dO k1 i) c0 dS)) [7,8] [0,1,2,3,4,6,3005,1007,1008,9,1010,1011,12] E I λa w E I hH=>?_;have hC:=hH.at w ⟨I.ai (b:=B.cb),I.ai (b:=cI)⟩;refine RH 6 E I hH hC λa E=>?_;refine QH E (λw hc=>ae E (hc.1 1 _ rfl)) hC λa E=>?_;refine RH 0 E I hH hC λa E=>?_;refine SS E (bT E underlying203 rfl Ty.t203 (hC.2)) λa E=>?_;refine RH 0 E I hH hC λa E=>?_;refine aY 0 E I (FE (p:=dO k1 i) (ad:=c0) (c:=dS) I (by
   show k1.mr.getLastD 0<4294967296;rw[getLastD_eq_getLast?];cases hl:k1.mr.getLast? with
   | none=>decide
   | some s=>exact e4.sf s (List.mem_of_getLast? hl)) (λw' hw=>by
   have h9:=(hw.pick (Sl 5 1 c0 ((y.2.2.drop (au k1 i).has).take 32).length dS (bc ((y.2.2.drop (au k1 i).has).take 32)))).cv c0 _ rfl rfl;rw[abx];exact h9)) λad2 c2 a w E I=>?_
  replace hC:=hH.at w ⟨I.ai (b:=B.cb),I.ai (b:=cI)⟩;refine RH 1 E I hH hC λa E=>?_;refine cr E rfl I underlying37 Ty.t60 rfl rfl rfl rfl (by decide) (by decide) λagf a w E I ho=>?_;clear ho;refine RN 0 E I λa E=>?_;refine cQ E rfl I underlying37 Ty.t60 rfl rfl I.ai rfl (by simp[Value.oneCell']) (by decide) (by decide) (by omega) λNP NQ a w E I=>?_;rw[show rows b7 zs++_=rows b7 (zs++[(ad2,c2,(k1.me,i,aS (dO k1 i)))]) from by rw[kE];rfl,show zs.length+1=(zs++[(ad2,c2,(k1.me,i,aS (dO k1 i)))]).length from by simp]at I;rw[show zs.length+1=(zs++[(ad2,c2,(k1.me,i,aS (dO k1 i)))]).length from by simp]at E;refine RN 1 E I λa E=>?_;refine RN 3 E I λa E=>?_;have dz:=U.j0 (f:=cc) (x:=(ad2,c2,(k1.me,i,aS (dO k1 i)))) (I.sub (M:=Sl 5 1 ad2 (aS (dO k1 i)).length c2 (bc (aS (dO k1 i)))::ah cc zs::Sl 60 3 NP (zs++[(ad2,c2,(k1.me,i,aS (dO k1 i)))]).length NQ (rows b7 (zs++[(ad2,c2,(k1.me,i,aS (dO k1 i)))]))::aa B.cb 72 (cX k1 B A)::Sl 65 1 (some ⟨B.lb,B.lo,none⟩) k1.ls.length B.cL (xs.map aL)::ah a7 xs::aa B.hb 3 (fc k1.ps)::aa B.dX 3 (eX k1.ps)::aa B.wb 313 (rows ff k1.ps)::aa B.xb 4 (fe k1.ps)::Sl 100 1 A.ck k1.mr.length A.cM (c3 k1.mr)::Sl 102 3 A.adE k1.ev.length A.cE (rows bW k1.ev)::L));exact⟨k1.n-(i+1),by omega,i+1,zs++[(ad2,c2,(k1.me,i,aS (dO k1 i)))],NP,NQ,⟨rfl,by omega,by rw[cW,ra,lZ];rfl,by rw[aI];simp;omega⟩,E.ab [0,4,5],dz.sub⟩
 obtain rfl:i=k1.n:=by omega
 refine RT 3 E I ?_;have hs:zs.length=((bG k1).map λi=>(k1.me,i,aS (dO k1 i))).length:=by
  have h1:(zs.map (·.2.2)).length=(xx k1 k1.n).length:=by rw[ra]
  rw[a8]at h1;exact h1
 rw[iw];refine⟨ad,c,by rw[hs],?_⟩;rw[hs]at I;have h4:=bM.close (xs:=xs) (ls:=k1.ls) (lb:=B.lb) (lo:=B.lo) (c:=B.cL) (W:=W) (w:=w) (L:=Sl 60 3 ad ((bG k1).map λi=>(k1.me,i,aS (dO k1 i))).length c (rows b7 zs)::ah cc zs::aa B.cb 72 (cX k1 B A)::aa B.hb 3 (fc k1.ps)::aa B.dX 3 (eX k1.ps)::aa B.wb 313 (rows ff k1.ps)::aa B.xb 4 (fe k1.ps)::Sl 100 1 A.ck k1.mr.length A.cM (c3 k1.mr)::Sl 102 3 A.adE k1.ev.length A.cE (rows bW k1.ev)::L) I.sub ba;have h5:=(aZ.fold h4 B k1 A);exact cg.close (xs:=zs) h5.sub ra rfl
end
section
variable {W w:World}{L R:List SP}{n c lb lo i f cl to:Nat}{ad:Option Addr}{ls:List (List UInt8)}{k:Ks}{A:m1}{B:oj}{bs:List UInt8}{e:km}
theorem aby {a b:Nat}:((max a b:Nat):Int)=max (a:Int) (b:Int):=by omega
theorem abz {l:List (List UInt8)}(h:l.length=k.ls.length)(ps:List Pe):cX { k with ls:=l,ps:=ps } B A=cX k B A:=by simp only[cX,h]
theorem aZ.abA (I:U W w L)(B:oj)(k:Ks)(A:m1){l:List (List UInt8)}(h:l.length=k.ls.length)[kk:fJ L [aa B.cb 72 (cX k B A),bM B.lb B.lo B.cL l,aa B.hb 3 (fc k.ps),aa B.dX 3 (eX k.ps),aa B.wb 313 (rows ff k.ps),aa B.xb 4 (fe k.ps),Sl 100 1 A.ck k.mr.length A.cM (c3 k.mr),Sl 102 3 A.adE k.ev.length A.cE (rows bW k.ev)] R]:U W w (aZ B { k with ls:=l }::R):=by
 have h1:=I.perm kk.perm;rw[← abz (l:=l) h k.ps]at h1;exact U.shut (M:=[_,_,_,_,_,_,_,_]) h1 λ_ h=>⟨A,h⟩
set_option maxHeartbeats 2000000 in
theorem abB (I:U W w (aZ B k::L))(hk:WC k)(hh:held k)(hb:bs.length≤65536)(hc:bs.length≤c)(hp:∀ w',U W w' L→aW w' ad bs.length bs) :
   Calls prog 155 #[pt B.cb,.slice ad bs.length c] w λr w'=>r=.returned (.int .i64 (dm bs k).1)∧U W w' (aZ B (dm bs k).2::L):=by
 have hn:=hk.n;obtain⟨A0,I⟩:=aZ.open I;refine EN func155 ntmps155 rfl rfl λa E=>?_;refine IF 8 E I (λaj a E=>?_) λaj a E=>?_
 ·
  replace I:=aZ.fold I B k A0;refine RT 2 E I ?_;exact⟨by rw[BO aj],by rw[BO aj];exact I.sub⟩
 replace I:=aZ.fold I B k A0;refine j3 2 E I (Y9 (I.pick (aZ B k)) hb hc (λw' hw=>hp w' hw.tail)) ?_;clear E I;rintro e w ⟨p,adP,cP,ok,rfl,NR,Ci,I⟩;refine⟨_,rfl,λa E=>?_⟩;refine AL 3 E I λb5 a w E I=>?_;refine SA 0 E I λa w E I=>?_;refine RN 3 E I λa E=>?_;obtain⟨A,I⟩:=aZ.open (I.pick (aZ B k));refine bS 0 [9,19,29] [0,1,2,3,5,6,7,8,3004,1009,10,11,12,13,15,16,17,18,3014,1019,20,21,22,23,25,26,27,28,3024,1029,30,31] E I λa w E I hH hC=>?_;refine RH 3 E I hH hC λa E=>?_;refine E.by (s:=18) (λbA E=>?_) (λbA E=>?_)
 ·
  have dr:ok=false:=by revert bA;cases ok <;> simp
  have c9:ea bs=none:=Ci dr;refine RH 29 E I hH hC λa E=>?_;refine RT 3 E I ?_;rw[Gf aj c9];exact⟨rfl,(aZ.fold I B k A).sub⟩
 have dr:ok=true:=by revert bA;cases ok <;> simp
 have qf:ea bs=some p:=NR dr;obtain⟨tL,gH,_⟩:=Fi qf;have Gg:=tL.1;refine RH 10 E I hH hC λa E=>?_;refine E.by (s:=28) (λil E=>?_) (λil E=>?_)
 ·
  refine RH 19 E I hH hC λa E=>?_;refine RT 3 E I ?_;rw[xf aj qf (.inl il)];exact⟨rfl,(aZ.fold I B k A).sub⟩
 refine RH 10 E I hH hC λa E=>?_;refine E.by (s:=38) (λp6 E=>?_) (λp6 E=>?_)
 ·
  refine RH 9 E I hH hC λa E=>?_;refine RT 3 E I ?_;rw[xf aj qf (.inr (.inl p6))];exact⟨rfl,(aZ.fold I B k A).sub⟩
 refine RH 9 E I hH hC λa E=>?_;refine IF 0 E I (λao a E=>?_) λao a E=>?_
 ·
  refine RT 2 E I ?_;rw[xf aj qf (.inr (.inr ao))];exact⟨rfl,(aZ.fold I B k A).sub⟩
 have bR:¬ (p.to≠k.me∨(k.n:Int)≤p.aV∨p.id≠k.id):=by
  rintro (h | h | h)
  ·exact h il
  ·omega
  ·exact h ao
 rw[Mt aj qf bR];clear NR Ci dr;obtain⟨fr,fw⟩:=sk Gg.1;have hJ:fr<k.n:=by omega
 have ed:fr<k.ls.length:=by rw[hk.ls];exact hJ
 have nG:fr<k.ps.length:=by rw[hk.ps];exact hJ
 have Gh:fr≠k.me:=by have:=tL.2.2.1;omega
 have iC:=hk.qa hJ;have jU:p.aV.toNat=fr:=by omega
 have e9:=vf nG;refine bS 1 [5,9] [0,1,2,4,6,7,8,3003,3005,1009,10,1011] E I λa w E I hH hC=>?_;refine RH 9 E I hH hC λa E=>?_;rw[fw]at E;refine RH 2 E I hH hC λa E=>?_;refine ST 0 E I (λa w E I=>?_) (hlt:=(by rw[fc,a8];exact nG));rw[abe { au k fr with heard:=k.now } rfl,← GY e9 { au k fr with heard:=k.now } rfl,← G0 e9 { au k fr with heard:=k.now } rfl rfl,← GZ e9 { au k fr with heard:=k.now } rfl]at I;have b9:=hk.peer (q:={ au k fr with heard:=k.now }) hJ ⟨iC.1,iC.2.2⟩ (bf _) rfl;have xh:(k.ps.set fr { au k fr with heard:=k.now })[fr]?=some { au k fr with heard:=k.now }:=getElem?_set_self nG;replace I:=aZ.fold I B { k with ps:=k.ps.set fr { au k fr with heard:=k.now } } A;refine RN 0 E I λa E=>?_;refine cd (M:=λa w=>∃ lp:Ks,(lp=(if p.kind=2 then { k with ps:=k.ps.set fr { au k fr with heard:=k.now },ev:=k.ev++[(1,fr,0)],cl:=true } else { k with ls:=k.ls.set fr (du (k.ls.getD fr []) p.first.toNat p.al),ps:=k.ps.set fr (fW k.now (aG k) p (au k fr)) })∧WC lp)∧Fr a 135 [(0,pt B.cb)]∧U W w (aZ B lp::L)) ?_ ?_
 ·
  refine IF 4 E I (λay a E=>?_) λay a E=>?_
  ·
   refine RN 4 E I λa E=>?_;rw[fw]at E;refine CL 0 E I (G2 (kd:=1) (pl:=fr) (fr:=0) I (by have:=hk.kT;show k.ev.length≤100;omega)) λa w E I=>?_;refine RN 0 E I λa E=>?_;obtain⟨A2,D,I,hD⟩:=aZ.Ch I;refine ST 3 E I (λa w E I=>?_);refine RN 0 E I λa E=>?_;replace I:=hD _ _ k.now true I;exact⟨_,⟨by rw[ak ay],by have h9:=(hk.y6 tL gH (by omega) aj).1;rw[fX,ak ay,jU]at h9;exact h9⟩,E.ab [0],I.sub⟩
  refine RN 1 E I λa E=>?_;have g8:eK p.first∧eK p.da∧eK p.frame∧p.al.length≤32:=by
   rcases tL.2.2.2.2 with h | h
   ·exact h.2
   ·exact absurd h.1 ay
  simp only[eK]at g8;obtain⟨fi,xg⟩:=sk g8.1.1;obtain⟨jF,BQ⟩:=sk g8.2.1.1;obtain⟨ko,Gi⟩:=sk g8.2.2.1.1;have zd:p.first.toNat=fi:=by omega
  obtain⟨A2,I⟩:=aZ.open I;refine bS 0 [5,8,10] [0,1,2,4,7,9,3003,3005,6,3008,1010,1011] E I λa w E I hH hC=>?_;refine RH 8 E I hH hC λa E=>?_;rw[fw]at E;refine RH 2 E I hH hC λa E=>?_;rw[xg]at E;refine RH 1 E I hH hC λa E=>?_;refine aY 0 E I (abk (f:=fi) (bs:=p.al) (I.pick (bM B.lb B.lo B.cL k.ls)) ed (hk.mq hJ) (by omega) (λw' hw=>(hw.pick (Sl 5 1 adP p.al.length cP (bc p.al))).cv adP p.al rfl rfl)) λMw er a w E I=>?_;refine RN 0 E I λa E=>?_;have dz:U W w (aZ B { k with ls:=k.ls.set fr (du (k.ls.getD fr []) fi p.al),ps:=k.ps.set fr { au k fr with heard:=k.now } }::_):=aZ.abA (l:=k.ls.set fr (du (k.ls.getD fr []) fi p.al)) I B { k with ps:=k.ps.set fr { au k fr with heard:=k.now } } A2 (bw ..);replace I:=dz;clear dz;have kI:=b9.line (i:=fr) (l:=du (k.ls.getD fr []) fi p.al) (sd (hk.mq hJ)).2;have gW:aG ({ k with ls:=k.ls.set fr (du (k.ls.getD fr []) fi p.al),ps:=k.ps.set fr { au k fr with heard:=k.now } }:Ks)=aG k:=by
   show ((k.ls.set fr _).getD k.me []).length=_;rw[Mr Gh];rfl
  refine cd (M:=λa w=>∃ hh:Nat,hh=(if (au k fr).has<jF∧jF≤aG k then jF else (au k fr).has)∧Fr a 135 [(0,pt B.cb),(5,pt b5)]∧U W w (aZ B { k with ls:=k.ls.set fr (du (k.ls.getD fr []) fi p.al),ps:=k.ps.set fr { au k fr with heard:=k.now,has:=hh } }::aa b5 203 (dN p adP cP)::L)) ?_ ?_
  ·
   refine aX 1 (λw0 w'=>Rd w' b5 0 (dN p adP cP)) [3] [0,2,3001,1003,4] E I λa w E I hH=>?_;have hC:=hH.at w (I.ai (b:=b5));refine RH 2 E I hH hC λa E=>?_;refine QH E (λw hc=>ae E (hc 6 _ rfl)) hC λa E=>?_;rw[BQ]at E;refine RH 0 E I hH hC λa E=>?_;refine CL 0 E I (sy I kI) λa w E I=>?_;replace hC:=hH.at w (I.ai (b:=b5));rw[gW]at E;refine RH 1 E I hH hC λa E=>?_;refine IF 0 E I (λbd a E=>?_) λbd a E=>?_
   ·
    refine RN 0 E I λa E=>?_;obtain⟨A3,I⟩:=aZ.open I;have xY:(eX (k.ps.set fr { au k fr with heard:=k.now }))[fr]?=some (Value.int .i64 (au k fr).has):=by
     have h:=xu xh;exact h
    refine bS 0 [5,9,11,12,13,15,16] [0,1,2,4,6,7,8,10,14,3003,3005,3009,3011,3012,3013,1015,1016,17,1018] E I λa w E I hH hC=>?_;refine RH 11 E I hH hC λa E=>?_;rw[fw]at E;refine RH 2 E I hH hC λa E=>?_;rw[fw]at E;refine RH 1 E I hH hC λa E=>?_;refine QH E (λw hc=>ae E (hc.cell (I.bz (b:=B.dX) xY))) hC λa E=>?_;refine RH 1 E I hH hC λa E=>?_;rw[BQ]at E;refine RH 2 E I hH hC λa E=>?_;refine ST 0 E I (λa w E I=>?_) (hlt:=(by rw[eX,a8,bw];exact nG));rw[abf { au k fr with heard:=k.now,has:=max (au k fr).has jF } aby,← GX xh { au k fr with heard:=k.now,has:=max (au k fr).has jF } rfl,← G0 xh { au k fr with heard:=k.now,has:=max (au k fr).has jF } rfl rfl,← GZ xh { au k fr with heard:=k.now,has:=max (au k fr).has jF } rfl,set_set]at I;replace I:=aZ.fold I B { k with ls:=k.ls.set fr (du (k.ls.getD fr []) fi p.al),ps:=k.ps.set fr { au k fr with heard:=k.now,has:=max (au k fr).has jF } } A3;refine RN 0 E I λa E=>?_;exact⟨max (au k fr).has jF,by split <;> omega,E.ab [0,5],I.sub⟩
   refine RN 0 E I λa E=>?_;exact⟨_,by rw[ag (by omega)],E.ab [0,5],I.sub⟩
  clear E;(try clear I);rintro a w ⟨hh,zc,E,I⟩;refine bS 1 [9,11,12,13,14] [0,1001,2,3,4,6,7,8,10,3005,3009,1011,1012,1013,1014,15,16] E I λa w E I hH hC=>?_;have xi:(k.ps.set fr { au k fr with heard:=k.now,has:=hh })[fr]?=some { au k fr with heard:=k.now,has:=hh }:=getElem?_set_self nG;have Gj:p.da.toNat=jF:=by omega
  have Gk:p.frame.toNat=ko:=by omega
  have hP:fW k.now (aG k) p (au k fr)=(if 0<p.frame∧((au k fr).frame:Int)≤p.frame then { au k fr with heard:=k.now,has:=hh,frame:=ko,sum:=p.sum } else { au k fr with heard:=k.now,has:=hh }):=by
   rw[fW,Gj,Gk,zc]
  have vh:hh≤1000:=by rw[zc];split <;> omega
  obtain⟨G7,I⟩:=aZ.open I;have fk:=jk Ce (I.ai (b:=B.wb)) xi;rw[eE]at fk;replace hH:=Hd.gD I;refine RH 4 E I hH hC λa E=>?_;refine E.by (s:=107) (λbX E=>?_) (λbX E=>?_)
  ·
   refine RH 8 E I hH hC λa E=>?_;rw[fw]at E;refine RH 2 E I hH hC λa E=>?_;refine bm E (bQ E rfl (s:=107)) (ae E (fk 0 (.int .i64 (au k fr).frame) rfl)) rfl λa E=>?_;refine RH 2 E I hH hC λa E=>?_;refine IF 0 E I (λbF a E=>?_) λbF a E=>?_
   ·
    refine bS 0 [5,7,9,10] [0,1,2,4,6,8,3003,3005,3007,1009,1010,11,1012] E I λa w E I hH hC=>?_;refine RH 8 E I hH hC λa E=>?_;rw[fw]at E;refine RH 1 E I hH hC λa E=>?_;rw[Gi]at E;refine RH 3 E I hH hC λa E=>?_;refine rq E rfl I Ty.t313 (by simp[Value.oneCell']) (by rw[jv Ce,bw];show fr*2+2≤_;omega) λa w E I=>?_;rw[show cG (rows ff (k.ps.set fr { au k fr with heard:=k.now,has:=hh })) (fr*2) [Value.int .i64 ko,Value.int .u32 p.sum]=rows ff ((k.ps.set fr { au k fr with heard:=k.now,has:=hh }).set fr { au k fr with heard:=k.now,has:=hh,frame:=ko,sum:=p.sum }) from IS Ce _ { au k fr with heard:=k.now,has:=hh,frame:=ko,sum:=p.sum } (by rw[bw];exact nG),← GX xi { au k fr with heard:=k.now,has:=hh,frame:=ko,sum:=p.sum } rfl,← GY xi { au k fr with heard:=k.now,has:=hh,frame:=ko,sum:=p.sum } rfl,← GZ xi { au k fr with heard:=k.now,has:=hh,frame:=ko,sum:=p.sum } rfl,set_set]at I;replace I:=aZ.fold I B { k with ls:=k.ls.set fr (du (k.ls.getD fr []) fi p.al),ps:=k.ps.set fr { au k fr with heard:=k.now,has:=hh,frame:=ko,sum:=p.sum } } G7;refine RN 0 E I λa E=>?_;exact⟨_,⟨by rw[ag ay,zd,hP,ak (by omega)],(hk.peer (q:={ au k fr with heard:=k.now,has:=hh,frame:=ko,sum:=p.sum }) hJ ⟨vh,by show ko≤1000;omega,gH⟩ (bf _) rfl).line (sd (hk.mq hJ)).2⟩,E.ab [0],I.sub⟩
   refine RN 0 E I λa E=>?_;exact⟨_,⟨by rw[ag ay,zd,hP,ag (by omega)],(hk.peer (q:={ au k fr with heard:=k.now,has:=hh }) hJ ⟨vh,iC.2.2⟩ (bf _) rfl).line (sd (hk.mq hJ)).2⟩,E.ab [0],(aZ.fold I B { k with ls:=k.ls.set fr (du (k.ls.getD fr []) fi p.al),ps:=k.ps.set fr { au k fr with heard:=k.now,has:=hh } } G7).sub⟩
  refine RH 13 E I hH hC λa E=>?_;refine RN 1 E I λa E=>?_;exact⟨_,⟨by rw[ag ay,zd,hP,ag (by omega)],(hk.peer (q:={ au k fr with heard:=k.now,has:=hh }) hJ ⟨vh,iC.2.2⟩ (bf _) rfl).line (sd (hk.mq hJ)).2⟩,E.ab [0],(aZ.fold I B { k with ls:=k.ls.set fr (du (k.ls.getD fr []) fi p.al),ps:=k.ps.set fr { au k fr with heard:=k.now,has:=hh } } G7).sub⟩
 clear E;(try clear I);rintro a w ⟨lp,⟨mS,hkw⟩,E,I⟩;refine CL 2 E I (NJ I hkw) λa w E I=>?_;refine RT 2 E I ?_;refine⟨rfl,?_⟩;have hz:lr lp=fX k p:=by
  by_cases h2:p.kind=2
  ·rw[mS,ak h2,fX,ak h2,jU];refine held.lr (hh.of rfl (bw ..) λi hi=>?_);by_cases h:i=fr
   ·subst h;rw[show au { k with ps:=k.ps.set i { au k i with heard:=k.now },ev:=k.ev++[(1,i,0)],cl:=true } i={ au k i with heard:=k.now } from by rw[au,bl,getElem?_set_self hi];rfl];exact⟨rfl,rfl,rfl⟩
   ·rw[show au { k with ps:=k.ps.set fr { au k fr with heard:=k.now },ev:=k.ev++[(1,fr,0)],cl:=true } i=au k i from by rw[au,bl,getElem?_set_ne (Ne.symm h),au,bl]];exact⟨rfl,rfl,rfl⟩
  ·rw[mS,ag h2,fX,ag h2,jU]
 rw[hz]at I;exact I
end
end
section
def bZ:Pr:=⟨⟨#[115,117,109]⟩,[⟨1,30,1,0⟩,⟨11,1,0,0⟩,⟨5,2,2,31⟩,⟨3,2,2,1⟩,⟨3,0,0,30⟩,⟨1,29,8,0⟩,⟨7,28,0,29⟩,⟨10,28,9,0⟩,⟨9,1,0,0⟩,⟨1,0,0,0⟩,⟨15,31,0,0⟩,⟨13,31,2,0⟩]⟩
theorem G8 {s:ByteArray}{i b:Nat}(hb:kh s i=b)(h:b<128):Utf8.decode s i=(b,1):=by
 simp only[kh]at hb;simp[Utf8.decode,hb,h]
theorem abC:ee bZ.title 0=[(115,1),(117,1),(109,1)]:=by
 have h1:bZ.title.size=3:=rfl;have h2:Utf8.decode bZ.title 0=(115,1):=G8 (b:=115) rfl (by decide);have h3:Utf8.decode bZ.title 1=(117,1):=G8 (b:=117) rfl (by decide);have h4:Utf8.decode bZ.title 2=(109,1):=G8 (b:=109) rfl (by decide);have r3:ee bZ.title 3=[]:=rO (by omega);have r2:ee bZ.title 2=[(109,1)]:=by rw[rN (by omega),eb,ak (by omega),h4];exact di _ r3
 have r1:ee bZ.title 1=[(117,1),(109,1)]:=by rw[rN (by omega),eb,ak (by omega),h3];exact di _ r2
 rw[rN (by omega),eb,ak (by omega),h2];exact di _ r1
theorem re:dk bZ:=by
 refine⟨⟨?_,by decide,by decide,?_⟩,?_⟩
 ·rw[pQ,abC];decide
 ·intro o ho;simp[bZ]at ho;rcases ho with rfl | rfl | rfl | rfl | rfl | rfl | rfl | rfl | rfl | rfl | rfl | rfl <;> simp[rP,ds]
 ·intro o ho;simp[bZ]at ho;rcases ho with rfl | rfl | rfl | rfl | rfl | rfl | rfl | rfl | rfl | rfl | rfl | rfl <;> simp[e7,e6,bZ]
section
variable {W w:World}{L:List SP}{n c:Nat}{ad:Option Addr}
theorem NS (I:U W w L):Calls prog 25 #[] w λe w'=>∃ ad,e=.returned (.agg (bP bZ ad 12).toArray)∧U W w' (aA W bZ ad 12::L):=by
 refine EN func25 ntmps25 rfl rfl λa E=>?_;refine AL 1 E I λAu a w E I=>?_;refine RN 13 E I λa E=>?_;refine cr E rfl I underlying43 Ty.t114 rfl rfl rfl rfl (by decide) (by decide) λCj a w E I ho=>?_;clear ho;refine SA 1 E I λa w E I=>?_;refine RT 0 E I ?_;refine⟨some ⟨Cj,0,none⟩,rfl,?_⟩;have h1:U W w (aa Cj 114 ([]++rows dQ bZ.ops++[])::_):=I.jX Cj;have h2:=U.iX (n:=12) (c:=12) (sz:=4) h1 rfl (bf _) (Nat.zero_le _);have h3:U W w (aA W bZ (some ⟨Cj,0,none⟩) 12::_):=h2.Eg;exact h3.sub
set_option maxHeartbeats 2000000 in
end
section
variable {W w:World}{L:List SP}{m cP:Nat}{adP:Option Addr}{p:Pr}
theorem zw {fr:Int}{g:Nat→Int}{aq:Option Addr}{cO:Nat}{P:List (List UInt8)}{zs:List ec}(I:U W w (aA W p aq cO::L))(hm:P.length=m)(a6:dk p)(aH:p.title.size≤1000000000)(hg:dR g)(hP:P.length≤65536∧∀ b∈P,b.length≤1099511627776)(hz:zs.map (·.2.2)=P)(hf:-1099511627776≤fr∧fr≤1099511627776)(hp:∀ w',U W w' L→iK w' adP zs) :
   Calls prog 116 #[.agg (bP p aq cO).toArray,.agg (ints .i32 32 g).toArray,.int .i64 fr,.slice adP m cP] w λe w'=>e=.returned (.agg (ints .i32 32 (foldI p fr g P)).toArray)∧dR (foldI p fr g P)∧U W w' (aA W p aq cO::L):=by
 subst hm;exact XX I a6 aH hg hP hz hf hp
end
def jn (P O:List UInt8)(k:Nat):List (List UInt8):=(List.range k).map (bJ [P,O])
end
end Go.Proofs.YteoldcfapaiobaaGreat
