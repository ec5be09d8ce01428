/- The document's player without its game: how it lies in memory; quintainref21.within, May, New, Head, Front, event, held, Mark, Told. -/
import Derived.Test.YteoldcfapaiobaaGreatC10Core
import Derived.Test.YteoldcfapaiobaaGreatC12Mul
import Derived.Test.YteoldcfapaiobaaGreatC01Row
import Derived.Test.YteoldcfapaiobaaGreatC06Ref
import Derived.Test.YteoldcfapaiobaaGreatC11Rank
import Derived.Test.YteoldcfapaiobaaGreatC05Vm
import Derived.Test.YteoldcfapaiobaaGreatC09CoQ
namespace Go.Proofs.YteoldcfapaiobaaGreat
open Tryz
open List (take_zero nil_append drop_eq_nil_of_le cons_append append_nil ext_getElem? set_set mem_singleton range_succ getElem?_set_ne getElem?_set_self replicate_succ' map_singleton getLastD_eq_getLast? map_replicate)
open Go.RowKit
set_option linter.unusedVariables false
set_option linter.unusedSimpArgs false
set_option maxRecDepth 10000
set_option synthInstance.maxSize 4000
set_option synthInstance.maxHeartbeats 400000
section
theorem AU (z:Value)(h:z.cells=#[z])(n:Nat):(madeCells z.cells (n*1)).toList=List.replicate n z:=by
 apply ext_getElem?;intro i;rw[madeCells,Array.getElem?_toList,Array.getElem?_map,Array.getElem?_range,h,List.getElem?_replicate];by_cases hi:i<n
 ·simp[hi,Nat.mod_one]
 ·simp[hi]
theorem aai (n:Nat):(madeCells (Value.agg #[.int .i64 0,.int .u32 0]).cells (n*2)).toList=rows (λ_:Pe=>[Value.int .i64 0,.int .u32 0]) (List.replicate n (fw 0)):=by
 have hl:∀ m:Nat,(madeCells (Value.agg #[.int .i64 0,.int .u32 0]).cells m).toList=(List.range m).map λi=>if i%2=0 then Value.int .i64 0 else .int .u32 0:=by
  intro m;apply ext_getElem?;intro i;rw[madeCells,Array.getElem?_toList,Array.getElem?_map,Array.getElem?_range,bm];by_cases hi:i<m
  ·rcases Nat.mod_two_eq_zero_or_one i with h | h <;> simp[hi,Value.cells,h]
  ·simp[hi]
 rw[hl]
 induction n with
 | zero=>rfl
 | succ n ih =>
  rw[Nat.succ_mul,replicate_succ',j9,← ih,range_succ,range_succ];simp only[cQ,dv]
  congr 1
  have h1:n*2%2=0:=by omega
  have h2:¬ (n*2+1)%2=0:=by omega
  simp[h1,h2,rows]
def bL (lb lo c:Nat)(ls:List (List UInt8)):SP:=λh=>∃ xs:List ea,bj xs=ls∧cm [Sl 65 1 (some ⟨lb,lo,none⟩) ls.length c (xs.map aM),ah a7 xs] h
structure oC where
 cb:Nat
 lb:Nat
 lo:Nat
 cL:Nat
 hb:Nat
 dV:Nat
 wb:Nat
 xb:Nat
structure my where
 ck:Option Addr
 cM:Nat
 adE:Option Addr
 cE:Nat
abbrev cU (k:Ks)(B:oC)(A:my):List Value:=[.int .i64 k.n,.int .i64 k.me,.int .i64 k.id,.int .i64 k.aK,.int .i64 k.bt,.int .i64 k.ba,.int .i64 k.order,.int .i64 k.ct,.int .i64 k.workers,.int .i64 k.room,
 .slice (some ⟨B.lb,B.lo,none⟩) k.ls.length B.cL,.int .i64 k.now,.slice (some ⟨B.hb,0,none⟩) k.n k.n,.slice (some ⟨B.dV,0,none⟩) k.n k.n,.slice (some ⟨B.wb,0,none⟩) k.n k.n,.slice (some ⟨B.xb,0,none⟩) k.n k.n,.slice A.ck k.mr.length A.cM,.slice A.adE k.ev.length A.cE,.bool k.cl]
def eZ (l:List Pe):List Value:=l.map λp=>Value.int .i64 (p.heard:Int)
def eO (l:List Pe):List Value:=l.map λp=>Value.int .i64 (p.has:Int)
def e0 (l:List Pe):List Value:=l.map λp=>Value.bool p.apart
abbrev e4 (p:Pe):List Value:=[.int .i64 p.frame,.int .u32 p.sum]
theorem AV (p:Pe):(e4 p).length=2:=rfl
def aW (B:oC)(k:Ks):SP:=λh=>∃ A:my,cm [aa B.cb 72 (cU k B A),bL B.lb B.lo B.cL k.ls,aa B.hb 3 (eZ k.ps),aa B.dV 3 (eO k.ps),aa B.wb 313 (rows e4 k.ps),aa B.xb 4 (e0 k.ps),Sl 100 1 A.ck k.mr.length A.cM (c4 k.mr),Sl 102 3 A.adE k.ev.length A.cE (rows bW k.ev)] h
section
variable {W w:World}{L R:List SP}{c m lb lo i:Nat}{ad:Option Addr}{ls:List (List UInt8)}{k:Ks}{A:my}{B:oC}
theorem bL.open (I:U W w (bL lb lo c ls::L)):∃ xs:List ea,bj xs=ls∧U W w (Sl 65 1 (some ⟨lb,lo,none⟩) ls.length c (xs.map aM)::ah a7 xs::L):=by
 obtain⟨xs,h1,I⟩:=I.jo (ι:=List ea) (p:=λxs=>bj xs=ls) (B:=λxs h=>cm [Sl 65 1 (some ⟨lb,lo,none⟩) ls.length c (xs.map aM),ah a7 xs] h) λ_ ⟨xs,h1,h2⟩=>⟨xs,h1,h2⟩;exact⟨xs,h1,I.open (M:=[_,_]) λ_ h=>h⟩
theorem bL.close {xs:List ea}(I:U W w (Sl 65 1 (some ⟨lb,lo,none⟩) ls.length c (xs.map aM)::ah a7 xs::L))(h:bj xs=ls):U W w (bL lb lo c ls::L) :=
 U.shut (M:=[_,_]) I λ_ h'=>⟨xs,h,h'⟩
theorem U.oD {xs:List ea}{el:TypeId}{m:Nat}(I:U W w (Sl el 1 ad m c (xs.map aM)::ah a7 xs::L)):iJ w ad xs:=by
 have hl:=(I.sl ad).1;rw[bd,Nat.mul_one]at hl;refine⟨λh0=>?_,λx hx=>?_⟩
 ·obtain⟨b,off,h1,h2⟩:=I.bY ad (by omega);exact⟨b,off,h1,h2⟩
 ·obtain⟨i,hi,rfl⟩:=List.getElem_of_mem hx;have h2:=(I.tail).fE hi;exact U.cF (L:=a7 xs[i]::_) h2 _ _ (k:=(fL.head:fL (Sl 5 1 xs[i].1 xs[i].2.2.length xs[i].2.1 (bc xs[i].2.2)::_) xs[i].1 _ _ _ _ _ _)) rfl rfl
theorem aW.open (I:U W w (aW B k::L)):∃ A:my,U W w (aa B.cb 72 (cU k B A)::bL B.lb B.lo B.cL k.ls::aa B.hb 3 (eZ k.ps)::aa B.dV 3 (eO k.ps)::aa B.wb 313 (rows e4 k.ps)::aa B.xb 4 (e0 k.ps)::Sl 100 1 A.ck k.mr.length A.cM (c4 k.mr)::Sl 102 3 A.adE k.ev.length A.cE (rows bW k.ev)::L):=by
 obtain⟨A,_,I⟩:=I.jo (ι:=my) (p:=λ_=>True) (B:=λA h=>cm [aa B.cb 72 (cU k B A),bL B.lb B.lo B.cL k.ls,aa B.hb 3 (eZ k.ps),aa B.dV 3 (eO k.ps),aa B.wb 313 (rows e4 k.ps),aa B.xb 4 (e0 k.ps),Sl 100 1 A.ck k.mr.length A.cM (c4 k.mr),Sl 102 3 A.adE k.ev.length A.cE (rows bW k.ev)] h) λ_ ⟨A,h⟩=>⟨A,trivial,h⟩;exact⟨A,I.open (M:=[_,_,_,_,_,_,_,_]) λ_ h=>h⟩
theorem aW.fold (I:U W w L)(B:oC)(k:Ks)(A:my)[kk:fD L [aa B.cb 72 (cU k B A),bL B.lb B.lo B.cL k.ls,aa B.hb 3 (eZ k.ps),aa B.dV 3 (eO k.ps),aa B.wb 313 (rows e4 k.ps),aa B.xb 4 (e0 k.ps),Sl 100 1 A.ck k.mr.length A.cM (c4 k.mr),Sl 102 3 A.adE k.ev.length A.cE (rows bW k.ev)] R]:U W w (aW B k::R) :=
 U.shut (M:=[_,_,_,_,_,_,_,_]) (I.perm kk.perm) λ_ h=>⟨A,h⟩
end
theorem aaj {l:List Pe}{i:Nat}{p:Pe}(h:l[i]?=some p):(eZ l)[i]?=some (.int .i64 p.heard):=by rw[eZ,bm,h];rfl
theorem wv {l:List Pe}{i:Nat}{p:Pe}(h:l[i]?=some p):(eO l)[i]?=some (.int .i64 p.has):=by rw[eO,bm,h];rfl
theorem aak {l:List Pe}{i:Nat}{p:Pe}(h:l[i]?=some p):(e0 l)[i]?=some (.bool p.apart):=by rw[e0,bm,h];rfl
theorem yp {α β:Type}(f:α→β){l:List α}{i:Nat}{x:α}{v:β}(h:f x=v):(l.map f).set i v=(l.set i x).map f:=by rw[← h,map_set]
theorem AW {β:Type}(f:Pe→β){l:List Pe}{i:Nat}{p q:Pe}(h:l[i]?=some p)(hf:f q=f p):(l.set i q).map f=l.map f:=by
 apply ext_getElem?;intro j;rw[bm,bm,jF];by_cases hj:i=j
 ·subst hj;have hi:=(a2.1 h).1;rw[ak rfl,ak hi,h];simp[hf]
 ·rw[ae hj]
theorem aal (f:Pe→List Value){l:List Pe}{i:Nat}{p q:Pe}(h:l[i]?=some p)(hf:f q=f p):rows f (l.set i q)=rows f l:=by
 rw[rows,rows,List.flatMap_def,List.flatMap_def,AW f h hf]
theorem FA {l:List Pe}{i:Nat}{p:Pe}(h:l[i]?=some p)(q:Pe)(hf:q.heard=p.heard):eZ (l.set i q)=eZ l:=AW _ h (by rw[hf])
theorem FB {l:List Pe}{i:Nat}{p:Pe}(h:l[i]?=some p)(q:Pe)(hf:q.has=p.has):eO (l.set i q)=eO l:=AW _ h (by rw[hf])
theorem FC {l:List Pe}{i:Nat}{p:Pe}(h:l[i]?=some p)(q:Pe)(hf:q.apart=p.apart):e0 (l.set i q)=e0 l:=AW _ h (by rw[hf])
theorem FD {l:List Pe}{i:Nat}{p:Pe}(h:l[i]?=some p)(q:Pe)(hf:q.frame=p.frame)(I:q.sum=p.sum):rows e4 (l.set i q)=rows e4 l:=aal _ h (by rw[e4,e4,hf,I])
theorem aam {l:List Pe}{i:Nat}(q:Pe){v:Int}(h:(q.heard:Int)=v):(eZ l).set i (.int .i64 v)=eZ (l.set i q):=yp _ (by rw[h])
theorem aan {l:List Pe}{i:Nat}(q:Pe){v:Int}(h:(q.has:Int)=v):(eO l).set i (.int .i64 v)=eO (l.set i q):=yp _ (by rw[h])
section
variable {W w:World}{L:List SP}{n c lb lo i f cl:Nat}{ad:Option Addr}{ls:List (List UInt8)}{k:Ks}{A:my}{B:oC}{x:UInt8}
theorem rv (I:U W w (aW B k::L))(hk:WC k):Calls prog 20 #[pt B.cb] w λr V=>r=.returned (.int .i64 (aF k))∧U W V (aW B k::L):=by
 have dQ:k.me<k.ls.length:=by rw[hk.ls];exact hk.me
 obtain⟨A,I⟩:=aW.open I;refine EN func20 ntmps20 rfl rfl λa E=>?_;refine bQ 3 [8] [0,1,2,4,5,6,7,3003,1008,9,10,1011,12,13] E I λa w E I hH hC=>?_;obtain⟨xs,a8,I⟩:=bL.open (I.pick (bL B.lb B.lo B.cL k.ls));have cj:xs.length=k.ls.length:=by rw[← a8,gK]
 obtain⟨mE,ol,y,FE,hy,oB,pC⟩:=(U.oD I).at (i:=k.me) (by omega);cases FE;have j3:aF k=y.2.2.length:=by
  show (k.ls.getD k.me []).length=_;rw[← a8,sZ hy]
 replace hH:=Hd.gf I;refine RH 11 E I hH hC λa E=>?_;refine SS E (ag E (oB)) λa E=>?_;rw[aM]at E;refine RH 2 E I hH hC λa E=>?_;refine RT 0 E I ?_;refine⟨by rw[j3],?_⟩;exact (aW.fold (bL.close I a8) B k A).sub
theorem FF (I:U W w (aW B k::L))(hk:WC k):Calls prog 19 #[pt B.cb] w λr V=>r=.returned (.int .i64 (ax k))∧U W V (aW B k::L):=by
 have hn:=hk.n;have fe:=hk.ls;obtain⟨A,I⟩:=aW.open I;refine EN func19 ntmps19 rfl rfl λa E=>?_;refine RN 7 E I λa E=>?_;obtain⟨xs,a8,I⟩:=bL.open (I.pick (bL B.lb B.lo B.cL k.ls));have cj:xs.length=k.ls.length:=by rw[← a8,gK]
 rw[← cj]at E;refine CL 0 E I (Fp (xs:=xs) I (by omega) (by omega) (λV hw=>U.oD hw)) λa w E I=>?_;refine RT 1 E I ?_;refine⟨by rw[a8];rfl,?_⟩;exact (aW.fold (bL.close I a8) B k A).sub
theorem FG {kd pl fr:Nat}(I:U W w (aW B k::L))(hl:k.ev.length≤100):Calls prog 112 #[pt B.cb,.int .i64 kd,.int .i64 pl,.int .i64 fr] w λr V=>r=.returned (.tuple #[])∧U W V (aW B { k with ev:=k.ev++[(kd,pl,fr)] }::L):=by
 obtain⟨A,I⟩:=aW.open I;refine EN func112 ntmps112 rfl rfl λa E=>?_;refine RN 9 E I λa E=>?_;refine cn E rfl I underlying70 Ty.t102 rfl rfl rfl rfl (by decide) (by decide) λhZ a w E I ho=>?_;clear ho;refine RN 0 E I λa E=>?_;refine cI E rfl I underlying70 Ty.t102 rfl rfl I.ai rfl (EG (kd,pl,fr)) (by decide) (by decide) (by omega) λFH FI a w E I=>?_;rw[show rows bW k.ev++_=rows bW (k.ev++[(kd,pl,fr)]) from by rw[j9];rfl,show k.ev.length+1=(k.ev++[(kd,pl,fr)]).length from by simp]at I;rw[show k.ev.length+1=(k.ev++[(kd,pl,fr)]).length from by simp]at E;refine ST 2 E I (λa w E I=>?_);refine RT 0 E I ?_;exact⟨rfl,(aW.fold I B { k with ev:=k.ev++[(kd,pl,fr)] } { A with adE:=FH,cE:=FI }).sub⟩
theorem aao (I:U W w (aW B k::L)):Calls prog 51 #[pt B.cb] w λr V=>∃ ad c,r=.returned (.slice ad k.ev.length c)∧U W V (Sl 102 3 ad k.ev.length c (rows bW k.ev)::aW B { k with ev:=[] }::L):=by
 obtain⟨A,I⟩:=aW.open I;refine EN func51 ntmps51 rfl rfl λa E=>?_;refine ST 12 E I (λa w E I=>?_);refine RT 3 E I ?_;refine⟨A.adE,A.cE,rfl,?_⟩;replace I:=I.bM 102 3 none;have h2:U W w (aa B.cb 72 (cU { k with ev:=[] } B ⟨A.ck,A.cM,none,0⟩)::bL B.lb B.lo B.cL k.ls::aa B.hb 3 (eZ k.ps)::aa B.dV 3 (eO k.ps)::aa B.wb 313 (rows e4 k.ps)::aa B.xb 4 (e0 k.ps)::Sl 100 1 A.ck k.mr.length A.cM (c4 k.mr)::Sl 102 3 none 0 0 []::Sl 102 3 A.adE k.ev.length A.cE (rows bW k.ev)::L):=I.sub (M:=aa B.cb 72 _::bL B.lb B.lo B.cL k.ls::aa B.hb 3 (eZ k.ps)::aa B.dV 3 (eO k.ps)::aa B.wb 313 (rows e4 k.ps)::aa B.xb 4 (e0 k.ps)::Sl 100 1 A.ck k.mr.length A.cM (c4 k.mr)::Sl 102 3 none 0 0 []::Sl 102 3 A.adE k.ev.length A.cE (rows bW k.ev)::L);refine U.perm (L:=aW B { k with ev:=[] }::Sl 102 3 A.adE k.ev.length A.cE (rows bW k.ev)::L) ?_ (List.Perm.swap _ _ _);exact U.shut (M:=[_,_,_,_,_,_,_,_]) h2 λ_ h=>⟨⟨A.ck,A.cM,none,0⟩,h⟩
theorem Mc (I:U W w (aW B k::L))(hk:WC k):Calls prog 153 #[pt B.cb] w λr V=>r=.returned (.tuple #[])∧U W V (aW B (kP k)::L):=by
 have eB:k.ps.length=k.n:=hk.ps;have hn:=hk.n;refine EN func153 ntmps153 rfl rfl λa E=>?_;refine RN 2 E I λa E=>?_;refine aR (λμ a w=>∃ (i:Nat),(μ=k.n-i∧i≤k.n)∧Fr a 68 [(0,pt B.cb),(2,.int .i64 i)]∧U W w (aW B (gk k i)::L)) (k.n) (⟨0,⟨rfl,by omega⟩,E.ab [0,2],I⟩) ?_;clear E I;rintro μ a w ⟨i,⟨rfl,hi⟩,E,I⟩;have jM:=hk.gk (i:=i) hi;have eH:=Ap k i;have uz:(gk k i).n=k.n:=by obtain⟨ps,ev,h1,_⟩:=x5 k i;rw[h1]
 have e6:gk k (i+1)=kO (gk k i) i:=rfl;rw[kO]at e6;generalize ng:gk k i=kk at I jM eH e6 uz;obtain⟨A,I⟩:=aW.open I;refine IF 9 E I (λaj a E=>?_) λaj a E=>?_
 ·
  have aJ:i<kk.ps.length:=by omega
  have ij:=jM.pq (i:=i) (by omega);have eX:=ur aJ;have fb:=jA AV (I.ai (b:=B.wb)) eX;rw[Nat.zero_add]at fb;refine RN 8 E I λa E=>?_;refine SS E (bT E underlying313 rfl Ty.t313 (fb)) λa E=>?_;refine AL 0 E I λb3 a w E I=>?_;refine SA 0 E I λa w E I=>?_;refine bQ 1 [19,20,29,30,34] [0,1,2,4,1003,5,1006,7,8,9,1010,11,12,13,14,16,17,18,3015,1019,1020,21,22,23,24,25,26,28,33,3027,3029,3030,31,3032,1034,35,36] E I λa w E I hH hC=>?_;have jw:Rd w B.cb 0 (cU kk B A):=I.ai (b:=B.cb);have wx:Rd w b3 0 (e4 (ar kk i)):=I.ai (b:=b3);have mQ:=I.bB (b:=B.xb) (aak eX);refine RH 4 E I hH hC λa E=>?_;refine SS E (ag E (jw 15 _ rfl)) λa E=>?_;refine RH 1 E I hH hC λa E=>?_;refine SS E (ag E (mQ)) λa E=>?_;refine RH 2 E I hH hC λa E=>?_;refine E.by (s:=28) (λfa E=>?_) (λfa E=>?_)
  ·
   refine RH 1 E I hH hC λa E=>?_;refine bE E (cS E rfl (s:=28)) (ag E (wx 0 _ rfl)) rfl λa E=>?_;refine RH 3 E I hH hC λa E=>?_;refine E.by (s:=33) (λm1 E=>?_) (λm1 E=>?_)
   ·
    refine RH 4 E I hH hC λa E=>?_;refine QH E (λw hc=>ag E (hc.cell (wx 0 _ rfl))) hC λa E=>?_;refine RH 0 E I hH hC λa E=>?_;refine bE E (cS E rfl (s:=33)) (ag E (jw 16 _ rfl)) rfl λa E=>?_;refine RH 4 E I hH hC λa E=>?_;refine E.by (s:=43) (λmf E=>?_) (λmf E=>?_)
    ·
     have lX:(ar kk i).frame-1<kk.mr.length:=by omega
     obtain⟨EK,EL,dQ,ll⟩:=(I.pick (Sl 100 1 A.ck kk.mr.length A.cM (c4 kk.mr))).bY A.ck (by omega);have x8:=jw 16 _ rfl;rw[dQ]at x8;refine RH 5 E I hH hC λa E=>?_;refine QH E (λw hc=>ag E (hc.cell (x8))) hC λa E=>?_;refine QH E (λw hc=>ag E (hc.cell (wx 0 _ rfl))) hC λa E=>?_;refine RH 1 E I hH hC λa E=>?_;rw[show (((ar kk i).frame:Nat):Int)-1=(((ar kk i).frame-1:Nat):Int) from by omega]at E;refine RH 1 E I hH hC λa E=>?_;refine QH E (λw hc=>ag E (hc.cell (ll ((ar kk i).frame-1) _ (Aw lX)))) hC λa E=>?_;refine RH 0 E I hH hC λa E=>?_;refine bE E (cS E rfl (s:=43)) (ag E (wx 1 _ rfl)) rfl λa E=>?_;refine RH 2 E I hH hC λa E=>?_;refine IF 0 E I (λao a E=>?_) λao a E=>?_
     ·
      refine RN 1 E I λa E=>?_;rw[ak ⟨fa,by omega,by omega,by omega⟩]at e6;refine ST 6 E I (λa w E I=>?_) (hlt:=(by rw[e0,bd];exact aJ));rw[show (e0 kk.ps).set i (.bool true)=e0 (kk.ps.set i { ar kk i with apart:=true }) from yp _ rfl,← FA eX { ar kk i with apart:=true } rfl,← FB eX { ar kk i with apart:=true } rfl,← FD eX { ar kk i with apart:=true } rfl rfl]at I;replace I:=aW.fold I B { kk with ps:=kk.ps.set i { ar kk i with apart:=true } } A;refine CL 4 E I (FG (kd:=3) (pl:=i) (fr:=(ar kk i).frame) I (by have:=jM.kQ;show kk.ev.length≤100;omega)) λa w E I=>?_;refine RN 3 E I λa E=>?_;exact⟨k.n-(i+1),by omega,i+1,⟨rfl,by omega⟩,E.ab [0,2],by rw[e6];exact I.sub⟩
     refine RN 3 E I λa E=>?_;rw[ae (λh=>by have:=h.2.2.2;omega)]at e6;exact⟨k.n-(i+1),by omega,i+1,⟨rfl,by omega⟩,E.ab [0,2],by rw[e6];exact (aW.fold I B kk A).sub⟩
    refine RH 13 E I hH hC λa E=>?_;refine RN 4 E I λa E=>?_;rw[ae (λh=>by have:=h.2.2.1;omega)]at e6;exact⟨k.n-(i+1),by omega,i+1,⟨rfl,by omega⟩,E.ab [0,2],by rw[e6];exact (aW.fold I B kk A).sub⟩
   refine RH 23 E I hH hC λa E=>?_;refine RN 4 E I λa E=>?_;rw[ae (λh=>by have:=h.2.1;omega)]at e6;exact⟨k.n-(i+1),by omega,i+1,⟨rfl,by omega⟩,E.ab [0,2],by rw[e6];exact (aW.fold I B kk A).sub⟩
  refine RH 28 E I hH hC λa E=>?_;refine RN 4 E I λa E=>?_;rw[ae (λh=>by have:=h.1;rw[fa]at this;cases this)]at e6;exact⟨k.n-(i+1),by omega,i+1,⟨rfl,by omega⟩,E.ab [0,2],by rw[e6];exact (aW.fold I B kk A).sub⟩
 refine RT 0 E I ?_;obtain rfl:i=k.n:=by omega
 refine⟨rfl,?_⟩;rw[kP,eB,ng];exact (aW.fold I B kk A).sub
theorem aap {s:Nat}(I:U W w (aW B k::L))(hk:WC k)(hl:k.mr.length<1000)(xv:s<4294967296):Calls prog 105 #[pt B.cb,.int .u32 s] w λr V=>r=.returned (.tuple #[])∧U W V (aW B (lg k s)::L):=by
 have x9 : WC { k with mr := k.mr ++ [s] } := { hk with
     mr:=by show (k.mr++[s]).length≤1000;rw[aL,iP];omega
     rf:=λx hx=>by
      rcases eM.1 hx with hx | hx
      ·exact hk.rf x hx
      ·rw[mem_singleton]at hx;rw[hx];exact xv }
 obtain⟨A,I⟩:=aW.open I;refine EN func105 ntmps105 rfl rfl λa E=>?_;refine RN 8 E I λa E=>?_;rw[dk (by omega)]at E;refine RN 7 E I λa E=>?_;refine cn E rfl I underlying69 Ty.t100 rfl rfl rfl rfl (by decide) (by decide) λuc a w E I ho=>?_;clear ho;refine RN 0 E I λa E=>?_;refine cI E rfl I underlying69 Ty.t100 rfl rfl I.ai rfl (by simp[Value.oneCell']) (by decide) (by decide) (by omega) λaaq c17 a w E I=>?_;rw[show c4 k.mr++_=c4 (k.mr++[s]) from by rw[c4,c4,cQ];rfl,show k.mr.length+1=(k.mr++[s]).length from by simp]at I;rw[show k.mr.length+1=(k.mr++[s]).length from by simp]at E;refine ST 2 E I (λa w E I=>?_);refine RN 0 E I λa E=>?_;replace I:=aW.fold I B { k with mr:=k.mr++[s] } { A with ck:=aaq,cM:=c17 };refine CL 1 E I (Mc I x9) λa w E I=>?_;refine RT 0 E I ?_;exact⟨rfl,by rw[lg,ak hl];exact I.sub⟩
theorem aar (I:U W w (aW B k::L))(hk:WC k):Calls prog 111 #[pt B.cb,.int .u8 (x.toNat:Nat)] w λr V=>r=.returned (.int .i64 (cW x k).1)∧U W V (aW B (cW x k).2::L):=by
 have dQ:k.me<k.ls.length:=by rw[hk.ls];exact hk.me
 have gJ:=hk.lM;have fo:=hk.nA;obtain⟨A0,I⟩:=aW.open I;refine EN func111 ntmps111 rfl rfl λa E=>?_;refine IF 9 E I (λaj a E=>?_) λaj a E=>?_
 ·
  replace I:=aW.fold I B k A0;refine RT 2 E I ?_;exact⟨by rw[cW,ak aj],by rw[cW,ak aj];exact I⟩
 have cg:¬ k.cl=true:=by rw[aj];decide
 replace I:=aW.fold I B k A0;refine CL 2 E I (rv I hk) λa w E I=>?_;refine IF 2 E I (λao a E=>?_) λao a E=>?_
 ·
  refine RT 2 E I ?_;exact⟨by rw[cW,ae cg,ak (by omega)],by rw[cW,ae cg,ak (by omega)];exact I⟩
 refine aZ 1 (λw0 V=>V.cell? ⟨B.cb,4,none⟩=some (.int .i64 k.bt)) [1,3,4] [0,2,5,6,7,8,3009,1001,1003,1004,10,11] E I λa w E I hH=>?_;have hC:w.cell? ⟨B.cb,4,none⟩=some (.int .i64 k.bt):=by
  obtain⟨A1,I⟩:=aW.open I;exact I.bB (b:=B.cb) rfl
 refine RH 6 E I hH hC λa E=>?_;refine QH E (λw hc=>ag E (hc)) hC λa E=>?_;refine RH 0 E I hH hC λa E=>?_;refine CL 0 E I (rv I hk) λa w E I=>?_;replace hC:=hH.at w (by obtain⟨A1,I⟩:=aW.open I;exact I.bB (b:=B.cb) rfl);refine RH 0 E I hH hC λa E=>?_;refine CL 0 E I (FF I hk) λa w E I=>?_;replace hC:=hH.at w (by obtain⟨A1,I⟩:=aW.open I;exact I.bB (b:=B.cb) rfl);refine RH 3 E I hH hC λa E=>?_;refine IF 0 E I (λay a E=>?_) λay a E=>?_
 ·
  refine RT 2 E I ?_;exact⟨by rw[cW,ae cg,ae (by omega),ak (by omega)],by rw[cW,ae cg,ae (by omega),ak (by omega)];exact I⟩
 refine RN 1 E I λa E=>?_;obtain⟨A,I⟩:=aW.open I;have uu:cW x k=(0,{ k with ls:=k.ls.set k.me (k.ls.getD k.me []++[x]) }):=by rw[cW,ae cg,ae (by omega),ae (by omega)]
 rw[uu];obtain⟨xs,a8,I⟩:=bL.open (I.pick (bL B.lb B.lo B.cL k.ls));have cj:xs.length=k.ls.length:=by rw[← a8,gK]
 obtain⟨y,hy⟩:∃ y,xs[k.me]?=some y:=⟨_,aI (by omega)⟩;obtain⟨yq,ym⟩:=a2.1 hy;have j3:k.ls.getD k.me []=y.2.2:=by rw[← a8,sZ hy]
 refine bQ 0 [8] [0,1,2,4,5,6,7,3003,1008,9,10] E I λa w E I hH hC=>?_;refine RH 11 E I hH hC λa E=>?_;refine RN 5 E I λa E=>?_;refine SS E (ag E ((I.cC B.lb B.lo (by omega)) k.me (aM y) (by rw[bm,hy];rfl))) λa E=>?_;rw[aM]at E;replace I:=(I.pick (ah a7 xs)).fE yq;rw[ym]at I;have gx:U W w (Sl 5 1 y.1 y.2.2.length y.2.1 (bc y.2.2)::_):=I;clear I;have I:=gx;clear gx;have Md:y.2.2.length≤1000:=by rw[← j3];exact gJ
 refine RN 1 E I λa E=>?_;refine cn E rfl I underlying22 Ty.t5 rfl rfl rfl rfl (by decide) (by decide) λb43 a w E I ho=>?_;clear ho;refine RN 0 E I λa E=>?_;refine cI E rfl I underlying22 Ty.t5 rfl rfl I.ai rfl (ep [x]) (by decide) (by decide) (by omega) λna kV a w E I=>?_;rw[show bc y.2.2++_=bc (y.2.2++[x]) from (fH _ [_]).symm,show y.2.2.length+1=(y.2.2++[x]).length from by simp]at I;rw[show y.2.2.length+1=(y.2.2++[x]).length from by simp]at E;refine RN 2 E I λa E=>?_;refine lT (off:=B.lo) (k:=k.me) E rfl I Ty.t22 rfl (by omega) (by rw[bd];exact yq) λa w E I=>?_;rw[show (xs.map aM).set k.me (.slice na (y.2.2++[x]).length kV)=(xs.set k.me (na,kV,y.2.2++[x])).map aM from yp _ rfl]at I;have h2:=I.arr (M:=[Sl 5 1 na (y.2.2++[x]).length kV (bc (y.2.2++[x])),ah a7 (xs.eraseIdx k.me)]);simp only[cons_append,nil_append]at h2;have h3:=U.ky (f:=a7) (x:=(na,kV,y.2.2++[x])) yq h2;have fe:(k.ls.set k.me (k.ls.getD k.me []++[x])).length=k.ls.length:=br;have a1:bj (xs.set k.me (na,kV,y.2.2++[x]))=k.ls.set k.me (k.ls.getD k.me []++[x]):=by rw[bj,map_set,← bj,a8,j3]
 have h4:=h3.arr (M:=[Sl 65 1 (some ⟨B.lb,B.lo,none⟩) k.ls.length B.cL ((xs.set k.me (na,kV,y.2.2++[x])).map aM),ah a7 (xs.set k.me (na,kV,y.2.2++[x]))]);simp only[cons_append,nil_append]at h4;rw[show k.ls.length=(k.ls.set k.me (k.ls.getD k.me []++[x])).length from fe.symm]at h4;have h5:=bL.close (xs:=xs.set k.me (na,kV,y.2.2++[x])) h4 a1;clear I;have I:=h5;rw[show cU k B A=cU { k with ls:=k.ls.set k.me (k.ls.getD k.me []++[x]) } B A from by simp only[cU,br]]at I;refine RT 2 E I ?_;exact⟨rfl,(aW.fold I B { k with ls:=k.ls.set k.me (k.ls.getD k.me []++[x]) } A).sub⟩
end
section
variable {W w:World}{L R:List SP}{n c m lb lo i f cl:Nat}{ad:Option Addr}{ls:List (List UInt8)}{k:Ks}{A:my}{B:oC}{x:UInt8}{bs:List UInt8}
theorem bL.out {ls:List (List UInt8)}(I:U W w (bL lb lo c ls::L))(hi:i<ls.length):∃ (xs:List ea) (y:ea),bj xs=ls∧xs[i]?=some y∧y.2.2=ls.getD i [] ∧
   U W w (Sl 5 1 y.1 y.2.2.length y.2.1 (bc y.2.2)::Sl 65 1 (some ⟨lb,lo,none⟩) ls.length c (xs.map aM)::ah a7 (xs.eraseIdx i)::L):=by
 obtain⟨xs,a8,I⟩:=bL.open I;have cj:xs.length=ls.length:=by rw[← a8,gK]
 have hy:xs[i]?=some xs[i]:=aI (by omega);refine⟨xs,xs[i],a8,hy,by have:=sZ hy;rw[a8]at this;exact this.symm,?_⟩;have h1:=(I.pick (ah a7 xs)).fE (i:=i) (by omega);exact U.sub (M:=a7 xs[i]::Sl 65 1 (some ⟨lb,lo,none⟩) ls.length c (xs.map aM)::ah a7 (xs.eraseIdx i)::L) h1
theorem bL.put {xs:List ea}{q:List UInt8}(I:U W w L)(a8:bj xs=ls)(hi:i<ls.length)[kk:fD L [Sl 5 1 ad q.length cl (bc q),Sl 65 1 (some ⟨lb,lo,none⟩) ls.length c ((xs.map aM).set i (.slice ad q.length cl)),ah a7 (xs.eraseIdx i)] R]:U W w (bL lb lo c (ls.set i q)::R):=by
 have cj:xs.length=ls.length:=by rw[← a8,gK]
 have h1:U W w (a7 (ad,cl,q)::Sl 65 1 (some ⟨lb,lo,none⟩) ls.length c ((xs.map aM).set i (.slice ad q.length cl))::ah a7 (xs.eraseIdx i)::R):=I.perm kk.perm;rw[show (xs.map aM).set i (.slice ad q.length cl)=(xs.set i (ad,cl,q)).map aM from yp _ rfl]at h1;have h2:=U.ky (f:=a7) (x:=(ad,cl,q)) (l:=xs) (i:=i) (by omega) (h1.sub (M:=a7 (ad,cl,q)::ah a7 (xs.eraseIdx i)::Sl 65 1 (some ⟨lb,lo,none⟩) ls.length c ((xs.set i (ad,cl,q)).map aM)::R));refine bL.close (xs:=xs.set i (ad,cl,q)) ?_ (by rw[bj,map_set,← bj,a8]);rw[br];exact h2.perm (List.Perm.swap _ _ _)
theorem bL.hd (I:U W w (bL lb lo c ls::L))(hi:i<ls.length):∃ ad c',w.cell? ⟨lb,lo+i,none⟩=some (.slice ad (ls.getD i []).length c'):=by
 obtain⟨xs,y,h1,h2,h3,h4⟩:=bL.out I hi;rw[← h3];exact⟨_,_,(h4.tail.cC lb lo (by omega)) i (aM y) (by rw[bm,h2];rfl)⟩
theorem aas {f:Nat}(I:U W w (bL lb lo c ls::L))(hi:i<ls.length)(hl:(ls.getD i []).length≤1000)(hb:bs.length≤65536)(hp:∀ V,U W V L→a6 V ad bs.length bs) :
   Calls prog 190 #[.pointer (some ⟨lb,lo+i,none⟩),.int .i64 f,.slice ad bs.length cl] w λr V=>∃ n er:Int,r=.returned (.tuple #[.int .i64 n,.int .i64 er])∧U W V (bL lb lo c (ls.set i (ds (ls.getD i []) f bs))::L):=by
 obtain⟨l0,ry⟩:∃ l0,l0=ls.getD i []:=⟨_,rfl⟩;rw[← ry];rw[← ry]at hl;have Me:ls.set i l0=ls:=by rw[ry];exact Kk
 refine EN func190 ntmps190 rfl rfl λa E=>?_;refine RN 7 E I λa E=>?_;rw[bn (by omega)]at E;refine RN 3 E I λa E=>?_;obtain⟨fS,ga,Mf⟩:=bL.hd I hi;rw[← ry]at Mf;refine RN 4 E I λa E=>?_;refine SS E (ag E (Mf)) λa E=>?_;refine IF 2 E I (λao a E=>?_) λao a E=>?_
 ·
  refine RT 3 E I ?_;exact⟨_,_,rfl,by rw[ds,ak (by omega),Me];exact I⟩
 refine RN 5 E I λa E=>?_;have gw:f≤l0.length:=by omega
 refine aR (λμ a w=>∃ (j:Nat) (q:List UInt8),(μ=bs.length-j∧j≤bs.length∧q=l0++(bs.drop (l0.length-f)).take (j-(l0.length-f))∧q.length=l0.length+(j-(l0.length-f))∧q.length≤1000)∧Fr a 57 [(0,.pointer (some ⟨lb,lo+i,none⟩)),(1,.int .i64 f),(2,.slice ad bs.length cl),(8,.int .i64 (j-(l0.length-f):Nat)),(9,.int .i64 j)]∧U W w (bL lb lo c (ls.set i q)::L)) (bs.length) (⟨0,l0,⟨rfl,by omega,by rw[Nat.zero_sub,take_zero,append_nil],by omega,hl⟩,by rw[Nat.zero_sub];exact E.ab [0,1,2,8,9],by rw[Me];exact I⟩) ?_;clear E I;rintro μ a w ⟨j,q,⟨rfl,hj,hq,SH,lE⟩,E,I⟩;refine IF 6 E I (λay a E=>?_) λay a E=>?_
 ·
  have dF:i<(ls.set i q).length:=by rw[br];exact hi
  have qc:(ls.set i q).getD i []=q:=by rw[bl,getElem?_set_self hi];rfl
  obtain⟨adq,cq,oB⟩:=bL.hd I dF;rw[qc]at oB;have Mg:j<bs.length:=by omega
  have sm:=(hp _ I.tail).get (by omega);refine RN 7 E I λa E=>?_;refine SS E (ag E (oB)) λa E=>?_;refine IF 4 E I (λbh a E=>?_) λbh a E=>?_
  ·
   refine RN 3 E I λa E=>?_;exact⟨bs.length-(j+1),by omega,j+1,q,⟨rfl,by omega,by rw[hq,show j-(l0.length-f)=0 from by omega,show j+1-(l0.length-f)=0 from by omega],by omega,lE⟩,by rw[show j+1-(l0.length-f)=j-(l0.length-f) from by omega];exact E.ab [0,1,2,8,9],I⟩
  refine RN 5 E I λa E=>?_;refine SS E (ag E (oB)) λa E=>?_;refine IF 2 E I (λbR a E=>?_) λbR a E=>?_
  ·
   refine RT 4 E I ?_;exact⟨_,_,rfl,by rw[ds,ae (by omega),show 1000-l0.length=j-(l0.length-f) from by omega,← hq];exact I⟩
  refine bQ 1 [8,9] [0,1,2,3,5,6,7,3004,1008,1009,1010,11,12,1013] E I λa w E I hH hC=>?_;obtain⟨bb,oo,rfl,_⟩:=sm;obtain⟨xs,y,a8,hy,uC,I⟩:=bL.out I dF;rw[qc]at uC;rw[uC]at I;have sP:=(I.tail.cC lb lo (by omega)) i (aM y) (by rw[bm,hy];rfl);rw[aM,uC]at sP;have z6:=(hp _ I.tail.tail.tail).rd (by omega);have yr:i<xs.length:=(a2.1 hy).1;replace hH:=Hd.gf I;refine RH 7 E I hH hC λa E=>?_;refine QH E (λw hc=>ag E (hc.cell (sP))) hC λa E=>?_;refine RH 0 E I hH hC λa E=>?_;refine SS E (ag E (z6 j _ (dO Mg))) λa E=>?_;refine RH 0 E I hH hC λa E=>?_;refine cn E rfl I underlying22 Ty.t5 rfl rfl rfl rfl (by decide) (by decide) λb50 a w E I ho=>?_;replace hC:=hC.trans ho;clear ho;refine RH 0 E I hH hC λa E=>?_;refine cI E rfl I underlying22 Ty.t5 rfl rfl I.ai rfl (ep [bs[j]]) (by decide) (by decide) (by omega) λJU JV a w E I=>?_;rw[show bc q++_=bc (q++[bs[j]]) from (fH _ [_]).symm,show q.length+1=(q++[bs[j]]).length from by simp]at I;rw[show q.length+1=(q++[bs[j]]).length from by simp]at E;refine RN 2 E I λa E=>?_;refine lT (off:=lo) (k:=i) E rfl I Ty.t22 rfl (by omega) (by rw[bd];exact yr) λa w E I=>?_;refine RN 6 E I λa E=>?_;have h9:=bL.put (q:=q++[bs[j]]) (ad:=JU) (cl:=JV) (lb:=lb) (lo:=lo) (c:=c) I a8 dF;rw[set_set]at h9;exact⟨bs.length-(j+1),by omega,j+1,q++[bs[j]],⟨rfl,by omega,by rw[J7 gw Mg (by omega) (by omega),← hq],by rw[aL,iP];omega,by rw[aL,iP];omega⟩,by rw[show ((j+1-(l0.length-f):Nat):Int)=((j-(l0.length-f):Nat):Int)+1 from by omega];exact E.ab [0,1,2,8,9],h9.sub⟩
 refine RT 4 E I ?_;obtain rfl:j=bs.length:=by omega
 refine⟨_,_,rfl,?_⟩;rw[ds,ae (by omega),fX (by rw[c6];omega)];rw[hq,fX (by rw[c6];omega)]at I;exact I
abbrev yt (n me:Nat)(id:Int)(aK bt:Nat)(ba order ct workers room:Int)(b8 iw eI hZ:Nat)(ad:Option Addr)(i c:Nat):List Value:=[.int .i64 n,.int .i64 me,.int .i64 id,.int .i64 aK,.int .i64 bt,.int .i64 ba,.int .i64 order,.int .i64 ct,.int .i64 workers,.int .i64 room,.slice ad i c,.int .i64 0,.slice (some ⟨b8,0,none⟩) n n,.slice (some ⟨iw,0,none⟩) n n,.slice (some ⟨eI,0,none⟩) n n,.slice (some ⟨hZ,0,none⟩) n n,.slice none 0 0,.slice none 0 0,.bool false]
theorem aat (n d:Nat):eZ (List.replicate n (fw d))=ints .i64 n (λ_=>0):=by rw[eZ,map_replicate];exact qj _ _ _
theorem aau (n d:Nat):eO (List.replicate n (fw d))=ints .i64 n (λ_=>d):=by rw[eO,map_replicate];exact qj _ _ _
theorem aav (n d:Nat):e0 (List.replicate n (fw d))=List.replicate n (.bool false):=by rw[e0,map_replicate];rfl
theorem aaw (n d:Nat):rows e4 (List.replicate n (fw d))=rows (λ_:Pe=>[Value.int .i64 0,.int .u32 0]) (List.replicate n (fw 0)):=by
 induction n with
 | zero=>rfl
 | succ n ih=>rw[List.replicate_succ,List.replicate_succ,nO,nO,ih];rfl
theorem aax (d:Nat):List.replicate d (Value.int .u8 0)=bc (List.replicate d 0):=by rw[bc,map_replicate];rfl
set_option maxHeartbeats 4000000 in
theorem aay {n me aK bt:Nat}{id ba order ct workers room:Int}(I:U W w L)(h:eN ⟨n,me,id,aK,bt,ba,order,ct,workers,room⟩) :
   Calls prog 65 #[.agg (cc ⟨n,me,id,aK,bt,ba,order,ct,workers,room⟩).toArray] w λr V=>∃ B:oC,r=.returned (pt B.cb)∧U W V (aW B (fg ⟨n,me,id,aK,bt,ba,order,ct,workers,room⟩)::L):=by
 obtain⟨⟨h1,h2,h3⟩,⟨h4,h5,h6,h7⟩,h8,h9,fF,mO⟩:=h;simp only[fv] at *;refine EN func65 ntmps65 rfl rfl λa E=>?_;refine BX 1 E I λb1 a w E I=>?_;change U W w (aa b1 28 [.int .i64 n,.int .i64 me,.int .i64 id,.int .i64 aK,.int .i64 bt,.int .i64 ba,.int .i64 order,.int .i64 ct,.int .i64 workers,.int .i64 room]::_) at I;refine RN 1 E I λa E=>?_;refine b7 (M:=λa w=>∃ b8 iw eI hZ mP:Nat,Fr a 48 [(1,pt b1),(3,pt mP)]∧U W w (aa mP 72 [.int .i64 n,.int .i64 me,.int .i64 id,.int .i64 aK,.int .i64 bt,.int .i64 ba,.int .i64 order,.int .i64 ct,.int .i64 workers,.int .i64 room,.slice none 0 0,.int .i64 0,.slice (some ⟨b8,0,none⟩) n n,.slice (some ⟨iw,0,none⟩) n n,.slice (some ⟨eI,0,none⟩) n n,.slice (some ⟨hZ,0,none⟩) n n,.slice none 0 0,.slice none 0 0,.bool false]::aa b8 3 (List.replicate n (.int .i64 0))::aa iw 3 (List.replicate n (.int .i64 0))::aa eI 313 (rows (λ_:Pe=>[Value.int .i64 0,.int .u32 0]) (List.replicate n (fw 0)))::aa hZ 4 (List.replicate n (.bool false))::aa b1 28 [.int .i64 n,.int .i64 me,.int .i64 id,.int .i64 aK,.int .i64 bt,.int .i64 ba,.int .i64 order,.int .i64 ct,.int .i64 workers,.int .i64 room]::L)) ?_ ?_
 ·
  refine bQ 0 [2,3,5,6,8,9,11,12] [1,4,7,10,3000,3002,3005,3008,3011,2003,2006,2009,1012,13,1014,15] E I λa w E I hH hC=>?_;refine RH 9 E I hH hC λa E=>?_;refine DN [(3,[2006,2009,1012,13,1014,15]),(6,[2003,2009,1012,13,1014,15]),(9,[2003,2006,1012,13,1014,15]),(12,[2003,2006,1009,13,1014,15])] (by kernel_rfl) rfl ⟨⟨_,rfl,?_⟩,⟨_,rfl,?_⟩,⟨_,rfl,?_⟩,⟨_,rfl,?_⟩,trivial⟩
  all_goals repeat' first
   | (refine RH 0 E I hH hC λa E=>?_;(first | refine qA E rfl I underlying53 Ty.t3 rfl (by omega) (by omega) λb8 a w (E:Fr a 48 ((8,_)::_)) I ho=>?_ | refine qA E rfl I underlying53 Ty.t3 rfl (by omega) (by omega) λiw a w (E:Fr a 48 ((11,_)::_)) I ho=>?_ | refine qA E rfl I underlying67 Ty.t313 rfl (by omega) (by omega) λeI a w E I ho=>?_ | refine qA E rfl I underlying68 Ty.t4 rfl (by omega) (by omega) λhZ a w E I ho=>?_);replace hC:=hC.trans ho;clear ho;(first | rw[AU _ rfl]at I | rw[aai]at I))
   | (refine RH 1 E I hH hC λa E=>?_;refine wP E rfl I rfl λmP a w E I ho=>?_;replace hC:=hC.trans ho;clear ho;refine RH 1 E I hH hC λa E=>?_;exact⟨b8,iw,eI,hZ,mP,E.ab [1,3],I.sub⟩)
   | (refine RH 0 E I hH hC λa E=>?_;(first | (have q:=(iw,eI);clear q;refine DN [(3,[1012,13,1014,15]),(12,[1003,13,1014,15])] (by kernel_rfl) rfl ⟨⟨_,rfl,?_⟩,⟨_,rfl,?_⟩,trivial⟩) | (have q:=(iw,hZ);clear q;refine DN [(3,[1009,13,1014,15]),(9,[1003,13,1014,15])] (by kernel_rfl) rfl ⟨⟨_,rfl,?_⟩,⟨_,rfl,?_⟩,trivial⟩) | (have q:=(eI,hZ);clear q;refine DN [(3,[1006,13,1014,15]),(6,[1003,13,1014,15])] (by kernel_rfl) rfl ⟨⟨_,rfl,?_⟩,⟨_,rfl,?_⟩,trivial⟩) | (have q:=(b8,iw);clear q;refine DN [(9,[1012,13,1014,15]),(12,[1009,13,1014,15])] (by kernel_rfl) rfl ⟨⟨_,rfl,?_⟩,⟨_,rfl,?_⟩,trivial⟩) | (have q:=(b8,eI);clear q;refine DN [(6,[1012,13,1014,15]),(12,[1006,13,1014,15])] (by kernel_rfl) rfl ⟨⟨_,rfl,?_⟩,⟨_,rfl,?_⟩,trivial⟩) | (have q:=(b8,hZ);clear q;refine DN [(6,[1009,13,1014,15]),(9,[1006,13,1014,15])] (by kernel_rfl) rfl ⟨⟨_,rfl,?_⟩,⟨_,rfl,?_⟩,trivial⟩) | (have q:=iw;clear q;refine DN [(3,[2009,1012,13,1014,15]),(9,[2003,1012,13,1014,15]),(12,[2003,1009,13,1014,15])] (by kernel_rfl) rfl ⟨⟨_,rfl,?_⟩,⟨_,rfl,?_⟩,⟨_,rfl,?_⟩,trivial⟩) | (have q:=eI;clear q;refine DN [(3,[2006,1012,13,1014,15]),(6,[2003,1012,13,1014,15]),(12,[2003,1006,13,1014,15])] (by kernel_rfl) rfl ⟨⟨_,rfl,?_⟩,⟨_,rfl,?_⟩,⟨_,rfl,?_⟩,trivial⟩) | (have q:=hZ;clear q;refine DN [(3,[2006,1009,13,1014,15]),(6,[2003,1009,13,1014,15]),(9,[2003,1006,13,1014,15])] (by kernel_rfl) rfl ⟨⟨_,rfl,?_⟩,⟨_,rfl,?_⟩,⟨_,rfl,?_⟩,trivial⟩) | (have q:=b8;clear q;refine DN [(6,[2009,1012,13,1014,15]),(9,[2006,1012,13,1014,15]),(12,[2006,1009,13,1014,15])] (by kernel_rfl) rfl ⟨⟨_,rfl,?_⟩,⟨_,rfl,?_⟩,⟨_,rfl,?_⟩,trivial⟩)))
 clear E;(try clear I);rintro a w ⟨b8,iw,eI,hZ,mP,E,I⟩;refine RN 3 E I λa E=>?_;replace I:=I.bM 65 1 none;replace I:=U.iI (f:=a7) I;rw[qj]at I;refine aR (λμ a w=>∃ (i:Nat) (xs:List ea) (adL:Option Addr) (cL:Nat),(μ=n-i∧i≤n∧bj xs=List.replicate i (List.replicate aK 0))∧Fr a 48 [(1,pt b1),(3,pt mP),(4,.int .i64 i)]∧U W w (aa mP 72 (yt n me id aK bt ba order ct workers room b8 iw eI hZ adL i cL)::Sl 65 1 adL i cL (xs.map aM)::ah a7 xs::aa b8 3 (ints .i64 n (λ_=>0))::aa iw 3 (ints .i64 n (λj=>if j<i then aK else 0))::aa eI 313 (rows (λ_:Pe=>[Value.int .i64 0,.int .u32 0]) (List.replicate n (fw 0)))::aa hZ 4 (List.replicate n (.bool false))::aa b1 28 [.int .i64 n,.int .i64 me,.int .i64 id,.int .i64 aK,.int .i64 bt,.int .i64 ba,.int .i64 order,.int .i64 ct,.int .i64 workers,.int .i64 room]::L)) (n) (⟨0,[],none,0,⟨rfl,by omega,rfl⟩,E.ab [1,3,4],(I.sub:U W w (aa mP 72 (yt n me id aK bt ba order ct workers room b8 iw eI hZ none 0 0)::Sl 65 1 none 0 0 []::ah a7 []::aa b8 3 (ints .i64 n (λ_=>0))::aa iw 3 (ints .i64 n (λ_=>0))::aa eI 313 (rows (λ_:Pe=>[Value.int .i64 0,.int .u32 0]) (List.replicate n (fw 0)))::aa hZ 4 (List.replicate n (.bool false))::aa b1 28 [.int .i64 n,.int .i64 me,.int .i64 id,.int .i64 aK,.int .i64 bt,.int .i64 ba,.int .i64 order,.int .i64 ct,.int .i64 workers,.int .i64 room]::L))⟩) ?_;clear E I;rintro μ a w ⟨i,xs,adL,cL,⟨rfl,hi,a8⟩,E,I⟩;refine IF 6 E I (λaj a E=>?_) λaj a E=>?_
 ·
  refine bQ 2 [6,7,8,9] [0,1,2,3,5,3004,1006,1007,1008,1009,1010,11,12,1013] E I λa w E I hH hC=>?_;refine RH 7 E I hH hC λa E=>?_;refine qA E rfl I underlying22 Ty.t5 rfl (by omega) (by omega) λjY a w E I ho=>?_;replace hC:=hC.trans ho;clear ho;rw[AU _ rfl,aax]at I;replace I:=I.Kd (m:=aK) (sz:=1) (by rw[dw,jK,Nat.mul_one]);refine RH 1 E I hH hC λa E=>?_;refine cn E rfl I underlying66 Ty.t65 rfl rfl rfl rfl (by decide) (by decide) λb35 a w E I ho=>?_;replace hC:=hC.trans ho;clear ho;refine RH 0 E I hH hC λa E=>?_;refine cI E rfl I underlying66 Ty.t65 rfl rfl I.ai rfl (by simp[Value.oneCell']) (by decide) (by decide) (by omega) λFJ FK a w E I=>?_;rw[show List.map aM xs++_=List.map aM (xs++[(some (⟨jY,0,none⟩:Addr),aK,List.replicate aK 0)]) from by rw[cQ,map_singleton,aM,jK];rfl]at I;refine ST 2 E I (λa w E I=>?_);refine RN 0 E I λa E=>?_;refine bQ 0 [6] [0,1,2,4,5,3003,1006,7,1008] E I λa w E I hH hC=>?_;refine RH 8 E I hH hC λa E=>?_;refine ST 0 E I (λa w E I=>?_) (hlt:=(by rw[df];omega));rw[ints_set,wW (g:=λj=>if j=i then (aK:Int) else if j<i then (aK:Int) else 0) (g':=λj=>if j<i+1 then (aK:Int) else 0) (λj _=>by
   by_cases h1:j=i
   ·subst h1;simp
   ·by_cases h2:j<i
    ·simp[h1,h2,show j<i+1 from by omega]
    ·simp[h1,h2,show ¬ j<i+1 from by omega])]at I
  refine RN 3 E I λa E=>?_;have dx:=U.jG (f:=a7) (x:=(some (⟨jY,0,none⟩:Addr),aK,List.replicate aK 0)) (by
   show U _ _ (Sl 5 1 (some (⟨jY,0,none⟩:Addr)) (List.replicate aK (0:UInt8)).length aK (bc (List.replicate aK 0))::_);rw[jK];exact I.sub (M:=Sl 5 1 (some ⟨jY,0,none⟩) aK aK (bc (List.replicate aK 0))::ah a7 xs::aa mP 72 (yt n me id aK bt ba order ct workers room b8 iw eI hZ FJ (i+1) FK)::Sl 65 1 FJ (i+1) FK ((xs++[(some (⟨jY,0,none⟩:Addr),aK,List.replicate aK 0)]).map aM)::aa b8 3 (ints .i64 n (λ_=>0))::aa iw 3 (ints .i64 n (λj=>if j<i+1 then (aK:Int) else 0))::aa eI 313 (rows (λ_:Pe=>[Value.int .i64 0,.int .u32 0]) (List.replicate n (fw 0)))::aa hZ 4 (List.replicate n (.bool false))::aa b1 28 [.int .i64 n,.int .i64 me,.int .i64 id,.int .i64 aK,.int .i64 bt,.int .i64 ba,.int .i64 order,.int .i64 ct,.int .i64 workers,.int .i64 room]::L))
  exact⟨n-(i+1),by omega,i+1,xs++[(some (⟨jY,0,none⟩:Addr),aK,List.replicate aK 0)],FJ,FK,⟨rfl,by omega,by rw[bj,cQ,← bj,a8,replicate_succ'];rfl⟩,E.ab [1,3,4],dx.sub⟩
 refine RT 3 E I ?_;obtain rfl:i=n:=by omega
 obtain⟨lb,lo,rfl,_⟩:=(I.pick (Sl 65 1 adL i cL (xs.map aM))).bY adL (by omega);rw[wW (g:=λj=>if j<i then (aK:Int) else 0) (g':=λ_=>(aK:Int)) (λj hj=>by simp[hj])]at I;refine⟨⟨mP,lb,lo,cL,b8,iw,eI,hZ⟩,rfl,?_⟩;have ib:(fg ⟨i,me,id,aK,bt,ba,order,ct,workers,room⟩).ls.length=i:=by simp[fg]
 have h9:=I.sub (M:=Sl 65 1 (some ⟨lb,lo,none⟩) i cL (xs.map aM)::ah a7 xs::aa mP 72 (yt i me id aK bt ba order ct workers room b8 iw eI hZ (some ⟨lb,lo,none⟩) i cL)::aa b8 3 (ints .i64 i (λ_=>0))::aa iw 3 (ints .i64 i (λ_=>(aK:Int)))::aa eI 313 (rows (λ_:Pe=>[Value.int .i64 0,.int .u32 0]) (List.replicate i (fw 0)))::aa hZ 4 (List.replicate i (.bool false))::L);have h8:=bL.close (ls:=List.replicate i (List.replicate aK 0)) (by rw[jK];exact h9) a8;replace h8:=U.bM (U.bM h8 100 1 none) 102 3 none;refine U.shut (M:=[_,_,_,_,_,_,_,_]) (A:=aW _ _) ?_ (λ_ h=>⟨⟨none,0,none,0⟩,h⟩);have gz:(fg ⟨i,me,id,aK,bt,ba,order,ct,workers,room⟩).ps=List.replicate i (fw aK):=by simp[fg]
 rw[cU,ib,gz,aat,aau,aav,aaw];exact h8.sub (M:=aa mP 72 (yt i me id aK bt ba order ct workers room b8 iw eI hZ (some ⟨lb,lo,none⟩) i cL)::bL lb lo cL (List.replicate i (List.replicate aK 0))::aa b8 3 (ints .i64 i (λ_=>0))::aa iw 3 (ints .i64 i (λ_=>(aK:Int)))::aa eI 313 (rows (λ_:Pe=>[Value.int .i64 0,.int .u32 0]) (List.replicate i (fw 0)))::aa hZ 4 (List.replicate i (.bool false))::Sl 100 1 none 0 0 []::Sl 102 3 none 0 0 []::L)
end
section
variable {W w:World}{L L':List SP}{n c m lb lo i f cl:Nat}{ad:Option Addr}{ls:List (List UInt8)}{k:Ks}{A:my}{B:oC}{x:UInt8}
theorem Mh {fr m aT cq:Nat}{adq:Option Addr}{q:List UInt8}(I:U W w L)(oB:w.cell? ⟨lb,aT,none⟩=some (.slice adq q.length cq))(hqc:q.length≤cq)(pC:∀ V,U W V L→a6 V adq q.length q)(hl:q.length≤1000)(hf:fr≤1000)(hk:1≤m∧m≤1000) :
   Calls prog 113 #[.pointer (some ⟨lb,aT,none⟩),.int .i64 fr,.int .i64 m] w λr V=>∃ av c',r=.returned (.slice av ((q.drop fr).take m).length c')∧U W V (Sl 5 1 av ((q.drop fr).take m).length c' (bc ((q.drop fr).take m))::L):=by
 refine EN func113 ntmps113 rfl rfl λa E=>?_;refine RN 7 E I λa E=>?_;rw[bn (by omega)]at E;refine RN 4 E I λa E=>?_;refine bE E (cS E rfl (s:=10)) (ag E (oB)) rfl λa E=>?_;refine BY 4 E I (λkG a E=>?_) λkG a E=>?_
 ·
  refine RT 6 E I ?_;have hz:(q.drop fr).take m=[]:=by rw[drop_eq_nil_of_le (by omega),List.take_nil]
  rw[hz];exact⟨none,0,rfl,I.bM _ _ none⟩
 refine RN 3 E I λa E=>?_;rw[bn (by omega)]at E;refine RN 5 E I λa E=>?_;refine SS E (ag E (oB)) λa E=>?_;refine RN 9 E I λa E=>?_;rw[show min (m:Int) ((((q.length-fr:Nat):Int)))=((min m (q.length-fr):Nat):Int) from by omega]at E;refine RN 1 E I λa E=>?_;rw[qG,Nat.sub_zero,Nat.sub_zero]at E;have yu:=((pC _ I).xY (c:=cq) (lo:=fr) (n:=min m (q.length-fr)) (by omega) hqc);have hte:(q.drop fr).take (min m (q.length-fr))=(q.drop fr).take m:=by rw[List.take_eq_take_iff,c6];omega
 rw[hte]at yu;have eJ:min m (q.length-fr)=((q.drop fr).take m).length:=by rw[et,c6]
 rw[eJ]at E yu;replace I:=I.bM 5 1 none;refine gV E rfl I underlying22 Ty.t5 rfl rfl (by decide) (λh0=>yu.get h0) (by rw[dw];omega) (ep _) (by rw[et,c6];omega) λD4 D5 a w E I=>?_;rw[nil_append,Nat.zero_add]at I;rw[Nat.zero_add]at E;refine RT 1 E I ?_;exact⟨_,_,rfl,I⟩
theorem aW.AX (I:U W w (aW B k::L)):∃ (A:my) (D:SP),U W w (aa B.cb 72 (cU k B A)::D::L)∧∀ (V:World) (L':List SP) (nw:Nat) (cl:Bool),U W V (aa B.cb 72 (cU { k with now:=nw,cl:=cl } B A)::D::L')→U W V (aW B { k with now:=nw,cl:=cl }::L'):=by
 obtain⟨A,I⟩:=aW.open I;have h1:U W w ([bL B.lb B.lo B.cL k.ls,aa B.hb 3 (eZ k.ps),aa B.dV 3 (eO k.ps),aa B.wb 313 (rows e4 k.ps),aa B.xb 4 (e0 k.ps),Sl 100 1 A.ck k.mr.length A.cM (c4 k.mr),Sl 102 3 A.adE k.ev.length A.cE (rows bW k.ev)]++(aa B.cb 72 (cU k B A)::L)):=I.sub (M:=bL B.lb B.lo B.cL k.ls::aa B.hb 3 (eZ k.ps)::aa B.dV 3 (eO k.ps)::aa B.wb 313 (rows e4 k.ps)::aa B.xb 4 (e0 k.ps)::Sl 100 1 A.ck k.mr.length A.cM (c4 k.mr)::Sl 102 3 A.adE k.ev.length A.cE (rows bW k.ev)::aa B.cb 72 (cU k B A)::L);refine⟨A,λh=>cm [bL B.lb B.lo B.cL k.ls,aa B.hb 3 (eZ k.ps),aa B.dV 3 (eO k.ps),aa B.wb 313 (rows e4 k.ps),aa B.xb 4 (e0 k.ps),Sl 100 1 A.ck k.mr.length A.cM (c4 k.mr),Sl 102 3 A.adE k.ev.length A.cE (rows bW k.ev)] h,?_,λV L' nw cl I=>?_⟩
 ·exact (U.shut (A:=λh=>cm [bL B.lb B.lo B.cL k.ls,aa B.hb 3 (eZ k.ps),aa B.dV 3 (eO k.ps),aa B.wb 313 (rows e4 k.ps),aa B.xb 4 (e0 k.ps),Sl 100 1 A.ck k.mr.length A.cM (c4 k.mr),Sl 102 3 A.adE k.ev.length A.cE (rows bW k.ev)] h) h1 λ_ h=>h).perm (List.Perm.swap _ _ _)
 ·have h2:U W V (bL B.lb B.lo B.cL k.ls::aa B.hb 3 (eZ k.ps)::aa B.dV 3 (eO k.ps)::aa B.wb 313 (rows e4 k.ps)::aa B.xb 4 (e0 k.ps)::Sl 100 1 A.ck k.mr.length A.cM (c4 k.mr)::Sl 102 3 A.adE k.ev.length A.cE (rows bW k.ev)::aa B.cb 72 (cU { k with now:=nw,cl:=cl } B A)::L'):=(I.perm (List.Perm.swap _ _ _)).open (M:=[_,_,_,_,_,_,_]) λ_ h=>h;exact aW.fold h2 B { k with now:=nw,cl:=cl } A
def wy (k:Ks)(i:Nat):List Ml:=(kS k i).map λj=>(k.me,j,aS (gl k j))
def wz (k:Ks)(i:Nat):List Ml:=(kS k i).map λj=>(k.me,j,aS (dP k j))
theorem aaz (I:U W w (aW B k::L))(hk:WC k):Calls prog 74 #[pt B.cb] w λr V=>∃ ad c,r=.returned (.slice ad (bu k).1.length c)∧U W V (cu 60 ad (bu k).1.length c (bu k).1::aW B (bu k).2::L):=by
 have hn:=hk.n;obtain⟨A,D,I,hD⟩:=aW.AX I;refine EN func74 ntmps74 rfl rfl λa E=>?_;refine IF 8 E I (λaj a E=>?_) λaj a E=>?_
 ·
  refine RT 2 E I ?_;refine⟨none,0,by rw[bu,ak aj];rfl,?_⟩;rw[bu,ak aj];exact cu.nil (hD _ _ k.now k.cl I)
 refine RN 5 E I λa E=>?_;have hq:bu k=((bH k).map λi=>(k.me,i,aS (gl k i)),{ k with cl:=true }):=by rw[bu,ae (by rw[aj];decide)]
 replace I:=U.bM (U.iI (f:=b0) I) 60 3 none;refine aR (λμ a w=>∃ (i:Nat) (xs:List Mx) (ad:Option Addr) (c:Nat),(μ=k.n-i∧i≤k.n∧xs.map (·.2.2)=wy k i∧xs.length≤i)∧Fr a 52 [(0,pt B.cb),(3,.slice ad xs.length c),(4,.int .i64 i)]∧U W w (Sl 60 3 ad xs.length c (rows bZ xs)::ah b0 xs::aa B.cb 72 (cU k B A)::D::L)) (k.n) (⟨0,[],none,0,⟨rfl,by omega,rfl,bf _⟩,E.ab [0,3,4],I⟩) ?_;clear E I;rintro μ a w ⟨i,xs,ad,c,⟨rfl,hi,eC,cj⟩,E,I⟩;refine IF 9 E I (λao a E=>?_) λao a E=>?_
 ·
  have ln:wy k (i+1)=if i=k.me then wy k i else wy k i++[(k.me,i,aS (gl k i))]:=by
   rw[wy,EO];split
   ·rfl
   ·rw[cQ];rfl
  refine IF 9 E I (λay a E=>?_) λay a E=>?_
  ·
   rw[ae (by omega)]at ln;refine aZ 0 (λw0 V=>Rd V B.cb 0 (cU k B A)) [11,17,18,19] [0,1,2,3,4,6,7,8,9,10,12,13,14,15,16,3005,3011,1017,1018,1019,20,1021,1022,23] E I λa w E I hH=>?_;have hC:=hH.at w (I.ai (b:=B.cb));refine RH 15 E I hH hC λa E=>?_;refine QH E (λw hc=>ag E (hc 1 _ rfl)) hC λa E=>?_;refine QH E (λw hc=>ag E (hc 1 _ rfl)) hC λa E=>?_;refine RH 0 E I hH hC λa E=>?_;refine SS E (ag E (hC 2 _ rfl)) λa E=>?_;refine RH 1 E I hH hC λa E=>?_;refine aY 0 E I (Ei (p:=gl k i) (ad:=none) (c:=0) I (by show 0<4294967296;decide) (λV hw=>a6.nil)) λad2 c2 a w E I=>?_;replace hC:=hH.at w (I.ai (b:=B.cb));refine RH 1 E I hH hC λa E=>?_;refine cn E rfl I underlying37 Ty.t60 rfl rfl rfl rfl (by decide) (by decide) λb46 a w E I ho=>?_;clear ho;refine RN 0 E I λa E=>?_;refine cI E rfl I underlying37 Ty.t60 rfl rfl I.ai rfl (by simp[Value.oneCell']) (by decide) (by decide) (by omega) λpo q7 a w E I=>?_;rw[show rows bZ xs++_=rows bZ (xs++[(ad2,c2,(k.me,i,aS (gl k i)))]) from by rw[j9];rfl,show xs.length+1=(xs++[(ad2,c2,(k.me,i,aS (gl k i)))]).length from by simp]at I;rw[show xs.length+1=(xs++[(ad2,c2,(k.me,i,aS (gl k i)))]).length from by simp]at E;refine RN 1 E I λa E=>?_;refine RN 3 E I λa E=>?_;have dx:=U.jG (f:=b0) (x:=(ad2,c2,(k.me,i,aS (gl k i)))) (I.sub (M:=Sl 5 1 ad2 (aS (gl k i)).length c2 (bc (aS (gl k i)))::ah b0 xs::Sl 60 3 po (xs++[(ad2,c2,(k.me,i,aS (gl k i)))]).length q7 (rows bZ (xs++[(ad2,c2,(k.me,i,aS (gl k i)))]))::aa B.cb 72 (cU k B A)::D::L));exact⟨k.n-(i+1),by omega,i+1,xs++[(ad2,c2,(k.me,i,aS (gl k i)))],po,q7,⟨rfl,by omega,by rw[cQ,eC,ln];rfl,by rw[aL];simp;omega⟩,E.ab [0,3,4],dx.sub⟩
  rw[ak (by omega)]at ln;refine RN 3 E I λa E=>?_;exact⟨k.n-(i+1),by omega,i+1,xs,ad,c,⟨rfl,by omega,by rw[ln,eC],by omega⟩,E.ab [0,3,4],I⟩
 obtain rfl:i=k.n:=by omega
 refine ST 4 E I (λa w E I=>?_);refine RT 3 E I ?_;have ib:xs.length=((bH k).map λi=>(k.me,i,aS (gl k i))).length:=by
  have h1:(xs.map (·.2.2)).length=(wy k k.n).length:=by rw[eC]
  rw[bd]at h1;exact h1
 rw[hq];refine⟨ad,c,by rw[ib],?_⟩;rw[ib]at I;have h5:=hD _ _ k.now true (I.sub (M:=aa B.cb 72 (cU { k with now:=k.now,cl:=true } B A)::D::Sl 60 3 ad ((bH k).map λi=>(k.me,i,aS (gl k i))).length c (rows bZ xs)::ah b0 xs::L));exact cu.close (xs:=xs) h5.sub eC rfl
theorem aaA {k:Ks}{i:Nat}(h1:∀ j,j<i→j≠k.me→¬ jg k j)(hi:i<k.n)(hm:i≠k.me)(hl:jg k i):(bH k).find? (λi=>decide (jg k i))=some i:=by
 rw[bH,List.find?_filter,List.find?_range_eq_some];refine⟨by simp[hm,hl],by simpa using hi,λj hj=>?_⟩;by_cases uy:j=k.me
 ·simp[uy]
 ·simp[h1 j hj uy]
theorem aaB {k:Ks}(h1:∀ j,j<k.n→j≠k.me→¬ jg k j):(bH k).find? (λi=>decide (jg k i))=none :=
 KQ λj hj=>bn (h1 j (um.1 hj).1 (um.1 hj).2)
set_option maxHeartbeats 2000000 in
theorem aaC (I:U W w (aW B k::L))(hk:WC k)(oQ:k.now≤1000000):Calls prog 73 #[pt B.cb] w λr V=>∃ ad c,r=.returned (.slice ad (bo k).1.length c)∧U W V (cu 60 ad (bo k).1.length c (bo k).1::aW B (bo k).2::L):=by
 have hn:=hk.n;obtain⟨A0,D,I,hD⟩:=aW.AX I;refine EN func73 ntmps73 rfl rfl λa E=>?_;refine IF 8 E I (λaj a E=>?_) λaj a E=>?_
 ·
  refine RT 2 E I ?_;refine⟨none,0,by rw[bo,ak aj];rfl,?_⟩;rw[bo,ak aj];exact cu.nil (hD _ _ k.now k.cl I)
 have hY:bo k=(match (bH { k with now:=k.now+1 }).find? (λi=>decide (jg { k with now:=k.now+1 } i)) with
  | some i=>([],{ ({ k with now:=k.now+1 }:Ks) with ev:=({ k with now:=k.now+1 }:Ks).ev++[(2,i,0)],cl:=true })
  | none=>((bH { k with now:=k.now+1 }).map λi=>(({ k with now:=k.now+1 }:Ks).me,i,aS (dP { k with now:=k.now+1 } i)),{ k with now:=k.now+1 })):=by rw[bo,ae (by rw[aj];decide)];rfl
 refine RN 6 E I λa E=>?_;rw[show ((k.now:Nat):Int)+1=((k.now+1:Nat):Int) from by omega]at E;refine ST 2 E I (λa w E I=>?_);refine RN 0 E I λa E=>?_;replace I:=hD _ _ (k.now+1) k.cl I;clear hD;have eS:WC { k with now:=k.now+1 }:=hk.Ar;have py:=hk.kQ;have ES:({ k with now:=k.now+1 }:Ks).now≤1000001:=by show k.now+1≤_;omega
 have ET:({ k with now:=k.now+1 }:Ks).ev.length≤9:=py;have EU:2≤({ k with now:=k.now+1 }:Ks).n∧({ k with now:=k.now+1 }:Ks).n≤8:=hn;have aaD:({ k with now:=k.now+1 }:Ks).cl=false:=aj;replace I:U W w (aW B { k with now:=k.now+1 }::L):=I;generalize ({ k with now:=k.now+1 }:Ks)=k1 at I eS hY ES ET EU aaD;obtain⟨A,I⟩:=aW.open I;refine RN 3 E I λa E=>?_;refine aR (λμ a w=>∃ (i:Nat),(μ=k1.n-i∧i≤k1.n∧∀ j,j<i→j≠k1.me→¬ jg k1 j)∧Fr a 154 [(0,pt B.cb),(3,.int .i64 i)]∧U W w (aa B.cb 72 (cU k1 B A)::bL B.lb B.lo B.cL k1.ls::aa B.hb 3 (eZ k1.ps)::aa B.dV 3 (eO k1.ps)::aa B.wb 313 (rows e4 k1.ps)::aa B.xb 4 (e0 k1.ps)::Sl 100 1 A.ck k1.mr.length A.cM (c4 k1.mr)::Sl 102 3 A.adE k1.ev.length A.cE (rows bW k1.ev)::L)) (k1.n) (⟨0,⟨rfl,by omega,λj hj=>by omega⟩,E.ab [0,3],I⟩) ?_;clear E I;rintro μ a w ⟨i,⟨rfl,hi,bU⟩,E,I⟩;refine IF 9 E I (λao a E=>?_) λao a E=>?_
 ·
  have cD:i<k1.n:=by omega
  have aJ:i<k1.ps.length:=by rw[eS.ps];exact cD
  have ij:=eS.pq cD;have eX:=ur aJ;refine bQ 2 [15,17,18] [0,1,2,3,4,1005,6,7,8,9,10,12,13,14,16,3011,1015,1017,1018,19,20,21] E I λa w E I hH hC=>?_;have jw:Rd w B.cb 0 (cU k1 B A):=I.ai (b:=B.cb);have hrh:=I.bB (b:=B.hb) (aaj eX);refine RH 5 E I hH hC λa E=>?_;refine SS E (ag E (jw 1 _ rfl)) λa E=>?_;refine RH 2 E I hH hC λa E=>?_;refine E.by (s:=34) (λjv E=>?_) (λjv E=>?_)
  ·
   refine RH 7 E I hH hC λa E=>?_;refine QH E (λw hc=>ag E (hc.cell (jw 11 _ rfl))) hC λa E=>?_;refine RH 0 E I hH hC λa E=>?_;refine bE E (cS E rfl (s:=34)) (ag E (jw 12 _ rfl)) rfl λa E=>?_;refine RH 1 E I hH hC λa E=>?_;refine bE E (cS E rfl (s:=34)) (ag E (hrh)) rfl λa E=>?_;refine RH 3 E I hH hC λa E=>?_;refine IF 0 E I (λay a E=>?_) λay a E=>?_
   ·
    have hlt:jg k1 i:=by rw[jg];omega
    rw[aaA bU cD (by omega) hlt]at hY;replace I:=aW.fold I B k1 A;refine CL 3 E I (FG (kd:=2) (pl:=i) (fr:=0) I (by omega)) λa w E I=>?_;refine RN 1 E I λa E=>?_;obtain⟨A2,PT,I,hD2⟩:=aW.AX I;refine ST 3 E I (λa w E I=>?_);refine RN 0 E I λa E=>?_;replace I:=hD2 _ _ k1.now true I;refine RT 2 E I ?_;rw[hY];exact⟨none,0,rfl,cu.nil I⟩
   refine RN 3 E I λa E=>?_;exact⟨k1.n-(i+1),by omega,i+1,⟨rfl,by omega,λj hj uy=>by
    by_cases h:j=i
    ·subst h;rw[jg];omega
    ·exact bU j (by omega) uy⟩,E.ab [0,3],I⟩
  refine RH 14 E I hH hC λa E=>?_;refine RN 4 E I λa E=>?_;exact⟨k1.n-(i+1),by omega,i+1,⟨rfl,by omega,λj hj uy=>by
   by_cases h:j=i
   ·omega
   ·exact bU j (by omega) uy⟩,E.ab [0,3],I⟩
 obtain rfl:i=k1.n:=by omega
 rw[aaB bU]at hY;clear bU;have KL:=eS.mr;have dQ:k1.me<k1.ls.length:=by rw[eS.ls];exact eS.me
 obtain⟨xs,a8,I⟩:=bL.open (I.pick (bL B.lb B.lo B.cL k1.ls));have cj:xs.length=k1.ls.length:=by rw[← a8,gK]
 obtain⟨y,hy⟩:∃ y,xs[k1.me]?=some y:=⟨_,aI (by omega)⟩;have uC:k1.ls.getD k1.me []=y.2.2:=by rw[← a8,sZ hy]
 have j3:y.2.2.length≤1000:=by rw[← uC];exact eS.lM
 have oz:y.2.2.length≤y.2.1:=by
  obtain⟨yq,ym⟩:=a2.1 hy;have h1:=((I.pick (ah a7 xs)).fE yq);rw[ym]at h1;have h2:U W w (Sl 5 1 y.1 y.2.2.length y.2.1 (bc y.2.2)::_):=h1;exact (h2.sl y.1).2
 refine RN 5 E I λa E=>?_;replace I:=U.bM (U.iI (f:=b0) I) 60 3 none;refine aR (λμ a w=>∃ (i:Nat) (zs:List Mx) (ad:Option Addr) (c:Nat),(μ=k1.n-i∧i≤k1.n∧zs.map (·.2.2)=wz k1 i∧zs.length≤i)∧Fr a 154 [(0,pt B.cb),(4,.slice ad zs.length c),(5,.int .i64 i)]∧U W w (Sl 60 3 ad zs.length c (rows bZ zs)::ah b0 zs::aa B.cb 72 (cU k1 B A)::Sl 65 1 (some ⟨B.lb,B.lo,none⟩) k1.ls.length B.cL (xs.map aM)::ah a7 xs::aa B.hb 3 (eZ k1.ps)::aa B.dV 3 (eO k1.ps)::aa B.wb 313 (rows e4 k1.ps)::aa B.xb 4 (e0 k1.ps)::Sl 100 1 A.ck k1.mr.length A.cM (c4 k1.mr)::Sl 102 3 A.adE k1.ev.length A.cE (rows bW k1.ev)::L)) (k1.n) (⟨0,[],none,0,⟨(Nat.sub_zero _).symm,Nat.zero_le _,rfl,bf _⟩,E.ab [0,4,5],(show U W w (Sl 60 3 none ([]:List Mx).length 0 (rows bZ [])::ah b0 []::_) from I).sub⟩) ?_;clear E I;rintro μ a w ⟨i,zs,ad,c,⟨rfl,hi,qp,iU⟩,E,I⟩;refine IF 9 E I (λbh a E=>?_) λbh a E=>?_
 ·
  have ln:wz k1 (i+1)=if i=k1.me then wz k1 i else wz k1 i++[(k1.me,i,aS (dP k1 i))]:=by
   rw[wz,EO];split
   ·rfl
   ·rw[cQ];rfl
  have cD:i<k1.n:=by omega
  have aJ:i<k1.ps.length:=by rw[eS.ps];exact cD
  have ij:=eS.pq cD;have eX:=ur aJ;obtain⟨z,hz⟩:∃ z,xs[i]?=some z:=⟨_,aI (by rw[cj,eS.ls];exact cD)⟩;have hzq:k1.ls.getD i []=z.2.2:=by rw[← a8,sZ hz]
  refine IF 10 E I (λbR a E=>?_) λbR a E=>?_
  ·
   rw[ak (by omega)]at ln;refine RN 3 E I λa E=>?_;exact⟨k1.n-(i+1),by omega,i+1,zs,ad,c,⟨rfl,by omega,by rw[ln,qp],by omega⟩,E.ab [0,4,5],I⟩
  rw[ae (by omega)]at ln;refine RN 0 E I λa E=>?_;refine b7 (M:=λa w=>∃ (cG:Nat) (cV:Option Addr) (dN:Nat),Fr a 154 [(0,pt B.cb),(4,.slice ad zs.length c),(5,.int .i64 i),(6,pt cG)]∧U W w (aa cG 203 [.int .i64 1,.int .i64 k1.me,.int .i64 i,.int .i64 k1.id,.int .i64 (ar k1 i).has,.slice cV ((y.2.2.drop (ar k1 i).has).take 32).length dN,.int .i64 z.2.2.length,.int .i64 k1.mr.length,.int .u32 0]::Sl 5 1 cV ((y.2.2.drop (ar k1 i).has).take 32).length dN (bc ((y.2.2.drop (ar k1 i).has).take 32))::Sl 60 3 ad zs.length c (rows bZ zs)::ah b0 zs::aa B.cb 72 (cU k1 B A)::Sl 65 1 (some ⟨B.lb,B.lo,none⟩) k1.ls.length B.cL (xs.map aM)::ah a7 xs::aa B.hb 3 (eZ k1.ps)::aa B.dV 3 (eO k1.ps)::aa B.wb 313 (rows e4 k1.ps)::aa B.xb 4 (e0 k1.ps)::Sl 100 1 A.ck k1.mr.length A.cM (c4 k1.mr)::Sl 102 3 A.adE k1.ev.length A.cE (rows bW k1.ev)::L)) ?_ ?_
  ·
   refine aZ 0 (λw0 V=>Rd V B.cb 0 (cU k1 B A)∧V.cell? ⟨B.dV,i,none⟩=some (.int .i64 (ar k1 i).has)∧Rd V B.lb B.lo (xs.map aM)) [10,14,16,17,21,26,27,31,33,34,35,39,41,42,43,44,48,49,51] [0,1,2,3,5,6,7,8,9,11,12,13,15,18,19,20,22,23,24,25,28,29,30,32,36,37,38,40,45,46,47,3004,3010,3014,3016,3017,3021,3026,3027,3031,3033,3034,3039,3041,3042,3043,3044,3048,3049,2035,50,1051,1052] E I λa w E I hH=>?_;have hC:=hH.at w ⟨I.ai (b:=B.cb),I.bB (b:=B.dV) (wv eX),I.cC B.lb B.lo (by omega)⟩;refine RH 31 E I hH hC λa E=>?_;refine QH E (λw hc=>ag E (hc.1 1 _ rfl)) hC λa E=>?_;refine QH E (λw hc=>ag E (hc.1 2 _ rfl)) hC λa E=>?_;refine QH E (λw hc=>ag E (hc.1 13 _ rfl)) hC λa E=>?_;refine RH 1 E I hH hC λa E=>?_;refine QH E (λw hc=>ag E (hc.2.1)) hC λa E=>?_;refine QH E (λw hc=>ag E (hc.1 10 _ rfl)) hC λa E=>?_;refine QH E (λw hc=>ag E (hc.1 1 _ rfl)) hC λa E=>?_;refine RH 1 E I hH hC λa E=>?_;refine QH E (λw hc=>ag E (hc.1 13 _ rfl)) hC λa E=>?_;refine RH 1 E I hH hC λa E=>?_;refine QH E (λw hc=>ag E (hc.2.1)) hC λa E=>?_;refine QH E (λw hc=>ag E (hc.1 10 _ rfl)) hC λa E=>?_;refine QH E (λw hc=>GU E underlying66 Ty.t65 (by rw[eS.ls];exact cD)) hC λa E=>?_;rw[Nat.mul_one]at E;refine RH 1 E I hH hC λa E=>?_;refine QH E (λw hc=>ag E (hc.2.2 i (aM z) (by rw[bm,hz];rfl))) hC λa E=>?_;rw[aM]at E;refine RH 1 E I hH hC λa E=>?_;refine QH E (λw hc=>ag E (hc.1 16 _ rfl)) hC λa E=>?_;refine RH 1 E I hH hC λa E=>?_;refine DN [(35,[50,1051,1052]),(51,[1035,50,1052])] (by kernel_rfl) rfl ⟨⟨_,rfl,?_⟩,⟨_,rfl,?_⟩,trivial⟩
   ·
    refine RH 0 E I hH hC λa E=>?_;refine aY 0 E I (Mh (q:=y.2.2) (adq:=y.1) (cq:=y.2.1) (m:=32) I (by have h9:=hC.2.2 k1.me (aM y) (by rw[bm,hy];rfl);exact h9) oz (λV hw=>(U.oD (hw.sub (M:=Sl 65 1 (some ⟨B.lb,B.lo,none⟩) k1.ls.length B.cL (xs.map aM)::ah a7 xs::[]))).2 y (bK hy)) j3 ij.1 (by decide)) λcV dN a w E I=>?_;replace hC:=hH.at w ⟨I.ai (b:=B.cb),I.bB (b:=B.dV) (wv eX),I.cC B.lb B.lo (by omega)⟩;refine RH 1 E I hH hC λa E=>?_;refine eR E rfl I Ty.t203 rfl λcG a w E I ho=>?_;clear ho;replace hC:=hH.at w ⟨I.ai (b:=B.cb),I.bB (b:=B.dV) (wv eX),I.cC B.lb B.lo (by omega)⟩;refine RH 0 E I hH hC λa E=>?_;refine SA 0 E I λa w E I=>?_;refine RN 0 E I λa E=>?_;exact⟨cG,cV,dN,E.ab [0,4,5,6],I.sub⟩
   refine RH 0 E I hH hC λa E=>?_;refine eR E rfl I Ty.t203 rfl λcG a w E I ho=>?_;clear ho;replace hC:=hH.at w ⟨I.ai (b:=B.cb),I.bB (b:=B.dV) (wv eX),I.cC B.lb B.lo (by omega)⟩;refine RH 0 E I hH hC λa E=>?_;refine aY 0 E I (Mh (q:=y.2.2) (adq:=y.1) (cq:=y.2.1) (m:=32) I (by have h9:=hC.2.2 k1.me (aM y) (by rw[bm,hy];rfl);exact h9) oz (λV hw=>(U.oD (hw.sub (M:=Sl 65 1 (some ⟨B.lb,B.lo,none⟩) k1.ls.length B.cL (xs.map aM)::ah a7 xs::[]))).2 y (bK hy)) j3 ij.1 (by decide)) λcV dN a w E I=>?_;replace hC:=hH.at w ⟨I.ai (b:=B.cb),I.bB (b:=B.dV) (wv eX),I.cC B.lb B.lo (by omega)⟩;refine RH 1 E I hH hC λa E=>?_;refine SA 0 E I λa w E I=>?_;refine RN 0 E I λa E=>?_;exact⟨cG,cV,dN,E.ab [0,4,5,6],I.sub⟩
  clear E;(try clear I);rintro a w ⟨cG,cV,dN,E,I⟩;refine b7 (M:=λa w=>Fr a 154 [(0,pt B.cb),(4,.slice ad zs.length c),(5,.int .i64 i),(6,pt cG)]∧U W w (aa cG 203 [.int .i64 1,.int .i64 k1.me,.int .i64 i,.int .i64 k1.id,.int .i64 (ar k1 i).has,.slice cV ((y.2.2.drop (ar k1 i).has).take 32).length dN,.int .i64 z.2.2.length,.int .i64 k1.mr.length,.int .u32 (k1.mr.getLastD 0:Nat)]::Sl 5 1 cV ((y.2.2.drop (ar k1 i).has).take 32).length dN (bc ((y.2.2.drop (ar k1 i).has).take 32))::Sl 60 3 ad zs.length c (rows bZ zs)::ah b0 zs::aa B.cb 72 (cU k1 B A)::Sl 65 1 (some ⟨B.lb,B.lo,none⟩) k1.ls.length B.cL (xs.map aM)::ah a7 xs::aa B.hb 3 (eZ k1.ps)::aa B.dV 3 (eO k1.ps)::aa B.wb 313 (rows e4 k1.ps)::aa B.xb 4 (e0 k1.ps)::Sl 100 1 A.ck k1.mr.length A.cM (c4 k1.mr)::Sl 102 3 A.adE k1.ev.length A.cE (rows bW k1.ev)::L)) ?_ ?_
  ·
   refine IF 7 E I (λeE a E=>?_) λeE a E=>?_
   ·
    refine bQ 0 [7,8,9] [0,1,2,4,5,6,3003,1007,1008,1009,10,1011,12,1013] E I λa w E I hH hC=>?_;obtain⟨EK,EL,ER,ll⟩:=((I).pick (Sl 100 1 A.ck k1.mr.length A.cM (c4 k1.mr))).bY A.ck (by omega);have jw:w.cell? ⟨B.cb,16,none⟩=some (.slice A.ck k1.mr.length A.cM):=I.bB (b:=B.cb) rfl;rw[ER]at jw;refine RH 6 E I hH hC λa E=>?_;refine QH E (λw hc=>ag E (hc.cell (jw))) hC λa E=>?_;refine RH 0 E I hH hC λa E=>?_;refine SS E (ag E (jw)) λa E=>?_;refine RH 2 E I hH hC λa E=>?_;rw[show ((k1.mr.length:Nat):Int)-1=((k1.mr.length-1:Nat):Int) from by omega]at E;refine RH 1 E I hH hC λa E=>?_;refine SS E (ag E (ll (k1.mr.length-1) _ (Aw (by omega)))) λa E=>?_;refine RH 1 E I hH hC λa E=>?_;refine ST 0 E I (λa w E I=>?_);refine RN 0 E I λa E=>?_;rw[KK (by omega)]at I;exact⟨E.ab [0,4,5,6],I.sub⟩
   refine RN 0 E I λa E=>?_;have h0:k1.mr.getLastD 0=0:=by rw[g5 (l:=k1.mr) (by omega)];rfl
   exact⟨E.ab [0,4,5,6],by rw[h0];exact I⟩
  clear E;(try clear I);rintro a w ⟨E,I⟩;refine RN 0 E I λa E=>?_;have hmp:dI (dP k1 i) cV dN=[.int .i64 1,.int .i64 k1.me,.int .i64 i,.int .i64 k1.id,.int .i64 (ar k1 i).has,.slice cV ((y.2.2.drop (ar k1 i).has).take 32).length dN,.int .i64 z.2.2.length,.int .i64 k1.mr.length,.int .u32 (k1.mr.getLastD 0:Nat)]:=by
   rw[← uC,← hzq];rfl
  have aaE:(dP k1 i).al=(y.2.2.drop (ar k1 i).has).take 32:=by rw[← uC];rfl
  rw[← hmp]at I;refine aZ 0 (λw0 V=>Rd V B.cb 0 (cU k1 B A)∧Rd V cG 0 (dI (dP k1 i) cV dN)) [7,8] [0,1,2,3,4,6,3005,1007,1008,9,1010,1011,12] E I λa w E I hH=>?_;have hC:=hH.at w ⟨I.ai (b:=B.cb),I.ai (b:=cG)⟩;refine RH 6 E I hH hC λa E=>?_;refine QH E (λw hc=>ag E (hc.1 1 _ rfl)) hC λa E=>?_;refine RH 0 E I hH hC λa E=>?_;refine SS E (bT E underlying203 rfl Ty.t203 (hC.2)) λa E=>?_;refine RH 0 E I hH hC λa E=>?_;refine aY 0 E I (Ei (p:=dP k1 i) (ad:=cV) (c:=dN) I (by
   show k1.mr.getLastD 0<4294967296;rw[getLastD_eq_getLast?];cases hl:k1.mr.getLast? with
   | none=>decide
   | some s=>exact eS.rf s (List.mem_of_getLast? hl)) (λV hw=>by
   have h9:=(hw.pick (Sl 5 1 cV ((y.2.2.drop (ar k1 i).has).take 32).length dN (bc ((y.2.2.drop (ar k1 i).has).take 32)))).cF cV _ rfl rfl;rw[aaE];exact h9)) λad2 c2 a w E I=>?_
  replace hC:=hH.at w ⟨I.ai (b:=B.cb),I.ai (b:=cG)⟩;refine RH 1 E I hH hC λa E=>?_;refine cn E rfl I underlying37 Ty.t60 rfl rfl rfl rfl (by decide) (by decide) λaeV a w E I ho=>?_;clear ho;refine RN 0 E I λa E=>?_;refine cI E rfl I underlying37 Ty.t60 rfl rfl I.ai rfl (by simp[Value.oneCell']) (by decide) (by decide) (by omega) λMi Mj a w E I=>?_;rw[show rows bZ zs++_=rows bZ (zs++[(ad2,c2,(k1.me,i,aS (dP k1 i)))]) from by rw[j9];rfl,show zs.length+1=(zs++[(ad2,c2,(k1.me,i,aS (dP k1 i)))]).length from by simp]at I;rw[show zs.length+1=(zs++[(ad2,c2,(k1.me,i,aS (dP k1 i)))]).length from by simp]at E;refine RN 1 E I λa E=>?_;refine RN 3 E I λa E=>?_;have dx:=U.jG (f:=b0) (x:=(ad2,c2,(k1.me,i,aS (dP k1 i)))) (I.sub (M:=Sl 5 1 ad2 (aS (dP k1 i)).length c2 (bc (aS (dP k1 i)))::ah b0 zs::Sl 60 3 Mi (zs++[(ad2,c2,(k1.me,i,aS (dP k1 i)))]).length Mj (rows bZ (zs++[(ad2,c2,(k1.me,i,aS (dP k1 i)))]))::aa B.cb 72 (cU k1 B A)::Sl 65 1 (some ⟨B.lb,B.lo,none⟩) k1.ls.length B.cL (xs.map aM)::ah a7 xs::aa B.hb 3 (eZ k1.ps)::aa B.dV 3 (eO k1.ps)::aa B.wb 313 (rows e4 k1.ps)::aa B.xb 4 (e0 k1.ps)::Sl 100 1 A.ck k1.mr.length A.cM (c4 k1.mr)::Sl 102 3 A.adE k1.ev.length A.cE (rows bW k1.ev)::L));exact⟨k1.n-(i+1),by omega,i+1,zs++[(ad2,c2,(k1.me,i,aS (dP k1 i)))],Mi,Mj,⟨rfl,by omega,by rw[cQ,qp,ln];rfl,by rw[aL];simp;omega⟩,E.ab [0,4,5],dx.sub⟩
 obtain rfl:i=k1.n:=by omega
 refine RT 3 E I ?_;have ib:zs.length=((bH k1).map λi=>(k1.me,i,aS (dP k1 i))).length:=by
  have h1:(zs.map (·.2.2)).length=(wz k1 k1.n).length:=by rw[qp]
  rw[bd]at h1;exact h1
 rw[hY];refine⟨ad,c,by rw[ib],?_⟩;rw[ib]at I;have h4:=bL.close (xs:=xs) (ls:=k1.ls) (lb:=B.lb) (lo:=B.lo) (c:=B.cL) (W:=W) (w:=w) (L:=Sl 60 3 ad ((bH k1).map λi=>(k1.me,i,aS (dP k1 i))).length c (rows bZ zs)::ah b0 zs::aa B.cb 72 (cU k1 B A)::aa B.hb 3 (eZ k1.ps)::aa B.dV 3 (eO k1.ps)::aa B.wb 313 (rows e4 k1.ps)::aa B.xb 4 (e0 k1.ps)::Sl 100 1 A.ck k1.mr.length A.cM (c4 k1.mr)::Sl 102 3 A.adE k1.ev.length A.cE (rows bW k1.ev)::L) I.sub a8;have h5:=(aW.fold h4 B k1 A);exact cu.close (xs:=zs) h5.sub qp rfl
end
section
variable {W w:World}{L R:List SP}{n c lb lo i f cl to:Nat}{ad:Option Addr}{ls:List (List UInt8)}{k:Ks}{A:my}{B:oC}{bs:List UInt8}{e:jy}
theorem aaF {a b:Nat}:((max a b:Nat):Int)=max (a:Int) (b:Int):=by omega
theorem aaG {l:List (List UInt8)}(h:l.length=k.ls.length)(ps:List Pe):cU { k with ls:=l,ps:=ps } B A=cU k B A:=by simp only[cU,h]
theorem aW.aaH (I:U W w L)(B:oC)(k:Ks)(A:my){l:List (List UInt8)}(h:l.length=k.ls.length)[kk:fD L [aa B.cb 72 (cU k B A),bL B.lb B.lo B.cL l,aa B.hb 3 (eZ k.ps),aa B.dV 3 (eO k.ps),aa B.wb 313 (rows e4 k.ps),aa B.xb 4 (e0 k.ps),Sl 100 1 A.ck k.mr.length A.cM (c4 k.mr),Sl 102 3 A.adE k.ev.length A.cE (rows bW k.ev)] R]:U W w (aW B { k with ls:=l }::R):=by
 have h1:=I.perm kk.perm;rw[← aaG (l:=l) h k.ps]at h1;exact U.shut (M:=[_,_,_,_,_,_,_,_]) h1 λ_ h=>⟨A,h⟩
set_option maxHeartbeats 2000000 in
theorem aaI (I:U W w (aW B k::L))(hk:WC k)(hh:held k)(hb:bs.length≤65536)(hc:bs.length≤c)(hp:∀ V,U W V L→a6 V ad bs.length bs) :
   Calls prog 155 #[pt B.cb,.slice ad bs.length c] w λr V=>r=.returned (.int .i64 (dh bs k).1)∧U W V (aW B (dh bs k).2::L):=by
 have hn:=hk.n;obtain⟨A0,I⟩:=aW.open I;refine EN func155 ntmps155 rfl rfl λa E=>?_;refine IF 8 E I (λaj a E=>?_) λaj a E=>?_
 ·
  replace I:=aW.fold I B k A0;refine RT 2 E I ?_;exact⟨by rw[Az aj],by rw[Az aj];exact I.sub⟩
 replace I:=aW.fold I B k A0;refine jJ 2 E I (XP (I.pick (aW B k)) hb hc (λV hw=>hp V hw.tail)) ?_;clear E I;rintro e w ⟨p,adP,cP,ok,rfl,Mk,AY,I⟩;refine⟨_,rfl,λa E=>?_⟩;refine AL 3 E I λb5 a w E I=>?_;refine SA 0 E I λa w E I=>?_;refine RN 3 E I λa E=>?_;obtain⟨A,I⟩:=aW.open (I.pick (aW B k));refine bQ 0 [9,19,29] [0,1,2,3,5,6,7,8,3004,1009,10,11,12,13,15,16,17,18,3014,1019,20,21,22,23,25,26,27,28,3024,1029,30,31] E I λa w E I hH hC=>?_;refine RH 3 E I hH hC λa E=>?_;refine E.by (s:=18) (λbA E=>?_) (λbA E=>?_)
 ·
  have dm:ok=false:=by revert bA;cases ok <;> simp
  have c8:ew bs=none:=AY dm;refine RH 29 E I hH hC λa E=>?_;refine RT 3 E I ?_;rw[KV aj c8];exact⟨rfl,(aW.fold I B k A).sub⟩
 have dm:ok=true:=by revert bA;cases ok <;> simp
 have pz:ew bs=some p:=Mk dm;obtain⟨sQ,gz,_⟩:=DY pz;have EV:=sQ.1;refine RH 10 E I hH hC λa E=>?_;refine E.by (s:=28) (λhS E=>?_) (λhS E=>?_)
 ·
  refine RH 19 E I hH hC λa E=>?_;refine RT 3 E I ?_;rw[v7 aj pz (.inl hS)];exact⟨rfl,(aW.fold I B k A).sub⟩
 refine RH 10 E I hH hC λa E=>?_;refine E.by (s:=38) (λph E=>?_) (λph E=>?_)
 ·
  refine RH 9 E I hH hC λa E=>?_;refine RT 3 E I ?_;rw[v7 aj pz (.inr (.inl ph))];exact⟨rfl,(aW.fold I B k A).sub⟩
 refine RH 9 E I hH hC λa E=>?_;refine IF 0 E I (λao a E=>?_) λao a E=>?_
 ·
  refine RT 2 E I ?_;rw[v7 aj pz (.inr (.inr ao))];exact⟨rfl,(aW.fold I B k A).sub⟩
 have bU:¬ (p.to≠k.me∨(k.n:Int)≤p.aV∨p.id≠k.id):=by
  rintro (h | h | h)
  ·exact h hS
  ·omega
  ·exact h ao
 rw[KW aj pz bU];clear Mk AY dm;obtain⟨fr,fo⟩:=Int.eq_ofNat_of_zero_le EV.1;have gZ:fr<k.n:=by omega
 have gw:fr<k.ls.length:=by rw[hk.ls];exact gZ
 have m6:fr<k.ps.length:=by rw[hk.ps];exact gZ
 have EW:fr≠k.me:=by have:=sQ.2.2.1;omega
 have ij:=hk.pq gZ;have jx:p.aV.toNat=fr:=by omega
 have eX:=ur m6;refine bQ 1 [5,9] [0,1,2,4,6,7,8,3003,3005,1009,10,1011] E I λa w E I hH hC=>?_;refine RH 9 E I hH hC λa E=>?_;rw[fo]at E;refine RH 2 E I hH hC λa E=>?_;refine ST 0 E I (λa w E I=>?_) (hlt:=(by rw[eZ,bd];exact m6));rw[aam { ar k fr with heard:=k.now } rfl,← FB eX { ar k fr with heard:=k.now } rfl,← FD eX { ar k fr with heard:=k.now } rfl rfl,← FC eX { ar k fr with heard:=k.now } rfl]at I;have ch:=hk.peer (q:={ ar k fr with heard:=k.now }) gZ ⟨ij.1,ij.2.2⟩ (bf _) rfl;have wa:(k.ps.set fr { ar k fr with heard:=k.now })[fr]?=some { ar k fr with heard:=k.now }:=getElem?_set_self m6;replace I:=aW.fold I B { k with ps:=k.ps.set fr { ar k fr with heard:=k.now } } A;refine RN 0 E I λa E=>?_;refine b7 (M:=λa w=>∃ k4:Ks,(k4=(if p.kind=2 then { k with ps:=k.ps.set fr { ar k fr with heard:=k.now },ev:=k.ev++[(1,fr,0)],cl:=true } else { k with ls:=k.ls.set fr (ds (k.ls.getD fr []) p.first.toNat p.al),ps:=k.ps.set fr (fQ k.now (aF k) p (ar k fr)) })∧WC k4)∧Fr a 135 [(0,pt B.cb)]∧U W w (aW B k4::L)) ?_ ?_
 ·
  refine IF 4 E I (λay a E=>?_) λay a E=>?_
  ·
   refine RN 4 E I λa E=>?_;rw[fo]at E;refine CL 0 E I (FG (kd:=1) (pl:=fr) (fr:=0) I (by have:=hk.kQ;show k.ev.length≤100;omega)) λa w E I=>?_;refine RN 0 E I λa E=>?_;obtain⟨A2,D,I,hD⟩:=aW.AX I;refine ST 3 E I (λa w E I=>?_);refine RN 0 E I λa E=>?_;replace I:=hD _ _ k.now true I;exact⟨_,⟨by rw[ak ay],by have h9:=(hk.x6 sQ gz (by omega) aj).1;rw[fR,ak ay,jx]at h9;exact h9⟩,E.ab [0],I.sub⟩
  refine RN 1 E I λa E=>?_;have gU:eG p.first∧eG p.c9∧eG p.frame∧p.al.length≤32:=by
   rcases sQ.2.2.2.2 with h | h
   ·exact h.2
   ·exact absurd h.1 ay
  simp only[eG]at gU;obtain⟨fi,v8⟩:=Int.eq_ofNat_of_zero_le gU.1.1;obtain⟨kT,AA⟩:=Int.eq_ofNat_of_zero_le gU.2.1.1;obtain⟨j1,EX⟩:=Int.eq_ofNat_of_zero_le gU.2.2.1.1;have yd:p.first.toNat=fi:=by omega
  obtain⟨A2,I⟩:=aW.open I;refine bQ 0 [5,8,10] [0,1,2,4,7,9,3003,3005,6,3008,1010,1011] E I λa w E I hH hC=>?_;refine RH 8 E I hH hC λa E=>?_;rw[fo]at E;refine RH 2 E I hH hC λa E=>?_;rw[v8]at E;refine RH 1 E I hH hC λa E=>?_;refine aY 0 E I (aas (f:=fi) (bs:=p.al) (I.pick (bL B.lb B.lo B.cL k.ls)) gw (hk.lL gZ) (by omega) (λV hw=>(hw.pick (Sl 5 1 adP p.al.length cP (bc p.al))).cF adP p.al rfl rfl)) λKY er a w E I=>?_;refine RN 0 E I λa E=>?_;have dx:U W w (aW B { k with ls:=k.ls.set fr (ds (k.ls.getD fr []) fi p.al),ps:=k.ps.set fr { ar k fr with heard:=k.now } }::_):=aW.aaH (l:=k.ls.set fr (ds (k.ls.getD fr []) fi p.al)) I B { k with ps:=k.ps.set fr { ar k fr with heard:=k.now } } A2 (br ..);replace I:=dx;clear dx;have mL:=ch.line (i:=fr) (l:=ds (k.ls.getD fr []) fi p.al) (ra (hk.lL gZ)).2;have gJ:aF ({ k with ls:=k.ls.set fr (ds (k.ls.getD fr []) fi p.al),ps:=k.ps.set fr { ar k fr with heard:=k.now } }:Ks)=aF k:=by
   show ((k.ls.set fr _).getD k.me []).length=_;rw[KT EW];rfl
  refine b7 (M:=λa w=>∃ hh:Nat,hh=(if (ar k fr).has<kT∧kT≤aF k then kT else (ar k fr).has)∧Fr a 135 [(0,pt B.cb),(5,pt b5)]∧U W w (aW B { k with ls:=k.ls.set fr (ds (k.ls.getD fr []) fi p.al),ps:=k.ps.set fr { ar k fr with heard:=k.now,has:=hh } }::aa b5 203 (dI p adP cP)::L)) ?_ ?_
  ·
   refine aZ 1 (λw0 V=>Rd V b5 0 (dI p adP cP)) [3] [0,2,3001,1003,4] E I λa w E I hH=>?_;have hC:=hH.at w (I.ai (b:=b5));refine RH 2 E I hH hC λa E=>?_;refine QH E (λw hc=>ag E (hc 6 _ rfl)) hC λa E=>?_;rw[AA]at E;refine RH 0 E I hH hC λa E=>?_;refine CL 0 E I (rv I mL) λa w E I=>?_;replace hC:=hH.at w (I.ai (b:=b5));rw[gJ]at E;refine RH 1 E I hH hC λa E=>?_;refine IF 0 E I (λbh a E=>?_) λbh a E=>?_
   ·
    refine RN 0 E I λa E=>?_;obtain⟨A3,I⟩:=aW.open I;have wX:(eO (k.ps.set fr { ar k fr with heard:=k.now }))[fr]?=some (Value.int .i64 (ar k fr).has):=by
     have h:=wv wa;exact h
    refine bQ 0 [5,9,11,12,13,15,16] [0,1,2,4,6,7,8,10,14,3003,3005,3009,3011,3012,3013,1015,1016,17,1018] E I λa w E I hH hC=>?_;refine RH 11 E I hH hC λa E=>?_;rw[fo]at E;refine RH 2 E I hH hC λa E=>?_;rw[fo]at E;refine RH 1 E I hH hC λa E=>?_;refine QH E (λw hc=>ag E (hc.cell (I.bB (b:=B.dV) wX))) hC λa E=>?_;refine RH 1 E I hH hC λa E=>?_;rw[AA]at E;refine RH 2 E I hH hC λa E=>?_;refine ST 0 E I (λa w E I=>?_) (hlt:=(by rw[eO,bd,br];exact m6));rw[aan { ar k fr with heard:=k.now,has:=max (ar k fr).has kT } aaF,← FA wa { ar k fr with heard:=k.now,has:=max (ar k fr).has kT } rfl,← FD wa { ar k fr with heard:=k.now,has:=max (ar k fr).has kT } rfl rfl,← FC wa { ar k fr with heard:=k.now,has:=max (ar k fr).has kT } rfl,set_set]at I;replace I:=aW.fold I B { k with ls:=k.ls.set fr (ds (k.ls.getD fr []) fi p.al),ps:=k.ps.set fr { ar k fr with heard:=k.now,has:=max (ar k fr).has kT } } A3;refine RN 0 E I λa E=>?_;exact⟨max (ar k fr).has kT,by split <;> omega,E.ab [0,5],I.sub⟩
   refine RN 0 E I λa E=>?_;exact⟨_,by rw[ae (by omega)],E.ab [0,5],I.sub⟩
  clear E;(try clear I);rintro a w ⟨hh,yc,E,I⟩;refine bQ 1 [9,11,12,13,14] [0,1001,2,3,4,6,7,8,10,3005,3009,1011,1012,1013,1014,15,16] E I λa w E I hH hC=>?_;have we:(k.ps.set fr { ar k fr with heard:=k.now,has:=hh })[fr]?=some { ar k fr with heard:=k.now,has:=hh }:=getElem?_set_self m6;have EY:p.c9.toNat=kT:=by omega
  have EZ:p.frame.toNat=j1:=by omega
  have hP:fQ k.now (aF k) p (ar k fr)=(if 0<p.frame∧((ar k fr).frame:Int)≤p.frame then { ar k fr with heard:=k.now,has:=hh,frame:=j1,sum:=p.sum } else { ar k fr with heard:=k.now,has:=hh }):=by
   rw[fQ,EY,EZ,yc]
  have uv:hh≤1000:=by rw[yc];split <;> omega
  obtain⟨FL,I⟩:=aW.open I;have fb:=jA AV (I.ai (b:=B.wb)) we;rw[Nat.zero_add]at fb;replace hH:=Hd.gf I;refine RH 4 E I hH hC λa E=>?_;refine E.by (s:=107) (λbS E=>?_) (λbS E=>?_)
  ·
   refine RH 8 E I hH hC λa E=>?_;rw[fo]at E;refine RH 2 E I hH hC λa E=>?_;refine bE E (cS E rfl (s:=107)) (ag E (fb 0 (.int .i64 (ar k fr).frame) rfl)) rfl λa E=>?_;refine RH 2 E I hH hC λa E=>?_;refine IF 0 E I (λbR a E=>?_) λbR a E=>?_
   ·
    refine bQ 0 [5,7,9,10] [0,1,2,4,6,8,3003,3005,3007,1009,1010,11,1012] E I λa w E I hH hC=>?_;refine RH 8 E I hH hC λa E=>?_;rw[fo]at E;refine RH 1 E I hH hC λa E=>?_;rw[EX]at E;refine RH 3 E I hH hC λa E=>?_;refine qt E rfl I Ty.t313 (by simp[Value.oneCell']) (by rw[iW AV,br];show fr*2+2≤_;omega) λa w E I=>?_;rw[show cB (rows e4 (k.ps.set fr { ar k fr with heard:=k.now,has:=hh })) (fr*2) [Value.int .i64 j1,Value.int .u32 p.sum]=rows e4 ((k.ps.set fr { ar k fr with heard:=k.now,has:=hh }).set fr { ar k fr with heard:=k.now,has:=hh,frame:=j1,sum:=p.sum }) from Hq AV _ { ar k fr with heard:=k.now,has:=hh,frame:=j1,sum:=p.sum } (by rw[br];exact m6),← FA we { ar k fr with heard:=k.now,has:=hh,frame:=j1,sum:=p.sum } rfl,← FB we { ar k fr with heard:=k.now,has:=hh,frame:=j1,sum:=p.sum } rfl,← FC we { ar k fr with heard:=k.now,has:=hh,frame:=j1,sum:=p.sum } rfl,set_set]at I;replace I:=aW.fold I B { k with ls:=k.ls.set fr (ds (k.ls.getD fr []) fi p.al),ps:=k.ps.set fr { ar k fr with heard:=k.now,has:=hh,frame:=j1,sum:=p.sum } } FL;refine RN 0 E I λa E=>?_;exact⟨_,⟨by rw[ae ay,yd,hP,ak (by omega)],(hk.peer (q:={ ar k fr with heard:=k.now,has:=hh,frame:=j1,sum:=p.sum }) gZ ⟨uv,by show j1≤1000;omega,gz⟩ (bf _) rfl).line (ra (hk.lL gZ)).2⟩,E.ab [0],I.sub⟩
   refine RN 0 E I λa E=>?_;exact⟨_,⟨by rw[ae ay,yd,hP,ae (by omega)],(hk.peer (q:={ ar k fr with heard:=k.now,has:=hh }) gZ ⟨uv,ij.2.2⟩ (bf _) rfl).line (ra (hk.lL gZ)).2⟩,E.ab [0],(aW.fold I B { k with ls:=k.ls.set fr (ds (k.ls.getD fr []) fi p.al),ps:=k.ps.set fr { ar k fr with heard:=k.now,has:=hh } } FL).sub⟩
  refine RH 13 E I hH hC λa E=>?_;refine RN 1 E I λa E=>?_;exact⟨_,⟨by rw[ae ay,yd,hP,ae (by omega)],(hk.peer (q:={ ar k fr with heard:=k.now,has:=hh }) gZ ⟨uv,ij.2.2⟩ (bf _) rfl).line (ra (hk.lL gZ)).2⟩,E.ab [0],(aW.fold I B { k with ls:=k.ls.set fr (ds (k.ls.getD fr []) fi p.al),ps:=k.ps.set fr { ar k fr with heard:=k.now,has:=hh } } FL).sub⟩
 clear E;(try clear I);rintro a w ⟨k4,⟨oe,hkw⟩,E,I⟩;refine CL 2 E I (Mc I hkw) λa w E I=>?_;refine RT 2 E I ?_;refine⟨rfl,?_⟩;have hz:kP k4=fR k p:=by
  by_cases h2:p.kind=2
  ·rw[oe,ak h2,fR,ak h2,jx];refine held.kP (hh.of rfl (br ..) λi hi=>?_);by_cases h:i=fr
   ·subst h;rw[show ar { k with ps:=k.ps.set i { ar k i with heard:=k.now },ev:=k.ev++[(1,i,0)],cl:=true } i={ ar k i with heard:=k.now } from by rw[ar,bl,getElem?_set_self hi];rfl];exact⟨rfl,rfl,rfl⟩
   ·rw[show ar { k with ps:=k.ps.set fr { ar k fr with heard:=k.now },ev:=k.ev++[(1,fr,0)],cl:=true } i=ar k i from by rw[ar,bl,getElem?_set_ne (Ne.symm h),ar,bl]];exact⟨rfl,rfl,rfl⟩
  ·rw[oe,ae h2,fR,ae h2,jx]
 rw[hz]at I;exact I
end
end
section
def bz:Pr:=⟨⟨#[115,117,109]⟩,[⟨1,30,1,0⟩,⟨11,1,0,0⟩,⟨5,2,2,31⟩,⟨3,2,2,1⟩,⟨3,0,0,30⟩,⟨1,29,8,0⟩,⟨7,28,0,29⟩,⟨10,28,9,0⟩,⟨9,1,0,0⟩,⟨1,0,0,0⟩,⟨15,31,0,0⟩,⟨13,31,2,0⟩]⟩
theorem FM {s:ByteArray}{i b:Nat}(hb:jW s i=b)(h:b<128):Utf8.decode s i=(b,1):=by
 simp only[jW]at hb;simp[Utf8.decode,hb,h]
theorem aaJ:eb bz.title 0=[(115,1),(117,1),(109,1)]:=by
 have h1:bz.title.size=3:=rfl;have h2:Utf8.decode bz.title 0=(115,1):=FM (b:=115) rfl (by decide);have h3:Utf8.decode bz.title 1=(117,1):=FM (b:=117) rfl (by decide);have h4:Utf8.decode bz.title 2=(109,1):=FM (b:=109) rfl (by decide);have r3:eb bz.title 3=[]:=qO (by omega);have r2:eb bz.title 2=[(109,1)]:=by rw[qN (by omega),dZ,ak (by omega),h4];exact congrArg _ r3
 have r1:eb bz.title 1=[(117,1),(109,1)]:=by rw[qN (by omega),dZ,ak (by omega),h3];exact congrArg _ r2
 rw[qN (by omega),dZ,ak (by omega),h2];exact congrArg _ r1
theorem qq:dg bz:=by
 refine⟨⟨?_,by decide,by decide,?_⟩,?_⟩
 ·rw[o2,aaJ];decide
 ·intro o ho;simp[bz]at ho;rcases ho with rfl | rfl | rfl | rfl | rfl | rfl | rfl | rfl | rfl | rfl | rfl | rfl <;> simp[qP,dq]
 ·intro o ho;simp[bz]at ho;rcases ho with rfl | rfl | rfl | rfl | rfl | rfl | rfl | rfl | rfl | rfl | rfl | rfl <;> simp[eV,eU,bz]
section
variable {W w:World}{L:List SP}{n c:Nat}{ad:Option Addr}
theorem Mm (I:U W w L):Calls prog 25 #[] w λe V=>∃ ad,e=.returned (.agg (bP bz ad 12).toArray)∧U W V (aA W bz ad 12::L):=by
 refine EN func25 ntmps25 rfl rfl λa E=>?_;refine AL 1 E I λzc a w E I=>?_;refine RN 13 E I λa E=>?_;refine cn E rfl I underlying43 Ty.t114 rfl rfl rfl rfl (by decide) (by decide) λAZ a w E I ho=>?_;clear ho;refine SA 1 E I λa w E I=>?_;refine RT 0 E I ?_;refine⟨some ⟨AZ,0,none⟩,rfl,?_⟩;have h1:U W w (aa AZ 114 ([]++rows dL bz.ops++[])::_):=I.jD AZ;have h2:=U.iG (n:=12) (c:=12) (sz:=4) h1 rfl (bf _) (Nat.zero_le _);have h3:U W w (aA W bz (some ⟨AZ,0,none⟩) 12::_):=h2.CS;exact h3.sub
set_option maxHeartbeats 2000000 in
end
section
variable {W w:World}{L:List SP}{m cP:Nat}{adP:Option Addr}{p:Pr}
theorem yv {fr:Int}{g:Nat→Int}{aq:Option Addr}{cO:Nat}{P:List (List UInt8)}{zs:List ea}(I:U W w (aA W p aq cO::L))(hm:P.length=m)(a1:dg p)(aE:p.title.size≤1000000000)(hg:dM g)(hP:P.length≤65536∧∀ b∈P,b.length≤1099511627776)(hz:zs.map (·.2.2)=P)(hf:-1099511627776≤fr∧fr≤1099511627776)(hp:∀ V,U W V L→iJ V adP zs) :
   Calls prog 116 #[.agg (bP p aq cO).toArray,.agg (ints .i32 32 g).toArray,.int .i64 fr,.slice adP m cP] w λe V=>e=.returned (.agg (ints .i32 32 (foldI p fr g P)).toArray)∧dM (foldI p fr g P)∧U W V (aA W p aq cO::L):=by
 subst hm;exact Wr I a1 aE hg hP hz hf hp
end
def jn (P O:List UInt8)(k:Nat):List (List UInt8):=(List.range k).map (cr [P,O])
end
end Go.Proofs.YteoldcfapaiobaaGreat
