/- The document's player without its game: how it lies in memory; quintainref21.within, May, New, Head, Front, event, held, Mark, Told. -/
import Derived.Test.YteoldcfapaiobaaGreatH10Core
import Derived.Test.YteoldcfapaiobaaGreatH12Mul
import Derived.Test.YteoldcfapaiobaaGreatH01Row
import Derived.Test.YteoldcfapaiobaaGreatH06Ref
import Derived.Test.YteoldcfapaiobaaGreatH11Rank
import Derived.Test.YteoldcfapaiobaaGreatH05Vm
import Derived.Test.YteoldcfapaiobaaGreatH09CoQ
namespace Go.Proofs.YteoldcfapaiobaaGreat
open Tryz
open List (take_zero nil_append drop_eq_nil_of_le cons_append append_nil ext_getElem? set_set range_succ getElem?_set_ne getElem?_set_self replicate_succ' map_singleton getLastD_eq_getLast? map_replicate)
open Go.RowKit
set_option linter.unusedVariables false
set_option linter.unusedSimpArgs false
set_option maxRecDepth 10000
set_option synthInstance.maxSize 4000
set_option synthInstance.maxHeartbeats 400000
section
theorem Cu (z:Value)(h:z.cells=#[z])(n:Nat):(madeCells z.cells (n*1)).toList=List.replicate n z:=by
 apply ext_getElem?;intro i;rw[madeCells,Array.getElem?_toList,Array.getElem?_map,Array.getElem?_range,h,List.getElem?_replicate];by_cases hi:i<n
 ·simp[hi,Nat.mod_one]
 ·simp[hi]
theorem abi (n:Nat):(madeCells (Value.agg #[.int .i64 0,.int .u32 0]).cells (n*2)).toList=rows (λ_:Pe=>[Value.int .i64 0,.int .u32 0]) (List.replicate n (fG 0)):=by
 have hl:∀ m:Nat,(madeCells (Value.agg #[.int .i64 0,.int .u32 0]).cells m).toList=(List.range m).map λi=>if i%2=0 then Value.int .i64 0 else .int .u32 0:=by
  intro m;apply ext_getElem?;intro i;rw[madeCells,Array.getElem?_toList,Array.getElem?_map,Array.getElem?_range,bm];by_cases hi:i<m
  ·rcases Nat.mod_two_eq_zero_or_one i with h | h <;> simp[hi,Value.cells,h]
  ·simp[hi]
 rw[hl]
 induction n with
 | zero=>rfl
 | succ n ih =>
  rw[Nat.succ_mul,replicate_succ',kz,← ih,range_succ,range_succ];simp only[cS,dA]
  congr 1
  have h1:n*2%2=0:=by omega
  have h2:¬ (n*2+1)%2=0:=by omega
  simp[h1,h2,rows]
def bP (lb lo c:Nat)(ls:List (List UInt8)):SP:=λh=>∃ xs:List ef,bk xs=ls∧cp [Sl 65 1 (some ⟨lb,lo,none⟩) ls.length c (xs.map aM),ah ba xs] h
structure n4 where
 cb:Nat
 lb:Nat
 lo:Nat
 cL:Nat
 hb:Nat
 ec:Nat
 wb:Nat
 xb:Nat
structure mY where
 ch:Option Addr
 cM:Nat
 adE:Option Addr
 cE:Nat
abbrev cU (k:Ks)(B:n4)(A:mY):List Value:=[.int .i64 k.n,.int .i64 k.me,.int .i64 k.id,.int .i64 k.aJ,.int .i64 k.bo,.int .i64 k.a8,.int .i64 k.order,.int .i64 k.cw,.int .i64 k.workers,.int .i64 k.room,
 .slice (some ⟨B.lb,B.lo,none⟩) k.ls.length B.cL,.int .i64 k.now,.slice (some ⟨B.hb,0,none⟩) k.n k.n,.slice (some ⟨B.ec,0,none⟩) k.n k.n,.slice (some ⟨B.wb,0,none⟩) k.n k.n,.slice (some ⟨B.xb,0,none⟩) k.n k.n,.slice A.ch k.mr.length A.cM,.slice A.adE k.ev.length A.cE,.bool k.cl]
def fe (l:List Pe):List Value:=l.map λp=>Value.int .i64 (p.heard:Int)
def e0 (l:List Pe):List Value:=l.map λp=>Value.int .i64 (p.has:Int)
def ff (l:List Pe):List Value:=l.map λp=>Value.bool p.apart
abbrev fg (p:Pe):List Value:=[.int .i64 p.frame,.int .u32 p.sum]
theorem Cv (p:Pe):(fg p).length=2:=rfl
def a2 (B:n4)(k:Ks):SP:=λh=>∃ A:mY,cp [aa B.cb 72 (cU k B A),bP B.lb B.lo B.cL k.ls,aa B.hb 3 (fe k.ps),aa B.ec 3 (e0 k.ps),aa B.wb 313 (rows fg k.ps),aa B.xb 4 (ff k.ps),Sl 100 1 A.ch k.mr.length A.cM (c0 k.mr),Sl 102 3 A.adE k.ev.length A.cE (rows bZ k.ev)] h
section
variable {W w:World}{L R:List SP}{c m lb lo i:Nat}{ad:Option Addr}{ls:List (List UInt8)}{k:Ks}{A:mY}{B:n4}
theorem bP.open (I:U W w (bP lb lo c ls::L)):∃ xs:List ef,bk xs=ls∧U W w (Sl 65 1 (some ⟨lb,lo,none⟩) ls.length c (xs.map aM)::ah ba xs::L):=by
 obtain⟨xs,h1,I⟩:=I.jL (ι:=List ef) (p:=λxs=>bk xs=ls) (B:=λxs h=>cp [Sl 65 1 (some ⟨lb,lo,none⟩) ls.length c (xs.map aM),ah ba xs] h) λ_ ⟨xs,h1,h2⟩=>⟨xs,h1,h2⟩;exact⟨xs,h1,I.open (M:=[_,_]) λ_ h=>h⟩
theorem bP.close {xs:List ef}(I:U W w (Sl 65 1 (some ⟨lb,lo,none⟩) ls.length c (xs.map aM)::ah ba xs::L))(h:bk xs=ls):U W w (bP lb lo c ls::L) :=
 U.shut (M:=[_,_]) I λ_ h'=>⟨xs,h,h'⟩
theorem U.o9 {xs:List ef}{el:TypeId}{m:Nat}(I:U W w (Sl el 1 ad m c (xs.map aM)::ah ba xs::L)):iH w ad xs:=by
 have hl:=(I.sl ad).1;rw[bf,fD]at hl;refine⟨λh0=>?_,λx hx=>?_⟩
 ·obtain⟨b,off,h1,h2⟩:=I.bY ad (by omega);exact⟨b,off,h1,h2⟩
 ·obtain⟨i,hi,rfl⟩:=za hx;have h2:=(I.tail).fo hi;exact U.cr (L:=ba xs[i]::_) h2 _ _ (k:=(fk.head:fk (Sl 5 1 xs[i].1 xs[i].2.2.length xs[i].2.1 (bc xs[i].2.2)::_) xs[i].1 _ _ _ _ _ _)) rfl rfl
theorem a2.open (I:U W w (a2 B k::L)):∃ A:mY,U W w (aa B.cb 72 (cU k B A)::bP B.lb B.lo B.cL k.ls::aa B.hb 3 (fe k.ps)::aa B.ec 3 (e0 k.ps)::aa B.wb 313 (rows fg k.ps)::aa B.xb 4 (ff k.ps)::Sl 100 1 A.ch k.mr.length A.cM (c0 k.mr)::Sl 102 3 A.adE k.ev.length A.cE (rows bZ k.ev)::L):=by
 obtain⟨A,_,I⟩:=I.jL (ι:=mY) (p:=λ_=>True) (B:=λA h=>cp [aa B.cb 72 (cU k B A),bP B.lb B.lo B.cL k.ls,aa B.hb 3 (fe k.ps),aa B.ec 3 (e0 k.ps),aa B.wb 313 (rows fg k.ps),aa B.xb 4 (ff k.ps),Sl 100 1 A.ch k.mr.length A.cM (c0 k.mr),Sl 102 3 A.adE k.ev.length A.cE (rows bZ k.ev)] h) λ_ ⟨A,h⟩=>⟨A,trivial,h⟩;exact⟨A,I.open (M:=[_,_,_,_,_,_,_,_]) λ_ h=>h⟩
theorem a2.fold (I:U W w L)(B:n4)(k:Ks)(A:mY)[kk:fN L [aa B.cb 72 (cU k B A),bP B.lb B.lo B.cL k.ls,aa B.hb 3 (fe k.ps),aa B.ec 3 (e0 k.ps),aa B.wb 313 (rows fg k.ps),aa B.xb 4 (ff k.ps),Sl 100 1 A.ch k.mr.length A.cM (c0 k.mr),Sl 102 3 A.adE k.ev.length A.cE (rows bZ k.ev)] R]:U W w (a2 B k::R) :=
 U.shut (M:=[_,_,_,_,_,_,_,_]) (I.perm kk.perm) λ_ h=>⟨A,h⟩
end
theorem abj {l:List Pe}{i:Nat}{p:Pe}(h:l[i]?=some p):(fe l)[i]?=some (.int .i64 p.heard):=by rw[fe,bm,h];rfl
theorem xB {l:List Pe}{i:Nat}{p:Pe}(h:l[i]?=some p):(e0 l)[i]?=some (.int .i64 p.has):=by rw[e0,bm,h];rfl
theorem abk {l:List Pe}{i:Nat}{p:Pe}(h:l[i]?=some p):(ff l)[i]?=some (.bool p.apart):=by rw[ff,bm,h];rfl
theorem zD {α β:Type}(f:α→β){l:List α}{i:Nat}{x:α}{v:β}(h:f x=v):(l.map f).set i v=(l.set i x).map f:=by rw[← h,map_set]
theorem Cw {β:Type}(f:Pe→β){l:List Pe}{i:Nat}{p q:Pe}(h:l[i]?=some p)(hf:f q=f p):(l.set i q).map f=l.map f:=by
 apply ext_getElem?;intro j;rw[bm,bm,jX];by_cases hj:i=j
 ·subst hj;have hi:=(aZ.1 h).1;rw[ak rfl,ak hi,h];simp[hf]
 ·rw[ag hj]
theorem abl (f:Pe→List Value){l:List Pe}{i:Nat}{p q:Pe}(h:l[i]?=some p)(hf:f q=f p):rows f (l.set i q)=rows f l:=by
 rw[rows,rows,List.flatMap_def,List.flatMap_def,Cw f h hf]
theorem G6 {l:List Pe}{i:Nat}{p:Pe}(h:l[i]?=some p)(q:Pe)(hf:q.heard=p.heard):fe (l.set i q)=fe l:=Cw _ h (by rw[hf])
theorem G7 {l:List Pe}{i:Nat}{p:Pe}(h:l[i]?=some p)(q:Pe)(hf:q.has=p.has):e0 (l.set i q)=e0 l:=Cw _ h (by rw[hf])
theorem G8 {l:List Pe}{i:Nat}{p:Pe}(h:l[i]?=some p)(q:Pe)(hf:q.apart=p.apart):ff (l.set i q)=ff l:=Cw _ h (by rw[hf])
theorem G9 {l:List Pe}{i:Nat}{p:Pe}(h:l[i]?=some p)(q:Pe)(hf:q.frame=p.frame)(I:q.sum=p.sum):rows fg (l.set i q)=rows fg l:=abl _ h (by rw[fg,fg,hf,I])
theorem abm {l:List Pe}{i:Nat}(q:Pe){v:Int}(h:(q.heard:Int)=v):(fe l).set i (.int .i64 v)=fe (l.set i q):=zD _ (by rw[h])
theorem abn {l:List Pe}{i:Nat}(q:Pe){v:Int}(h:(q.has:Int)=v):(e0 l).set i (.int .i64 v)=e0 (l.set i q):=zD _ (by rw[h])
section
variable {W w:World}{L:List SP}{n c lb lo i f cl:Nat}{ad:Option Addr}{ls:List (List UInt8)}{k:Ks}{A:mY}{B:n4}{x:UInt8}
theorem sy (I:U W w (a2 B k::L))(hk:WC k):Calls prog 20 #[pt B.cb] w λr V=>r=.returned (.int .i64 (aH k))∧U W V (a2 B k::L):=by
 have eo:k.me<k.ls.length:=by rw[hk.ls];exact hk.me
 obtain⟨A,I⟩:=a2.open I;refine EN func20 ntmps20 rfl rfl λa E=>?_;refine bW 3 [8] [0,1,2,4,5,6,7,3003,1008,9,10,1011,12,13] E I λa w E I hH hC=>?_;obtain⟨xs,bd,I⟩:=bP.open (I.pick (bP B.lb B.lo B.cL k.ls));have b0:xs.length=k.ls.length:=by rw[← bd,gn]
 obtain⟨lz,ol,y,zE,hy,o8,lU⟩:=(U.o9 I).at (i:=k.me) (by omega);cases zE;have iS:aH k=y.2.2.length:=by
  show (k.ls.getD k.me []).length=_;rw[← bd,tS hy]
 replace hH:=Hd.fK I;refine RH 11 E I hH hC λa E=>?_;refine SS E (ae E (o8)) λa E=>?_;rw[aM]at E;refine RH 2 E I hH hC λa E=>?_;refine RT 0 E I ?_;refine⟨by rw[iS],?_⟩;exact (a2.fold (bP.close I bd) B k A).sub
theorem Ha (I:U W w (a2 B k::L))(hk:WC k):Calls prog 19 #[pt B.cb] w λr V=>r=.returned (.int .i64 (aw k))∧U W V (a2 B k::L):=by
 have hn:=hk.n;have eD:=hk.ls;obtain⟨A,I⟩:=a2.open I;refine EN func19 ntmps19 rfl rfl λa E=>?_;refine RN 7 E I λa E=>?_;obtain⟨xs,bd,I⟩:=bP.open (I.pick (bP B.lb B.lo B.cL k.ls));have b0:xs.length=k.ls.length:=by rw[← bd,gn]
 rw[← b0]at E;refine CL 0 E I (Cm (xs:=xs) I (by omega) (by omega) (λV hw=>U.o9 hw)) λa w E I=>?_;refine RT 1 E I ?_;refine⟨by rw[bd];rfl,?_⟩;exact (a2.fold (bP.close I bd) B k A).sub
theorem Hb {kd pl fr:Nat}(I:U W w (a2 B k::L))(hl:k.ev.length≤100):Calls prog 112 #[pt B.cb,.int .i64 kd,.int .i64 pl,.int .i64 fr] w λr V=>r=.returned (.tuple #[])∧U W V (a2 B { k with ev:=k.ev++[(kd,pl,fr)] }::L):=by
 obtain⟨A,I⟩:=a2.open I;refine EN func112 ntmps112 rfl rfl λa E=>?_;refine RN 9 E I λa E=>?_;refine cn E rfl I underlying70 Ty.t102 rfl rfl rfl rfl (by decide) (by decide) λim a w E I ho=>?_;clear ho;refine RN 0 E I λa E=>?_;refine cK E rfl I underlying70 Ty.t102 rfl rfl I.ai rfl (Gg (kd,pl,fr)) (by decide) (by decide) (by omega) λHc He a w E I=>?_;rw[show rows bZ k.ev++_=rows bZ (k.ev++[(kd,pl,fr)]) from by rw[kz];rfl,show k.ev.length+1=(k.ev++[(kd,pl,fr)]).length from by simp]at I;rw[show k.ev.length+1=(k.ev++[(kd,pl,fr)]).length from by simp]at E;refine ST 2 E I (λa w E I=>?_);refine RT 0 E I ?_;exact⟨rfl,(a2.fold I B { k with ev:=k.ev++[(kd,pl,fr)] } { A with adE:=Hc,cE:=He }).sub⟩
theorem abo (I:U W w (a2 B k::L)):Calls prog 51 #[pt B.cb] w λr V=>∃ ad c,r=.returned (.slice ad k.ev.length c)∧U W V (Sl 102 3 ad k.ev.length c (rows bZ k.ev)::a2 B { k with ev:=[] }::L):=by
 obtain⟨A,I⟩:=a2.open I;refine EN func51 ntmps51 rfl rfl λa E=>?_;refine ST 12 E I (λa w E I=>?_);refine RT 3 E I ?_;refine⟨A.adE,A.cE,rfl,?_⟩;replace I:=I.bR 102 3 none;have h2:U W w (aa B.cb 72 (cU { k with ev:=[] } B ⟨A.ch,A.cM,none,0⟩)::bP B.lb B.lo B.cL k.ls::aa B.hb 3 (fe k.ps)::aa B.ec 3 (e0 k.ps)::aa B.wb 313 (rows fg k.ps)::aa B.xb 4 (ff k.ps)::Sl 100 1 A.ch k.mr.length A.cM (c0 k.mr)::Sl 102 3 none 0 0 []::Sl 102 3 A.adE k.ev.length A.cE (rows bZ k.ev)::L):=I.sub (M:=aa B.cb 72 _::bP B.lb B.lo B.cL k.ls::aa B.hb 3 (fe k.ps)::aa B.ec 3 (e0 k.ps)::aa B.wb 313 (rows fg k.ps)::aa B.xb 4 (ff k.ps)::Sl 100 1 A.ch k.mr.length A.cM (c0 k.mr)::Sl 102 3 none 0 0 []::Sl 102 3 A.adE k.ev.length A.cE (rows bZ k.ev)::L);refine U.perm (L:=a2 B { k with ev:=[] }::Sl 102 3 A.adE k.ev.length A.cE (rows bZ k.ev)::L) ?_ (cW _ _ _);exact U.shut (M:=[_,_,_,_,_,_,_,_]) h2 λ_ h=>⟨⟨A.ch,A.cM,none,0⟩,h⟩
theorem NR (I:U W w (a2 B k::L))(hk:WC k):Calls prog 153 #[pt B.cb] w λr V=>r=.returned (.tuple #[])∧U W V (a2 B (lq k)::L):=by
 have eO:k.ps.length=k.n:=hk.ps;have hn:=hk.n;refine EN func153 ntmps153 rfl rfl λa E=>?_;refine RN 2 E I λa E=>?_;refine aQ (λμ a w=>∃ (i:Nat),(μ=k.n-i∧i≤k.n)∧Fr a 68 [(0,pt B.cb),(2,.int .i64 i)]∧U W w (a2 B (gx k i)::L)) (k.n) (⟨0,⟨rfl,by omega⟩,E.ab [0,2],I⟩) ?_;clear E I;rintro μ a w ⟨i,⟨rfl,hi⟩,E,I⟩;have j4:=hk.gx (i:=i) hi;have dS:=BU k i;have vo:(gx k i).n=k.n:=by obtain⟨ps,ev,h1,_⟩:=zg k i;rw[h1]
 have fl:gx k (i+1)=lp (gx k i) i:=rfl;rw[lp]at fl;generalize nK:gx k i=kk at I j4 dS fl vo;obtain⟨A,I⟩:=a2.open I;refine IF 9 E I (λaj a E=>?_) λaj a E=>?_
 ·
  have aF:i<kk.ps.length:=by omega
  have ix:=j4.p4 (i:=i) (by omega);have fb:=vi aF;have fp:=g8 Cv (I.ai (b:=B.wb)) fb;rw[ep]at fp;refine RN 8 E I λa E=>?_;refine SS E (bQ E underlying313 rfl Ty.t313 (fp)) λa E=>?_;refine AL 0 E I λb3 a w E I=>?_;refine SA 0 E I λa w E I=>?_;refine bW 1 [19,20,29,30,34] [0,1,2,4,1003,5,1006,7,8,9,1010,11,12,13,14,16,17,18,3015,1019,1020,21,22,23,24,25,26,28,33,3027,3029,3030,31,3032,1034,35,36] E I λa w E I hH hC=>?_;have jQ:Rd w B.cb 0 (cU kk B A):=I.ai (b:=B.cb);have xC:Rd w b3 0 (fg (ar kk i)):=I.ai (b:=b3);have nc:=I.bz (b:=B.xb) (abk fb);refine RH 4 E I hH hC λa E=>?_;refine SS E (ae E (jQ 15 _ rfl)) λa E=>?_;refine RH 1 E I hH hC λa E=>?_;refine SS E (ae E (nc)) λa E=>?_;refine RH 2 E I hH hC λa E=>?_;refine E.by (s:=28) (λek E=>?_) (λek E=>?_)
  ·
   refine RH 1 E I hH hC λa E=>?_;refine bu E (cu E rfl (s:=28)) (ae E (xC 0 _ rfl)) rfl λa E=>?_;refine RH 3 E I hH hC λa E=>?_;refine E.by (s:=33) (λkP E=>?_) (λkP E=>?_)
   ·
    refine RH 4 E I hH hC λa E=>?_;refine QH E (λw hc=>ae E (hc.cell (xC 0 _ rfl))) hC λa E=>?_;refine RH 0 E I hH hC λa E=>?_;refine bu E (cu E rfl (s:=33)) (ae E (jQ 16 _ rfl)) rfl λa E=>?_;refine RH 4 E I hH hC λa E=>?_;refine E.by (s:=43) (λkJ E=>?_) (λkJ E=>?_)
    ·
     have mA:(ar kk i).frame-1<kk.mr.length:=by omega
     obtain⟨Gj,Gk,eo,lS⟩:=(I.pick (Sl 100 1 A.ch kk.mr.length A.cM (c0 kk.mr))).bY A.ch (by omega);have zj:=jQ 16 _ rfl;rw[eo]at zj;refine RH 5 E I hH hC λa E=>?_;refine QH E (λw hc=>ae E (hc.cell (zj))) hC λa E=>?_;refine QH E (λw hc=>ae E (hc.cell (xC 0 _ rfl))) hC λa E=>?_;refine RH 1 E I hH hC λa E=>?_;rw[show (((ar kk i).frame:Nat):Int)-1=(((ar kk i).frame-1:Nat):Int) from by omega]at E;refine RH 1 E I hH hC λa E=>?_;refine QH E (λw hc=>ae E (hc.cell (lS ((ar kk i).frame-1) _ (B3 mA)))) hC λa E=>?_;refine RH 0 E I hH hC λa E=>?_;refine bu E (cu E rfl (s:=43)) (ae E (xC 1 _ rfl)) rfl λa E=>?_;refine RH 2 E I hH hC λa E=>?_;refine IF 0 E I (λao a E=>?_) λao a E=>?_
     ·
      refine RN 1 E I λa E=>?_;rw[ak ⟨ek,by omega,by omega,by omega⟩]at fl;refine ST 6 E I (λa w E I=>?_) (hlt:=(by rw[ff,bf];exact aF));rw[show (ff kk.ps).set i (.bool true)=ff (kk.ps.set i { ar kk i with apart:=true }) from zD _ rfl,← G6 fb { ar kk i with apart:=true } rfl,← G7 fb { ar kk i with apart:=true } rfl,← G9 fb { ar kk i with apart:=true } rfl rfl]at I;replace I:=a2.fold I B { kk with ps:=kk.ps.set i { ar kk i with apart:=true } } A;refine CL 4 E I (Hb (kd:=3) (pl:=i) (fr:=(ar kk i).frame) I (by have:=j4.kQ;show kk.ev.length≤100;omega)) λa w E I=>?_;refine RN 3 E I λa E=>?_;exact⟨k.n-(i+1),by omega,i+1,⟨rfl,by omega⟩,E.ab [0,2],by rw[fl];exact I.sub⟩
     refine RN 3 E I λa E=>?_;rw[ag (λh=>by have:=h.2.2.2;omega)]at fl;exact⟨k.n-(i+1),by omega,i+1,⟨rfl,by omega⟩,E.ab [0,2],by rw[fl];exact (a2.fold I B kk A).sub⟩
    refine RH 13 E I hH hC λa E=>?_;refine RN 4 E I λa E=>?_;rw[ag (λh=>by have:=h.2.2.1;omega)]at fl;exact⟨k.n-(i+1),by omega,i+1,⟨rfl,by omega⟩,E.ab [0,2],by rw[fl];exact (a2.fold I B kk A).sub⟩
   refine RH 23 E I hH hC λa E=>?_;refine RN 4 E I λa E=>?_;rw[ag (λh=>by have:=h.2.1;omega)]at fl;exact⟨k.n-(i+1),by omega,i+1,⟨rfl,by omega⟩,E.ab [0,2],by rw[fl];exact (a2.fold I B kk A).sub⟩
  refine RH 28 E I hH hC λa E=>?_;refine RN 4 E I λa E=>?_;rw[ag (λh=>by have:=h.1;rw[ek]at this;cases this)]at fl;exact⟨k.n-(i+1),by omega,i+1,⟨rfl,by omega⟩,E.ab [0,2],by rw[fl];exact (a2.fold I B kk A).sub⟩
 refine RT 0 E I ?_;obtain rfl:i=k.n:=by omega
 refine⟨rfl,?_⟩;rw[lq,eO,nK];exact (a2.fold I B kk A).sub
theorem abp {s:Nat}(I:U W w (a2 B k::L))(hk:WC k)(hl:k.mr.length<1000)(yI:s<4294967296):Calls prog 105 #[pt B.cb,.int .u32 s] w λr V=>r=.returned (.tuple #[])∧U W V (a2 B (lN k s)::L):=by
 have zk : WC { k with mr := k.mr ++ [s] } := { hk with
     mr:=by show (k.mr++[s]).length≤1000;rw[aN,jC];omega
     sg:=λx hx=>by
      rcases eX.1 hx with hx | hx
      ·exact hk.sg x hx
      ·rw[iF]at hx;rw[hx];exact yI }
 obtain⟨A,I⟩:=a2.open I;refine EN func105 ntmps105 rfl rfl λa E=>?_;refine RN 8 E I λa E=>?_;rw[dp (by omega)]at E;refine RN 7 E I λa E=>?_;refine cn E rfl I underlying69 Ty.t100 rfl rfl rfl rfl (by decide) (by decide) λu4 a w E I ho=>?_;clear ho;refine RN 0 E I λa E=>?_;refine cK E rfl I underlying69 Ty.t100 rfl rfl I.ai rfl (by simp[Value.oneCell']) (by decide) (by decide) (by omega) λabq c17 a w E I=>?_;rw[show c0 k.mr++_=c0 (k.mr++[s]) from by rw[c0,c0,cS];rfl,show k.mr.length+1=(k.mr++[s]).length from by simp]at I;rw[show k.mr.length+1=(k.mr++[s]).length from by simp]at E;refine ST 2 E I (λa w E I=>?_);refine RN 0 E I λa E=>?_;replace I:=a2.fold I B { k with mr:=k.mr++[s] } { A with ch:=abq,cM:=c17 };refine CL 1 E I (NR I zk) λa w E I=>?_;refine RT 0 E I ?_;exact⟨rfl,by rw[lN,ak hl];exact I.sub⟩
theorem abr (I:U W w (a2 B k::L))(hk:WC k):Calls prog 111 #[pt B.cb,.int .u8 (x.toNat:Nat)] w λr V=>r=.returned (.int .i64 (cZ x k).1)∧U W V (a2 B (cZ x k).2::L):=by
 have eo:k.me<k.ls.length:=by rw[hk.ls];exact hk.me
 have gS:=hk.lO;have fA:=hk.ny;obtain⟨A0,I⟩:=a2.open I;refine EN func111 ntmps111 rfl rfl λa E=>?_;refine IF 9 E I (λaj a E=>?_) λaj a E=>?_
 ·
  replace I:=a2.fold I B k A0;refine RT 2 E I ?_;exact⟨by rw[cZ,ak aj],by rw[cZ,ak aj];exact I⟩
 have cm:¬ k.cl=true:=by rw[aj];decide
 replace I:=a2.fold I B k A0;refine CL 2 E I (sy I hk) λa w E I=>?_;refine IF 2 E I (λao a E=>?_) λao a E=>?_
 ·
  refine RT 2 E I ?_;exact⟨by rw[cZ,ag cm,ak (by omega)],by rw[cZ,ag cm,ak (by omega)];exact I⟩
 refine a1 1 (λw0 V=>V.cell? ⟨B.cb,4,none⟩=some (.int .i64 k.bo)) [1,3,4] [0,2,5,6,7,8,3009,1001,1003,1004,10,11] E I λa w E I hH=>?_;have hC:w.cell? ⟨B.cb,4,none⟩=some (.int .i64 k.bo):=by
  obtain⟨A1,I⟩:=a2.open I;exact I.bz (b:=B.cb) rfl
 refine RH 6 E I hH hC λa E=>?_;refine QH E (λw hc=>ae E (hc)) hC λa E=>?_;refine RH 0 E I hH hC λa E=>?_;refine CL 0 E I (sy I hk) λa w E I=>?_;replace hC:=hH.at w (by obtain⟨A1,I⟩:=a2.open I;exact I.bz (b:=B.cb) rfl);refine RH 0 E I hH hC λa E=>?_;refine CL 0 E I (Ha I hk) λa w E I=>?_;replace hC:=hH.at w (by obtain⟨A1,I⟩:=a2.open I;exact I.bz (b:=B.cb) rfl);refine RH 3 E I hH hC λa E=>?_;refine IF 0 E I (λay a E=>?_) λay a E=>?_
 ·
  refine RT 2 E I ?_;exact⟨by rw[cZ,ag cm,ag (by omega),ak (by omega)],by rw[cZ,ag cm,ag (by omega),ak (by omega)];exact I⟩
 refine RN 1 E I λa E=>?_;obtain⟨A,I⟩:=a2.open I;have vj:cZ x k=(0,{ k with ls:=k.ls.set k.me (k.ls.getD k.me []++[x]) }):=by rw[cZ,ag cm,ag (by omega),ag (by omega)]
 rw[vj];obtain⟨xs,bd,I⟩:=bP.open (I.pick (bP B.lb B.lo B.cL k.ls));have b0:xs.length=k.ls.length:=by rw[← bd,gn]
 obtain⟨y,hy⟩:∃ y,xs[k.me]?=some y:=⟨_,aD (by omega)⟩;obtain⟨tV,tT⟩:=aZ.1 hy;have iS:k.ls.getD k.me []=y.2.2:=by rw[← bd,tS hy]
 refine bW 0 [8] [0,1,2,4,5,6,7,3003,1008,9,10] E I λa w E I hH hC=>?_;refine RH 11 E I hH hC λa E=>?_;refine RN 5 E I λa E=>?_;refine SS E (ae E ((I.cJ B.lb B.lo (by omega)) k.me (aM y) (by rw[bm,hy];rfl))) λa E=>?_;rw[aM]at E;replace I:=(I.pick (ah ba xs)).fo tV;rw[tT]at I;have gG:U W w (Sl 5 1 y.1 y.2.2.length y.2.1 (bc y.2.2)::_):=I;clear I;have I:=gG;clear gG;have NS:y.2.2.length≤1000:=by rw[← iS];exact gS
 refine RN 1 E I λa E=>?_;refine cn E rfl I underlying22 Ty.t5 rfl rfl rfl rfl (by decide) (by decide) λb43 a w E I ho=>?_;clear ho;refine RN 0 E I λa E=>?_;refine cK E rfl I underlying22 Ty.t5 rfl rfl I.ai rfl (eF [x]) (by decide) (by decide) (by omega) λnF lx a w E I=>?_;rw[show bc y.2.2++_=bc (y.2.2++[x]) from (fR _ [_]).symm,show y.2.2.length+1=(y.2.2++[x]).length from by simp]at I;rw[show y.2.2.length+1=(y.2.2++[x]).length from by simp]at E;refine RN 2 E I λa E=>?_;refine mx (off:=B.lo) (k:=k.me) E rfl I Ty.t22 rfl (by omega) (by rw[bf];exact tV) λa w E I=>?_;rw[show (xs.map aM).set k.me (.slice nF (y.2.2++[x]).length lx)=(xs.set k.me (nF,lx,y.2.2++[x])).map aM from zD _ rfl]at I;have h2:=I.arr (M:=[Sl 5 1 nF (y.2.2++[x]).length lx (bc (y.2.2++[x])),ah ba (xs.eraseIdx k.me)]);simp only[cons_append,nil_append]at h2;have h3:=U.kY (f:=ba) (x:=(nF,lx,y.2.2++[x])) tV h2;have eD:(k.ls.set k.me (k.ls.getD k.me []++[x])).length=k.ls.length:=bt;have a7:bk (xs.set k.me (nF,lx,y.2.2++[x]))=k.ls.set k.me (k.ls.getD k.me []++[x]):=by rw[bk,map_set,← bk,bd,iS]
 have h4:=h3.arr (M:=[Sl 65 1 (some ⟨B.lb,B.lo,none⟩) k.ls.length B.cL ((xs.set k.me (nF,lx,y.2.2++[x])).map aM),ah ba (xs.set k.me (nF,lx,y.2.2++[x]))]);simp only[cons_append,nil_append]at h4;rw[show k.ls.length=(k.ls.set k.me (k.ls.getD k.me []++[x])).length from eD.symm]at h4;have h5:=bP.close (xs:=xs.set k.me (nF,lx,y.2.2++[x])) h4 a7;clear I;have I:=h5;rw[show cU k B A=cU { k with ls:=k.ls.set k.me (k.ls.getD k.me []++[x]) } B A from by simp only[cU,bt]]at I;refine RT 2 E I ?_;exact⟨rfl,(a2.fold I B { k with ls:=k.ls.set k.me (k.ls.getD k.me []++[x]) } A).sub⟩
end
section
variable {W w:World}{L R:List SP}{n c m lb lo i f cl:Nat}{ad:Option Addr}{ls:List (List UInt8)}{k:Ks}{A:mY}{B:n4}{x:UInt8}{bs:List UInt8}
theorem bP.out {ls:List (List UInt8)}(I:U W w (bP lb lo c ls::L))(hi:i<ls.length):∃ (xs:List ef) (y:ef),bk xs=ls∧xs[i]?=some y∧y.2.2=ls.getD i [] ∧
   U W w (Sl 5 1 y.1 y.2.2.length y.2.1 (bc y.2.2)::Sl 65 1 (some ⟨lb,lo,none⟩) ls.length c (xs.map aM)::ah ba (xs.eraseIdx i)::L):=by
 obtain⟨xs,bd,I⟩:=bP.open I;have b0:xs.length=ls.length:=by rw[← bd,gn]
 have hy:xs[i]?=some xs[i]:=aD (by omega);refine⟨xs,xs[i],bd,hy,by have:=tS hy;rw[bd]at this;exact this.symm,?_⟩;have h1:=(I.pick (ah ba xs)).fo (i:=i) (by omega);exact U.sub (M:=ba xs[i]::Sl 65 1 (some ⟨lb,lo,none⟩) ls.length c (xs.map aM)::ah ba (xs.eraseIdx i)::L) h1
theorem bP.put {xs:List ef}{q:List UInt8}(I:U W w L)(bd:bk xs=ls)(hi:i<ls.length)[kk:fN L [Sl 5 1 ad q.length cl (bc q),Sl 65 1 (some ⟨lb,lo,none⟩) ls.length c ((xs.map aM).set i (.slice ad q.length cl)),ah ba (xs.eraseIdx i)] R]:U W w (bP lb lo c (ls.set i q)::R):=by
 have b0:xs.length=ls.length:=by rw[← bd,gn]
 have h1:U W w (ba (ad,cl,q)::Sl 65 1 (some ⟨lb,lo,none⟩) ls.length c ((xs.map aM).set i (.slice ad q.length cl))::ah ba (xs.eraseIdx i)::R):=I.perm kk.perm;rw[show (xs.map aM).set i (.slice ad q.length cl)=(xs.set i (ad,cl,q)).map aM from zD _ rfl]at h1;have h2:=U.kY (f:=ba) (x:=(ad,cl,q)) (l:=xs) (i:=i) (by omega) (h1.sub (M:=ba (ad,cl,q)::ah ba (xs.eraseIdx i)::Sl 65 1 (some ⟨lb,lo,none⟩) ls.length c ((xs.set i (ad,cl,q)).map aM)::R));refine bP.close (xs:=xs.set i (ad,cl,q)) ?_ (by rw[bk,map_set,← bk,bd]);rw[bt];exact h2.perm (cW _ _ _)
theorem bP.hd (I:U W w (bP lb lo c ls::L))(hi:i<ls.length):∃ ad c',w.cell? ⟨lb,lo+i,none⟩=some (.slice ad (ls.getD i []).length c'):=by
 obtain⟨xs,y,h1,h2,h3,h4⟩:=bP.out I hi;rw[← h3];exact⟨_,_,(h4.tail.cJ lb lo (by omega)) i (aM y) (by rw[bm,h2];rfl)⟩
theorem abt {f:Nat}(I:U W w (bP lb lo c ls::L))(hi:i<ls.length)(hl:(ls.getD i []).length≤1000)(hb:bs.length≤65536)(hp:∀ V,U W V L→aL V ad bs.length bs) :
   Calls prog 190 #[.pointer (some ⟨lb,lo+i,none⟩),.int .i64 f,.slice ad bs.length cl] w λr V=>∃ n er:Int,r=.returned (.tuple #[.int .i64 n,.int .i64 er])∧U W V (bP lb lo c (ls.set i (dw (ls.getD i []) f bs))::L):=by
 obtain⟨l0,xD⟩:∃ l0,l0=ls.getD i []:=⟨_,rfl⟩;rw[← xD];rw[← xD]at hl;have NT:ls.set i l0=ls:=by rw[xD];exact L1
 refine EN func190 ntmps190 rfl rfl λa E=>?_;refine RN 7 E I λa E=>?_;rw[bn (by omega)]at E;refine RN 3 E I λa E=>?_;obtain⟨gd,gm,NU⟩:=bP.hd I hi;rw[← xD]at NU;refine RN 4 E I λa E=>?_;refine SS E (ae E (NU)) λa E=>?_;refine IF 2 E I (λao a E=>?_) λao a E=>?_
 ·
  refine RT 3 E I ?_;exact⟨_,_,rfl,by rw[dw,ak (by omega),NT];exact I⟩
 refine RN 5 E I λa E=>?_;have eY:f≤l0.length:=by omega
 refine aQ (λμ a w=>∃ (j:Nat) (q:List UInt8),(μ=bs.length-j∧j≤bs.length∧q=l0++(bs.drop (l0.length-f)).take (j-(l0.length-f))∧q.length=l0.length+(j-(l0.length-f))∧q.length≤1000)∧Fr a 57 [(0,.pointer (some ⟨lb,lo+i,none⟩)),(1,.int .i64 f),(2,.slice ad bs.length cl),(8,.int .i64 (j-(l0.length-f):Nat)),(9,.int .i64 j)]∧U W w (bP lb lo c (ls.set i q)::L)) (bs.length) (⟨0,l0,⟨rfl,by omega,by rw[Nat.zero_sub,take_zero,append_nil],by omega,hl⟩,by rw[Nat.zero_sub];exact E.ab [0,1,2,8,9],by rw[NT];exact I⟩) ?_;clear E I;rintro μ a w ⟨j,q,⟨rfl,hj,hq,Ur,ma⟩,E,I⟩;refine IF 6 E I (λay a E=>?_) λay a E=>?_
 ·
  have dN:i<(ls.set i q).length:=by rw[bt];exact hi
  have qM:(ls.set i q).getD i []=q:=by rw[bl,getElem?_set_self hi];rfl
  obtain⟨adq,cq,o8⟩:=bP.hd I dN;rw[qM]at o8;have NV:j<bs.length:=by omega
  have tk:=(hp _ I.tail).get (by omega);refine RN 7 E I λa E=>?_;refine SS E (ae E (o8)) λa E=>?_;refine IF 4 E I (λbj a E=>?_) λbj a E=>?_
  ·
   refine RN 3 E I λa E=>?_;exact⟨bs.length-(j+1),by omega,j+1,q,⟨rfl,by omega,by rw[hq,show j-(l0.length-f)=0 from by omega,show j+1-(l0.length-f)=0 from by omega],by omega,ma⟩,by rw[show j+1-(l0.length-f)=j-(l0.length-f) from by omega];exact E.ab [0,1,2,8,9],I⟩
  refine RN 5 E I λa E=>?_;refine SS E (ae E (o8)) λa E=>?_;refine IF 2 E I (λbO a E=>?_) λbO a E=>?_
  ·
   refine RT 4 E I ?_;exact⟨_,_,rfl,by rw[dw,ag (by omega),show 1000-l0.length=j-(l0.length-f) from by omega,← hq];exact I⟩
  refine bW 1 [8,9] [0,1,2,3,5,6,7,3004,1008,1009,1010,11,12,1013] E I λa w E I hH hC=>?_;obtain⟨bb,oo,rfl,_⟩:=tk;obtain⟨xs,y,bd,hy,tW,I⟩:=bP.out I dN;rw[qM]at tW;rw[tW]at I;have tH:=(I.tail.cJ lb lo (by omega)) i (aM y) (by rw[bm,hy];rfl);rw[aM,tW]at tH;have w4:=(hp _ I.tail.tail.tail).rd (by omega);have zF:i<xs.length:=(aZ.1 hy).1;replace hH:=Hd.fK I;refine RH 7 E I hH hC λa E=>?_;refine QH E (λw hc=>ae E (hc.cell (tH))) hC λa E=>?_;refine RH 0 E I hH hC λa E=>?_;refine SS E (ae E (w4 j _ (dQ NV))) λa E=>?_;refine RH 0 E I hH hC λa E=>?_;refine cn E rfl I underlying22 Ty.t5 rfl rfl rfl rfl (by decide) (by decide) λb50 a w E I ho=>?_;replace hC:=hC.trans ho;clear ho;refine RH 0 E I hH hC λa E=>?_;refine cK E rfl I underlying22 Ty.t5 rfl rfl I.ai rfl (eF [bs[j]]) (by decide) (by decide) (by omega) λLw Ly a w E I=>?_;rw[show bc q++_=bc (q++[bs[j]]) from (fR _ [_]).symm,show q.length+1=(q++[bs[j]]).length from by simp]at I;rw[show q.length+1=(q++[bs[j]]).length from by simp]at E;refine RN 2 E I λa E=>?_;refine mx (off:=lo) (k:=i) E rfl I Ty.t22 rfl (by omega) (by rw[bf];exact zF) λa w E I=>?_;refine RN 6 E I λa E=>?_;have h9:=bP.put (q:=q++[bs[j]]) (ad:=Lw) (cl:=Ly) (lb:=lb) (lo:=lo) (c:=c) I bd dN;rw[set_set]at h9;exact⟨bs.length-(j+1),by omega,j+1,q++[bs[j]],⟨rfl,by omega,by rw[LM eY NV (by omega) (by omega),← hq],by rw[aN,jC];omega,by rw[aN,jC];omega⟩,by rw[show ((j+1-(l0.length-f):Nat):Int)=((j-(l0.length-f):Nat):Int)+1 from by omega];exact E.ab [0,1,2,8,9],h9.sub⟩
 refine RT 4 E I ?_;obtain rfl:j=bs.length:=by omega
 refine⟨_,_,rfl,?_⟩;rw[dw,ag (by omega),fO (by rw[c4];omega)];rw[hq,fO (by rw[c4];omega)]at I;exact I
abbrev zG (n me:Nat)(id:Int)(aJ bo:Nat)(a8 order cw workers room:Int)(b8 iK eT im:Nat)(ad:Option Addr)(i c:Nat):List Value:=[.int .i64 n,.int .i64 me,.int .i64 id,.int .i64 aJ,.int .i64 bo,.int .i64 a8,.int .i64 order,.int .i64 cw,.int .i64 workers,.int .i64 room,.slice ad i c,.int .i64 0,.slice (some ⟨b8,0,none⟩) n n,.slice (some ⟨iK,0,none⟩) n n,.slice (some ⟨eT,0,none⟩) n n,.slice (some ⟨im,0,none⟩) n n,.slice none 0 0,.slice none 0 0,.bool false]
theorem abu (n d:Nat):fe (List.replicate n (fG d))=ints .i64 n (λ_=>0):=by rw[fe,map_replicate];exact qV _ _ _
theorem abv (n d:Nat):e0 (List.replicate n (fG d))=ints .i64 n (λ_=>d):=by rw[e0,map_replicate];exact qV _ _ _
theorem abw (n d:Nat):ff (List.replicate n (fG d))=List.replicate n (.bool false):=by rw[ff,map_replicate];rfl
theorem abx (n d:Nat):rows fg (List.replicate n (fG d))=rows (λ_:Pe=>[Value.int .i64 0,.int .u32 0]) (List.replicate n (fG 0)):=by
 induction n with
 | zero=>rfl
 | succ n ih=>rw[List.replicate_succ,List.replicate_succ,oq,oq,ih];rfl
theorem aby (d:Nat):List.replicate d (Value.int .u8 0)=bc (List.replicate d 0):=by rw[bc,map_replicate];rfl
set_option maxHeartbeats 4000000 in
theorem abz {n me aJ bo:Nat}{id a8 order cw workers room:Int}(I:U W w L)(h:ft ⟨n,me,id,aJ,bo,a8,order,cw,workers,room⟩) :
   Calls prog 65 #[.agg (bV ⟨n,me,id,aJ,bo,a8,order,cw,workers,room⟩).toArray] w λr V=>∃ B:n4,r=.returned (pt B.cb)∧U W V (a2 B (fv ⟨n,me,id,aJ,bo,a8,order,cw,workers,room⟩)::L):=by
 obtain⟨⟨h1,h2,h3⟩,⟨h4,h5,h6,h7⟩,h8,h9,fP,m9⟩:=h;simp only[dE] at *;refine EN func65 ntmps65 rfl rfl λa E=>?_;refine BX 1 E I λb1 a w E I=>?_;change U W w (aa b1 28 [.int .i64 n,.int .i64 me,.int .i64 id,.int .i64 aJ,.int .i64 bo,.int .i64 a8,.int .i64 order,.int .i64 cw,.int .i64 workers,.int .i64 room]::_) at I;refine RN 1 E I λa E=>?_;refine cc (M:=λa w=>∃ b8 iK eT im na:Nat,Fr a 48 [(1,pt b1),(3,pt na)]∧U W w (aa na 72 [.int .i64 n,.int .i64 me,.int .i64 id,.int .i64 aJ,.int .i64 bo,.int .i64 a8,.int .i64 order,.int .i64 cw,.int .i64 workers,.int .i64 room,.slice none 0 0,.int .i64 0,.slice (some ⟨b8,0,none⟩) n n,.slice (some ⟨iK,0,none⟩) n n,.slice (some ⟨eT,0,none⟩) n n,.slice (some ⟨im,0,none⟩) n n,.slice none 0 0,.slice none 0 0,.bool false]::aa b8 3 (List.replicate n (.int .i64 0))::aa iK 3 (List.replicate n (.int .i64 0))::aa eT 313 (rows (λ_:Pe=>[Value.int .i64 0,.int .u32 0]) (List.replicate n (fG 0)))::aa im 4 (List.replicate n (.bool false))::aa b1 28 [.int .i64 n,.int .i64 me,.int .i64 id,.int .i64 aJ,.int .i64 bo,.int .i64 a8,.int .i64 order,.int .i64 cw,.int .i64 workers,.int .i64 room]::L)) ?_ ?_
 ·
  refine bW 0 [2,3,5,6,8,9,11,12] [1,4,7,10,3000,3002,3005,3008,3011,2003,2006,2009,1012,13,1014,15] E I λa w E I hH hC=>?_;refine RH 9 E I hH hC λa E=>?_;refine DN [(3,[2006,2009,1012,13,1014,15]),(6,[2003,2009,1012,13,1014,15]),(9,[2003,2006,1012,13,1014,15]),(12,[2003,2006,1009,13,1014,15])] (by kernel_rfl) rfl ⟨⟨_,rfl,?_⟩,⟨_,rfl,?_⟩,⟨_,rfl,?_⟩,⟨_,rfl,?_⟩,trivial⟩
  all_goals repeat' first
   | (refine RH 0 E I hH hC λa E=>?_;(first | refine rv E rfl I underlying53 Ty.t3 rfl (by omega) (by omega) λb8 a w (E:Fr a 48 ((8,_)::_)) I ho=>?_ | refine rv E rfl I underlying53 Ty.t3 rfl (by omega) (by omega) λiK a w (E:Fr a 48 ((11,_)::_)) I ho=>?_ | refine rv E rfl I underlying67 Ty.t313 rfl (by omega) (by omega) λeT a w E I ho=>?_ | refine rv E rfl I underlying68 Ty.t4 rfl (by omega) (by omega) λim a w E I ho=>?_);replace hC:=hC.trans ho;clear ho;(first | rw[Cu _ rfl]at I | rw[abi]at I))
   | (refine RH 1 E I hH hC λa E=>?_;refine x4 E rfl I rfl λna a w E I ho=>?_;replace hC:=hC.trans ho;clear ho;refine RH 1 E I hH hC λa E=>?_;exact⟨b8,iK,eT,im,na,E.ab [1,3],I.sub⟩)
   | (refine RH 0 E I hH hC λa E=>?_;(first | (have q:=(iK,eT);clear q;refine DN [(3,[1012,13,1014,15]),(12,[1003,13,1014,15])] (by kernel_rfl) rfl ⟨⟨_,rfl,?_⟩,⟨_,rfl,?_⟩,trivial⟩) | (have q:=(iK,im);clear q;refine DN [(3,[1009,13,1014,15]),(9,[1003,13,1014,15])] (by kernel_rfl) rfl ⟨⟨_,rfl,?_⟩,⟨_,rfl,?_⟩,trivial⟩) | (have q:=(eT,im);clear q;refine DN [(3,[1006,13,1014,15]),(6,[1003,13,1014,15])] (by kernel_rfl) rfl ⟨⟨_,rfl,?_⟩,⟨_,rfl,?_⟩,trivial⟩) | (have q:=(b8,iK);clear q;refine DN [(9,[1012,13,1014,15]),(12,[1009,13,1014,15])] (by kernel_rfl) rfl ⟨⟨_,rfl,?_⟩,⟨_,rfl,?_⟩,trivial⟩) | (have q:=(b8,eT);clear q;refine DN [(6,[1012,13,1014,15]),(12,[1006,13,1014,15])] (by kernel_rfl) rfl ⟨⟨_,rfl,?_⟩,⟨_,rfl,?_⟩,trivial⟩) | (have q:=(b8,im);clear q;refine DN [(6,[1009,13,1014,15]),(9,[1006,13,1014,15])] (by kernel_rfl) rfl ⟨⟨_,rfl,?_⟩,⟨_,rfl,?_⟩,trivial⟩) | (have q:=iK;clear q;refine DN [(3,[2009,1012,13,1014,15]),(9,[2003,1012,13,1014,15]),(12,[2003,1009,13,1014,15])] (by kernel_rfl) rfl ⟨⟨_,rfl,?_⟩,⟨_,rfl,?_⟩,⟨_,rfl,?_⟩,trivial⟩) | (have q:=eT;clear q;refine DN [(3,[2006,1012,13,1014,15]),(6,[2003,1012,13,1014,15]),(12,[2003,1006,13,1014,15])] (by kernel_rfl) rfl ⟨⟨_,rfl,?_⟩,⟨_,rfl,?_⟩,⟨_,rfl,?_⟩,trivial⟩) | (have q:=im;clear q;refine DN [(3,[2006,1009,13,1014,15]),(6,[2003,1009,13,1014,15]),(9,[2003,1006,13,1014,15])] (by kernel_rfl) rfl ⟨⟨_,rfl,?_⟩,⟨_,rfl,?_⟩,⟨_,rfl,?_⟩,trivial⟩) | (have q:=b8;clear q;refine DN [(6,[2009,1012,13,1014,15]),(9,[2006,1012,13,1014,15]),(12,[2006,1009,13,1014,15])] (by kernel_rfl) rfl ⟨⟨_,rfl,?_⟩,⟨_,rfl,?_⟩,⟨_,rfl,?_⟩,trivial⟩)))
 clear E;(try clear I);rintro a w ⟨b8,iK,eT,im,na,E,I⟩;refine RN 3 E I λa E=>?_;replace I:=I.bR 65 1 none;replace I:=U.iZ (f:=ba) I;rw[qV]at I;refine aQ (λμ a w=>∃ (i:Nat) (xs:List ef) (adL:Option Addr) (cL:Nat),(μ=n-i∧i≤n∧bk xs=List.replicate i (List.replicate aJ 0))∧Fr a 48 [(1,pt b1),(3,pt na),(4,.int .i64 i)]∧U W w (aa na 72 (zG n me id aJ bo a8 order cw workers room b8 iK eT im adL i cL)::Sl 65 1 adL i cL (xs.map aM)::ah ba xs::aa b8 3 (ints .i64 n (λ_=>0))::aa iK 3 (ints .i64 n (λj=>if j<i then aJ else 0))::aa eT 313 (rows (λ_:Pe=>[Value.int .i64 0,.int .u32 0]) (List.replicate n (fG 0)))::aa im 4 (List.replicate n (.bool false))::aa b1 28 [.int .i64 n,.int .i64 me,.int .i64 id,.int .i64 aJ,.int .i64 bo,.int .i64 a8,.int .i64 order,.int .i64 cw,.int .i64 workers,.int .i64 room]::L)) (n) (⟨0,[],none,0,⟨rfl,by omega,rfl⟩,E.ab [1,3,4],(I.sub:U W w (aa na 72 (zG n me id aJ bo a8 order cw workers room b8 iK eT im none 0 0)::Sl 65 1 none 0 0 []::ah ba []::aa b8 3 (ints .i64 n (λ_=>0))::aa iK 3 (ints .i64 n (λ_=>0))::aa eT 313 (rows (λ_:Pe=>[Value.int .i64 0,.int .u32 0]) (List.replicate n (fG 0)))::aa im 4 (List.replicate n (.bool false))::aa b1 28 [.int .i64 n,.int .i64 me,.int .i64 id,.int .i64 aJ,.int .i64 bo,.int .i64 a8,.int .i64 order,.int .i64 cw,.int .i64 workers,.int .i64 room]::L))⟩) ?_;clear E I;rintro μ a w ⟨i,xs,adL,cL,⟨rfl,hi,bd⟩,E,I⟩;refine IF 6 E I (λaj a E=>?_) λaj a E=>?_
 ·
  refine bW 2 [6,7,8,9] [0,1,2,3,5,3004,1006,1007,1008,1009,1010,11,12,1013] E I λa w E I hH hC=>?_;refine RH 7 E I hH hC λa E=>?_;refine rv E rfl I underlying22 Ty.t5 rfl (by omega) (by omega) λkg a w E I ho=>?_;replace hC:=hC.trans ho;clear ho;rw[Cu _ rfl,aby]at I;replace I:=I.LS (m:=aJ) (sz:=1) (by rw[dt,kC,fD]);refine RH 1 E I hH hC λa E=>?_;refine cn E rfl I underlying66 Ty.t65 rfl rfl rfl rfl (by decide) (by decide) λb35 a w E I ho=>?_;replace hC:=hC.trans ho;clear ho;refine RH 0 E I hH hC λa E=>?_;refine cK E rfl I underlying66 Ty.t65 rfl rfl I.ai rfl (by simp[Value.oneCell']) (by decide) (by decide) (by omega) λHf Hg a w E I=>?_;rw[show List.map aM xs++_=List.map aM (xs++[(some (⟨kg,0,none⟩:Addr),aJ,List.replicate aJ 0)]) from by rw[cS,map_singleton,aM,kC];rfl]at I;refine ST 2 E I (λa w E I=>?_);refine RN 0 E I λa E=>?_;refine bW 0 [6] [0,1,2,4,5,3003,1006,7,1008] E I λa w E I hH hC=>?_;refine RH 8 E I hH hC λa E=>?_;refine ST 0 E I (λa w E I=>?_) (hlt:=(by rw[di];omega));rw[ints_set,yd (g:=λj=>if j=i then (aJ:Int) else if j<i then (aJ:Int) else 0) (g':=λj=>if j<i+1 then (aJ:Int) else 0) (λj _=>by
   by_cases h1:j=i
   ·subst h1;simp
   ·by_cases h2:j<i
    ·simp[h1,h2,show j<i+1 from by omega]
    ·simp[h1,h2,show ¬ j<i+1 from by omega])]at I
  refine RN 3 E I λa E=>?_;have cI:=U.jY (f:=ba) (x:=(some (⟨kg,0,none⟩:Addr),aJ,List.replicate aJ 0)) (by
   show U _ _ (Sl 5 1 (some (⟨kg,0,none⟩:Addr)) (List.replicate aJ (0:UInt8)).length aJ (bc (List.replicate aJ 0))::_);rw[kC];exact I.sub (M:=Sl 5 1 (some ⟨kg,0,none⟩) aJ aJ (bc (List.replicate aJ 0))::ah ba xs::aa na 72 (zG n me id aJ bo a8 order cw workers room b8 iK eT im Hf (i+1) Hg)::Sl 65 1 Hf (i+1) Hg ((xs++[(some (⟨kg,0,none⟩:Addr),aJ,List.replicate aJ 0)]).map aM)::aa b8 3 (ints .i64 n (λ_=>0))::aa iK 3 (ints .i64 n (λj=>if j<i+1 then (aJ:Int) else 0))::aa eT 313 (rows (λ_:Pe=>[Value.int .i64 0,.int .u32 0]) (List.replicate n (fG 0)))::aa im 4 (List.replicate n (.bool false))::aa b1 28 [.int .i64 n,.int .i64 me,.int .i64 id,.int .i64 aJ,.int .i64 bo,.int .i64 a8,.int .i64 order,.int .i64 cw,.int .i64 workers,.int .i64 room]::L))
  exact⟨n-(i+1),by omega,i+1,xs++[(some (⟨kg,0,none⟩:Addr),aJ,List.replicate aJ 0)],Hf,Hg,⟨rfl,by omega,by rw[bk,cS,← bk,bd,replicate_succ'];rfl⟩,E.ab [1,3,4],cI.sub⟩
 refine RT 3 E I ?_;obtain rfl:i=n:=by omega
 obtain⟨lb,lo,rfl,_⟩:=(I.pick (Sl 65 1 adL i cL (xs.map aM))).bY adL (by omega);rw[yd (g:=λj=>if j<i then (aJ:Int) else 0) (g':=λ_=>(aJ:Int)) (λj hj=>by simp[hj])]at I;refine⟨⟨na,lb,lo,cL,b8,iK,eT,im⟩,rfl,?_⟩;have g5:(fv ⟨i,me,id,aJ,bo,a8,order,cw,workers,room⟩).ls.length=i:=by simp[fv]
 have h9:=I.sub (M:=Sl 65 1 (some ⟨lb,lo,none⟩) i cL (xs.map aM)::ah ba xs::aa na 72 (zG i me id aJ bo a8 order cw workers room b8 iK eT im (some ⟨lb,lo,none⟩) i cL)::aa b8 3 (ints .i64 i (λ_=>0))::aa iK 3 (ints .i64 i (λ_=>(aJ:Int)))::aa eT 313 (rows (λ_:Pe=>[Value.int .i64 0,.int .u32 0]) (List.replicate i (fG 0)))::aa im 4 (List.replicate i (.bool false))::L);have h8:=bP.close (ls:=List.replicate i (List.replicate aJ 0)) (by rw[kC];exact h9) bd;replace h8:=U.bR (U.bR h8 100 1 none) 102 3 none;refine U.shut (M:=[_,_,_,_,_,_,_,_]) (A:=a2 _ _) ?_ (λ_ h=>⟨⟨none,0,none,0⟩,h⟩);have gH:(fv ⟨i,me,id,aJ,bo,a8,order,cw,workers,room⟩).ps=List.replicate i (fG aJ):=by simp[fv]
 rw[cU,g5,gH,abu,abv,abw,abx];exact h8.sub (M:=aa na 72 (zG i me id aJ bo a8 order cw workers room b8 iK eT im (some ⟨lb,lo,none⟩) i cL)::bP lb lo cL (List.replicate i (List.replicate aJ 0))::aa b8 3 (ints .i64 i (λ_=>0))::aa iK 3 (ints .i64 i (λ_=>(aJ:Int)))::aa eT 313 (rows (λ_:Pe=>[Value.int .i64 0,.int .u32 0]) (List.replicate i (fG 0)))::aa im 4 (List.replicate i (.bool false))::Sl 100 1 none 0 0 []::Sl 102 3 none 0 0 []::L)
end
section
variable {W w:World}{L L':List SP}{n c m lb lo i f cl:Nat}{ad:Option Addr}{ls:List (List UInt8)}{k:Ks}{A:mY}{B:n4}{x:UInt8}
theorem NW {fr m aU cq:Nat}{adq:Option Addr}{q:List UInt8}(I:U W w L)(o8:w.cell? ⟨lb,aU,none⟩=some (.slice adq q.length cq))(hqc:q.length≤cq)(lU:∀ V,U W V L→aL V adq q.length q)(hl:q.length≤1000)(hf:fr≤1000)(hk:1≤m∧m≤1000) :
   Calls prog 113 #[.pointer (some ⟨lb,aU,none⟩),.int .i64 fr,.int .i64 m] w λr V=>∃ au c',r=.returned (.slice au ((q.drop fr).take m).length c')∧U W V (Sl 5 1 au ((q.drop fr).take m).length c' (bc ((q.drop fr).take m))::L):=by
 refine EN func113 ntmps113 rfl rfl λa E=>?_;refine RN 7 E I λa E=>?_;rw[bn (by omega)]at E;refine RN 4 E I λa E=>?_;refine bu E (cu E rfl (s:=10)) (ae E (o8)) rfl λa E=>?_;refine BY 4 E I (λk9 a E=>?_) λk9 a E=>?_
 ·
  refine RT 6 E I ?_;have hz:(q.drop fr).take m=[]:=by rw[drop_eq_nil_of_le (by omega),List.take_nil]
  rw[hz];exact⟨none,0,rfl,I.bR _ _ none⟩
 refine RN 3 E I λa E=>?_;rw[bn (by omega)]at E;refine RN 5 E I λa E=>?_;refine SS E (ae E (o8)) λa E=>?_;refine RN 9 E I λa E=>?_;rw[show min (m:Int) ((((q.length-fr:Nat):Int)))=((min m (q.length-fr):Nat):Int) from by omega]at E;refine RN 1 E I λa E=>?_;rw[pB,Nat.sub_zero,Nat.sub_zero]at E;have zH:=((lU _ I).zd (c:=cq) (lo:=fr) (n:=min m (q.length-fr)) (by omega) hqc);have hte:(q.drop fr).take (min m (q.length-fr))=(q.drop fr).take m:=by rw[List.take_eq_take_iff,c4];omega
 rw[hte]at zH;have eU:min m (q.length-fr)=((q.drop fr).take m).length:=by rw[dH,c4]
 rw[eU]at E zH;replace I:=I.bR 5 1 none;refine g3 E rfl I underlying22 Ty.t5 rfl rfl (by decide) (λh0=>zH.get h0) (by rw[dt];omega) (eF _) (by rw[dH,c4];omega) λFE FF a w E I=>?_;rw[nil_append,ep]at I;rw[ep]at E;refine RT 1 E I ?_;exact⟨_,_,rfl,I⟩
theorem a2.Cx (I:U W w (a2 B k::L)):∃ (A:mY) (D:SP),U W w (aa B.cb 72 (cU k B A)::D::L)∧∀ (V:World) (L':List SP) (nw:Nat) (cl:Bool),U W V (aa B.cb 72 (cU { k with now:=nw,cl:=cl } B A)::D::L')→U W V (a2 B { k with now:=nw,cl:=cl }::L'):=by
 obtain⟨A,I⟩:=a2.open I;have h1:U W w ([bP B.lb B.lo B.cL k.ls,aa B.hb 3 (fe k.ps),aa B.ec 3 (e0 k.ps),aa B.wb 313 (rows fg k.ps),aa B.xb 4 (ff k.ps),Sl 100 1 A.ch k.mr.length A.cM (c0 k.mr),Sl 102 3 A.adE k.ev.length A.cE (rows bZ k.ev)]++(aa B.cb 72 (cU k B A)::L)):=I.sub (M:=bP B.lb B.lo B.cL k.ls::aa B.hb 3 (fe k.ps)::aa B.ec 3 (e0 k.ps)::aa B.wb 313 (rows fg k.ps)::aa B.xb 4 (ff k.ps)::Sl 100 1 A.ch k.mr.length A.cM (c0 k.mr)::Sl 102 3 A.adE k.ev.length A.cE (rows bZ k.ev)::aa B.cb 72 (cU k B A)::L);refine⟨A,λh=>cp [bP B.lb B.lo B.cL k.ls,aa B.hb 3 (fe k.ps),aa B.ec 3 (e0 k.ps),aa B.wb 313 (rows fg k.ps),aa B.xb 4 (ff k.ps),Sl 100 1 A.ch k.mr.length A.cM (c0 k.mr),Sl 102 3 A.adE k.ev.length A.cE (rows bZ k.ev)] h,?_,λV L' nw cl I=>?_⟩
 ·exact (U.shut (A:=λh=>cp [bP B.lb B.lo B.cL k.ls,aa B.hb 3 (fe k.ps),aa B.ec 3 (e0 k.ps),aa B.wb 313 (rows fg k.ps),aa B.xb 4 (ff k.ps),Sl 100 1 A.ch k.mr.length A.cM (c0 k.mr),Sl 102 3 A.adE k.ev.length A.cE (rows bZ k.ev)] h) h1 λ_ h=>h).perm (cW _ _ _)
 ·have h2:U W V (bP B.lb B.lo B.cL k.ls::aa B.hb 3 (fe k.ps)::aa B.ec 3 (e0 k.ps)::aa B.wb 313 (rows fg k.ps)::aa B.xb 4 (ff k.ps)::Sl 100 1 A.ch k.mr.length A.cM (c0 k.mr)::Sl 102 3 A.adE k.ev.length A.cE (rows bZ k.ev)::aa B.cb 72 (cU { k with now:=nw,cl:=cl } B A)::L'):=(I.perm (cW _ _ _)).open (M:=[_,_,_,_,_,_,_]) λ_ h=>h;exact a2.fold h2 B { k with now:=nw,cl:=cl } A
def xE (k:Ks)(i:Nat):List Ml:=(lu k i).map λj=>(k.me,j,aS (gy k j))
def xF (k:Ks)(i:Nat):List Ml:=(lu k i).map λj=>(k.me,j,aS (dV k j))
theorem abA (I:U W w (a2 B k::L))(hk:WC k):Calls prog 74 #[pt B.cb] w λr V=>∃ ad c,r=.returned (.slice ad (bF k).1.length c)∧U W V (bU 60 ad (bF k).1.length c (bF k).1::a2 B (bF k).2::L):=by
 have hn:=hk.n;obtain⟨A,D,I,hD⟩:=a2.Cx I;refine EN func74 ntmps74 rfl rfl λa E=>?_;refine IF 8 E I (λaj a E=>?_) λaj a E=>?_
 ·
  refine RT 2 E I ?_;refine⟨none,0,by rw[bF,ak aj];rfl,?_⟩;rw[bF,ak aj];exact bU.nil (hD _ _ k.now k.cl I)
 refine RN 5 E I λa E=>?_;have hq:bF k=((bI k).map λi=>(k.me,i,aS (gy k i)),{ k with cl:=true }):=by rw[bF,ag (by rw[aj];decide)]
 replace I:=U.bR (U.iZ (f:=bS) I) 60 3 none;refine aQ (λμ a w=>∃ (i:Nat) (xs:List Mx) (ad:Option Addr) (c:Nat),(μ=k.n-i∧i≤k.n∧xs.map (·.2.2)=xE k i∧xs.length≤i)∧Fr a 52 [(0,pt B.cb),(3,.slice ad xs.length c),(4,.int .i64 i)]∧U W w (Sl 60 3 ad xs.length c (rows bJ xs)::ah bS xs::aa B.cb 72 (cU k B A)::D::L)) (k.n) (⟨0,[],none,0,⟨rfl,by omega,rfl,bh _⟩,E.ab [0,3,4],I⟩) ?_;clear E I;rintro μ a w ⟨i,xs,ad,c,⟨rfl,hi,eh,b0⟩,E,I⟩;refine IF 9 E I (λao a E=>?_) λao a E=>?_
 ·
  have lT:xE k (i+1)=if i=k.me then xE k i else xE k i++[(k.me,i,aS (gy k i))]:=by
   rw[xE,Gm];split
   ·rfl
   ·rw[cS];rfl
  refine IF 9 E I (λay a E=>?_) λay a E=>?_
  ·
   rw[ag (by omega)]at lT;refine a1 0 (λw0 V=>Rd V B.cb 0 (cU k B A)) [11,17,18,19] [0,1,2,3,4,6,7,8,9,10,12,13,14,15,16,3005,3011,1017,1018,1019,20,1021,1022,23] E I λa w E I hH=>?_;have hC:=hH.at w (I.ai (b:=B.cb));refine RH 15 E I hH hC λa E=>?_;refine QH E (λw hc=>ae E (hc 1 _ rfl)) hC λa E=>?_;refine QH E (λw hc=>ae E (hc 1 _ rfl)) hC λa E=>?_;refine RH 0 E I hH hC λa E=>?_;refine SS E (ae E (hC 2 _ rfl)) λa E=>?_;refine RH 1 E I hH hC λa E=>?_;refine aX 0 E I (FT (p:=gy k i) (ad:=none) (c:=0) I (by show 0<4294967296;decide) (λV hw=>aL.nil)) λad2 c2 a w E I=>?_;replace hC:=hH.at w (I.ai (b:=B.cb));refine RH 1 E I hH hC λa E=>?_;refine cn E rfl I underlying37 Ty.t60 rfl rfl rfl rfl (by decide) (by decide) λb46 a w E I ho=>?_;clear ho;refine RN 0 E I λa E=>?_;refine cK E rfl I underlying37 Ty.t60 rfl rfl I.ai rfl (by simp[Value.oneCell']) (by decide) (by decide) (by omega) λp1 r9 a w E I=>?_;rw[show rows bJ xs++_=rows bJ (xs++[(ad2,c2,(k.me,i,aS (gy k i)))]) from by rw[kz];rfl,show xs.length+1=(xs++[(ad2,c2,(k.me,i,aS (gy k i)))]).length from by simp]at I;rw[show xs.length+1=(xs++[(ad2,c2,(k.me,i,aS (gy k i)))]).length from by simp]at E;refine RN 1 E I λa E=>?_;refine RN 3 E I λa E=>?_;have cI:=U.jY (f:=bS) (x:=(ad2,c2,(k.me,i,aS (gy k i)))) (I.sub (M:=Sl 5 1 ad2 (aS (gy k i)).length c2 (bc (aS (gy k i)))::ah bS xs::Sl 60 3 p1 (xs++[(ad2,c2,(k.me,i,aS (gy k i)))]).length r9 (rows bJ (xs++[(ad2,c2,(k.me,i,aS (gy k i)))]))::aa B.cb 72 (cU k B A)::D::L));exact⟨k.n-(i+1),by omega,i+1,xs++[(ad2,c2,(k.me,i,aS (gy k i)))],p1,r9,⟨rfl,by omega,by rw[cS,eh,lT];rfl,by rw[aN];simp;omega⟩,E.ab [0,3,4],cI.sub⟩
  rw[ak (by omega)]at lT;refine RN 3 E I λa E=>?_;exact⟨k.n-(i+1),by omega,i+1,xs,ad,c,⟨rfl,by omega,by rw[lT,eh],by omega⟩,E.ab [0,3,4],I⟩
 obtain rfl:i=k.n:=by omega
 refine ST 4 E I (λa w E I=>?_);refine RT 3 E I ?_;have g5:xs.length=((bI k).map λi=>(k.me,i,aS (gy k i))).length:=by
  have h1:(xs.map (·.2.2)).length=(xE k k.n).length:=by rw[eh]
  rw[bf]at h1;exact h1
 rw[hq];refine⟨ad,c,by rw[g5],?_⟩;rw[g5]at I;have h5:=hD _ _ k.now true (I.sub (M:=aa B.cb 72 (cU { k with now:=k.now,cl:=true } B A)::D::Sl 60 3 ad ((bI k).map λi=>(k.me,i,aS (gy k i))).length c (rows bJ xs)::ah bS xs::L));exact bU.close (xs:=xs) h5.sub eh rfl
theorem abB {k:Ks}{i:Nat}(h1:∀ j,j<i→j≠k.me→¬ jD k j)(hi:i<k.n)(hm:i≠k.me)(hl:jD k i):(bI k).find? (λi=>decide (jD k i))=some i:=by
 rw[bI,List.find?_filter,List.find?_range_eq_some];refine⟨by simp[hm,hl],by simpa using hi,λj hj=>?_⟩;by_cases vn:j=k.me
 ·simp[vn]
 ·simp[h1 j hj vn]
theorem abC {k:Ks}(h1:∀ j,j<k.n→j≠k.me→¬ jD k j):(bI k).find? (λi=>decide (jD k i))=none :=
 Mz λj hj=>bn (h1 j (ve.1 hj).1 (ve.1 hj).2)
set_option maxHeartbeats 2000000 in
theorem abD (I:U W w (a2 B k::L))(hk:WC k)(pv:k.now≤1000000):Calls prog 73 #[pt B.cb] w λr V=>∃ ad c,r=.returned (.slice ad (bq k).1.length c)∧U W V (bU 60 ad (bq k).1.length c (bq k).1::a2 B (bq k).2::L):=by
 have hn:=hk.n;obtain⟨A0,D,I,hD⟩:=a2.Cx I;refine EN func73 ntmps73 rfl rfl λa E=>?_;refine IF 8 E I (λaj a E=>?_) λaj a E=>?_
 ·
  refine RT 2 E I ?_;refine⟨none,0,by rw[bq,ak aj];rfl,?_⟩;rw[bq,ak aj];exact bU.nil (hD _ _ k.now k.cl I)
 have il:bq k=(match (bI { k with now:=k.now+1 }).find? (λi=>decide (jD { k with now:=k.now+1 } i)) with
  | some i=>([],{ ({ k with now:=k.now+1 }:Ks) with ev:=({ k with now:=k.now+1 }:Ks).ev++[(2,i,0)],cl:=true })
  | none=>((bI { k with now:=k.now+1 }).map λi=>(({ k with now:=k.now+1 }:Ks).me,i,aS (dV { k with now:=k.now+1 } i)),{ k with now:=k.now+1 })):=by rw[bq,ag (by rw[aj];decide)];rfl
 refine RN 6 E I λa E=>?_;rw[show ((k.now:Nat):Int)+1=((k.now+1:Nat):Int) from by omega]at E;refine ST 2 E I (λa w E I=>?_);refine RN 0 E I λa E=>?_;replace I:=hD _ _ (k.now+1) k.cl I;clear hD;have e7:WC { k with now:=k.now+1 }:=hk.BW;have p7:=hk.kQ;have Gq:({ k with now:=k.now+1 }:Ks).now≤1000001:=by show k.now+1≤_;omega
 have Gr:({ k with now:=k.now+1 }:Ks).ev.length≤9:=p7;have Gt:2≤({ k with now:=k.now+1 }:Ks).n∧({ k with now:=k.now+1 }:Ks).n≤8:=hn;have abE:({ k with now:=k.now+1 }:Ks).cl=false:=aj;replace I:U W w (a2 B { k with now:=k.now+1 }::L):=I;generalize ({ k with now:=k.now+1 }:Ks)=k1 at I e7 il Gq Gr Gt abE;obtain⟨A,I⟩:=a2.open I;refine RN 3 E I λa E=>?_;refine aQ (λμ a w=>∃ (i:Nat),(μ=k1.n-i∧i≤k1.n∧∀ j,j<i→j≠k1.me→¬ jD k1 j)∧Fr a 154 [(0,pt B.cb),(3,.int .i64 i)]∧U W w (aa B.cb 72 (cU k1 B A)::bP B.lb B.lo B.cL k1.ls::aa B.hb 3 (fe k1.ps)::aa B.ec 3 (e0 k1.ps)::aa B.wb 313 (rows fg k1.ps)::aa B.xb 4 (ff k1.ps)::Sl 100 1 A.ch k1.mr.length A.cM (c0 k1.mr)::Sl 102 3 A.adE k1.ev.length A.cE (rows bZ k1.ev)::L)) (k1.n) (⟨0,⟨rfl,by omega,λj hj=>by omega⟩,E.ab [0,3],I⟩) ?_;clear E I;rintro μ a w ⟨i,⟨rfl,hi,b6⟩,E,I⟩;refine IF 9 E I (λao a E=>?_) λao a E=>?_
 ·
  have cF:i<k1.n:=by omega
  have aF:i<k1.ps.length:=by rw[e7.ps];exact cF
  have ix:=e7.p4 cF;have fb:=vi aF;refine bW 2 [15,17,18] [0,1,2,3,4,1005,6,7,8,9,10,12,13,14,16,3011,1015,1017,1018,19,20,21] E I λa w E I hH hC=>?_;have jQ:Rd w B.cb 0 (cU k1 B A):=I.ai (b:=B.cb);have hrh:=I.bz (b:=B.hb) (abj fb);refine RH 5 E I hH hC λa E=>?_;refine SS E (ae E (jQ 1 _ rfl)) λa E=>?_;refine RH 2 E I hH hC λa E=>?_;refine E.by (s:=34) (λiN E=>?_) (λiN E=>?_)
  ·
   refine RH 7 E I hH hC λa E=>?_;refine QH E (λw hc=>ae E (hc.cell (jQ 11 _ rfl))) hC λa E=>?_;refine RH 0 E I hH hC λa E=>?_;refine bu E (cu E rfl (s:=34)) (ae E (jQ 12 _ rfl)) rfl λa E=>?_;refine RH 1 E I hH hC λa E=>?_;refine bu E (cu E rfl (s:=34)) (ae E (hrh)) rfl λa E=>?_;refine RH 3 E I hH hC λa E=>?_;refine IF 0 E I (λay a E=>?_) λay a E=>?_
   ·
    have hlt:jD k1 i:=by rw[jD];omega
    rw[abB b6 cF (by omega) hlt]at il;replace I:=a2.fold I B k1 A;refine CL 3 E I (Hb (kd:=2) (pl:=i) (fr:=0) I (by omega)) λa w E I=>?_;refine RN 1 E I λa E=>?_;obtain⟨A2,D2,I,hD2⟩:=a2.Cx I;refine ST 3 E I (λa w E I=>?_);refine RN 0 E I λa E=>?_;replace I:=hD2 _ _ k1.now true I;refine RT 2 E I ?_;rw[il];exact⟨none,0,rfl,bU.nil I⟩
   refine RN 3 E I λa E=>?_;exact⟨k1.n-(i+1),by omega,i+1,⟨rfl,by omega,λj hj vn=>by
    by_cases h:j=i
    ·subst h;rw[jD];omega
    ·exact b6 j (by omega) vn⟩,E.ab [0,3],I⟩
  refine RH 14 E I hH hC λa E=>?_;refine RN 4 E I λa E=>?_;exact⟨k1.n-(i+1),by omega,i+1,⟨rfl,by omega,λj hj vn=>by
   by_cases h:j=i
   ·omega
   ·exact b6 j (by omega) vn⟩,E.ab [0,3],I⟩
 obtain rfl:i=k1.n:=by omega
 rw[abC b6]at il;clear b6;have Ms:=e7.mr;have eo:k1.me<k1.ls.length:=by rw[e7.ls];exact e7.me
 obtain⟨xs,bd,I⟩:=bP.open (I.pick (bP B.lb B.lo B.cL k1.ls));have b0:xs.length=k1.ls.length:=by rw[← bd,gn]
 obtain⟨y,hy⟩:∃ y,xs[k1.me]?=some y:=⟨_,aD (by omega)⟩;have tW:k1.ls.getD k1.me []=y.2.2:=by rw[← bd,tS hy]
 have iS:y.2.2.length≤1000:=by rw[← tW];exact e7.lO
 have o6:y.2.2.length≤y.2.1:=by
  obtain⟨tV,tT⟩:=aZ.1 hy;have h1:=((I.pick (ah ba xs)).fo tV);rw[tT]at h1;have h2:U W w (Sl 5 1 y.1 y.2.2.length y.2.1 (bc y.2.2)::_):=h1;exact (h2.sl y.1).2
 refine RN 5 E I λa E=>?_;replace I:=U.bR (U.iZ (f:=bS) I) 60 3 none;refine aQ (λμ a w=>∃ (i:Nat) (zs:List Mx) (ad:Option Addr) (c:Nat),(μ=k1.n-i∧i≤k1.n∧zs.map (·.2.2)=xF k1 i∧zs.length≤i)∧Fr a 154 [(0,pt B.cb),(4,.slice ad zs.length c),(5,.int .i64 i)]∧U W w (Sl 60 3 ad zs.length c (rows bJ zs)::ah bS zs::aa B.cb 72 (cU k1 B A)::Sl 65 1 (some ⟨B.lb,B.lo,none⟩) k1.ls.length B.cL (xs.map aM)::ah ba xs::aa B.hb 3 (fe k1.ps)::aa B.ec 3 (e0 k1.ps)::aa B.wb 313 (rows fg k1.ps)::aa B.xb 4 (ff k1.ps)::Sl 100 1 A.ch k1.mr.length A.cM (c0 k1.mr)::Sl 102 3 A.adE k1.ev.length A.cE (rows bZ k1.ev)::L)) (k1.n) (⟨0,[],none,0,⟨(Nat.sub_zero _).symm,Nat.zero_le _,rfl,bh _⟩,E.ab [0,4,5],(show U W w (Sl 60 3 none ([]:List Mx).length 0 (rows bJ [])::ah bS []::_) from I).sub⟩) ?_;clear E I;rintro μ a w ⟨i,zs,ad,c,⟨rfl,hi,q4,jt⟩,E,I⟩;refine IF 9 E I (λbj a E=>?_) λbj a E=>?_
 ·
  have lT:xF k1 (i+1)=if i=k1.me then xF k1 i else xF k1 i++[(k1.me,i,aS (dV k1 i))]:=by
   rw[xF,Gm];split
   ·rfl
   ·rw[cS];rfl
  have cF:i<k1.n:=by omega
  have aF:i<k1.ps.length:=by rw[e7.ps];exact cF
  have ix:=e7.p4 cF;have fb:=vi aF;obtain⟨z,hz⟩:∃ z,xs[i]?=some z:=⟨_,aD (by rw[b0,e7.ls];exact cF)⟩;have hzq:k1.ls.getD i []=z.2.2:=by rw[← bd,tS hz]
  refine IF 10 E I (λbO a E=>?_) λbO a E=>?_
  ·
   rw[ak (by omega)]at lT;refine RN 3 E I λa E=>?_;exact⟨k1.n-(i+1),by omega,i+1,zs,ad,c,⟨rfl,by omega,by rw[lT,q4],by omega⟩,E.ab [0,4,5],I⟩
  rw[ag (by omega)]at lT;refine RN 0 E I λa E=>?_;refine cc (M:=λa w=>∃ (cG:Nat) (cX:Option Addr) (dU:Nat),Fr a 154 [(0,pt B.cb),(4,.slice ad zs.length c),(5,.int .i64 i),(6,pt cG)]∧U W w (aa cG 203 [.int .i64 1,.int .i64 k1.me,.int .i64 i,.int .i64 k1.id,.int .i64 (ar k1 i).has,.slice cX ((y.2.2.drop (ar k1 i).has).take 32).length dU,.int .i64 z.2.2.length,.int .i64 k1.mr.length,.int .u32 0]::Sl 5 1 cX ((y.2.2.drop (ar k1 i).has).take 32).length dU (bc ((y.2.2.drop (ar k1 i).has).take 32))::Sl 60 3 ad zs.length c (rows bJ zs)::ah bS zs::aa B.cb 72 (cU k1 B A)::Sl 65 1 (some ⟨B.lb,B.lo,none⟩) k1.ls.length B.cL (xs.map aM)::ah ba xs::aa B.hb 3 (fe k1.ps)::aa B.ec 3 (e0 k1.ps)::aa B.wb 313 (rows fg k1.ps)::aa B.xb 4 (ff k1.ps)::Sl 100 1 A.ch k1.mr.length A.cM (c0 k1.mr)::Sl 102 3 A.adE k1.ev.length A.cE (rows bZ k1.ev)::L)) ?_ ?_
  ·
   refine a1 0 (λw0 V=>Rd V B.cb 0 (cU k1 B A)∧V.cell? ⟨B.ec,i,none⟩=some (.int .i64 (ar k1 i).has)∧Rd V B.lb B.lo (xs.map aM)) [10,14,16,17,21,26,27,31,33,34,35,39,41,42,43,44,48,49,51] [0,1,2,3,5,6,7,8,9,11,12,13,15,18,19,20,22,23,24,25,28,29,30,32,36,37,38,40,45,46,47,3004,3010,3014,3016,3017,3021,3026,3027,3031,3033,3034,3039,3041,3042,3043,3044,3048,3049,2035,50,1051,1052] E I λa w E I hH=>?_;have hC:=hH.at w ⟨I.ai (b:=B.cb),I.bz (b:=B.ec) (xB fb),I.cJ B.lb B.lo (by omega)⟩;refine RH 31 E I hH hC λa E=>?_;refine QH E (λw hc=>ae E (hc.1 1 _ rfl)) hC λa E=>?_;refine QH E (λw hc=>ae E (hc.1 2 _ rfl)) hC λa E=>?_;refine QH E (λw hc=>ae E (hc.1 13 _ rfl)) hC λa E=>?_;refine RH 1 E I hH hC λa E=>?_;refine QH E (λw hc=>ae E (hc.2.1)) hC λa E=>?_;refine QH E (λw hc=>ae E (hc.1 10 _ rfl)) hC λa E=>?_;refine QH E (λw hc=>ae E (hc.1 1 _ rfl)) hC λa E=>?_;refine RH 1 E I hH hC λa E=>?_;refine QH E (λw hc=>ae E (hc.1 13 _ rfl)) hC λa E=>?_;refine RH 1 E I hH hC λa E=>?_;refine QH E (λw hc=>ae E (hc.2.1)) hC λa E=>?_;refine QH E (λw hc=>ae E (hc.1 10 _ rfl)) hC λa E=>?_;refine QH E (λw hc=>Iq E underlying66 Ty.t65 (by rw[e7.ls];exact cF)) hC λa E=>?_;rw[fD]at E;refine RH 1 E I hH hC λa E=>?_;refine QH E (λw hc=>ae E (hc.2.2 i (aM z) (by rw[bm,hz];rfl))) hC λa E=>?_;rw[aM]at E;refine RH 1 E I hH hC λa E=>?_;refine QH E (λw hc=>ae E (hc.1 16 _ rfl)) hC λa E=>?_;refine RH 1 E I hH hC λa E=>?_;refine DN [(35,[50,1051,1052]),(51,[1035,50,1052])] (by kernel_rfl) rfl ⟨⟨_,rfl,?_⟩,⟨_,rfl,?_⟩,trivial⟩
   ·
    refine RH 0 E I hH hC λa E=>?_;refine aX 0 E I (NW (q:=y.2.2) (adq:=y.1) (cq:=y.2.1) (m:=32) I (by have h9:=hC.2.2 k1.me (aM y) (by rw[bm,hy];rfl);exact h9) o6 (λV hw=>(U.o9 (hw.sub (M:=Sl 65 1 (some ⟨B.lb,B.lo,none⟩) k1.ls.length B.cL (xs.map aM)::ah ba xs::[]))).2 y (bH hy)) iS ix.1 (by decide)) λcX dU a w E I=>?_;replace hC:=hH.at w ⟨I.ai (b:=B.cb),I.bz (b:=B.ec) (xB fb),I.cJ B.lb B.lo (by omega)⟩;refine RH 1 E I hH hC λa E=>?_;refine e5 E rfl I Ty.t203 rfl λcG a w E I ho=>?_;clear ho;replace hC:=hH.at w ⟨I.ai (b:=B.cb),I.bz (b:=B.ec) (xB fb),I.cJ B.lb B.lo (by omega)⟩;refine RH 0 E I hH hC λa E=>?_;refine SA 0 E I λa w E I=>?_;refine RN 0 E I λa E=>?_;exact⟨cG,cX,dU,E.ab [0,4,5,6],I.sub⟩
   refine RH 0 E I hH hC λa E=>?_;refine e5 E rfl I Ty.t203 rfl λcG a w E I ho=>?_;clear ho;replace hC:=hH.at w ⟨I.ai (b:=B.cb),I.bz (b:=B.ec) (xB fb),I.cJ B.lb B.lo (by omega)⟩;refine RH 0 E I hH hC λa E=>?_;refine aX 0 E I (NW (q:=y.2.2) (adq:=y.1) (cq:=y.2.1) (m:=32) I (by have h9:=hC.2.2 k1.me (aM y) (by rw[bm,hy];rfl);exact h9) o6 (λV hw=>(U.o9 (hw.sub (M:=Sl 65 1 (some ⟨B.lb,B.lo,none⟩) k1.ls.length B.cL (xs.map aM)::ah ba xs::[]))).2 y (bH hy)) iS ix.1 (by decide)) λcX dU a w E I=>?_;replace hC:=hH.at w ⟨I.ai (b:=B.cb),I.bz (b:=B.ec) (xB fb),I.cJ B.lb B.lo (by omega)⟩;refine RH 1 E I hH hC λa E=>?_;refine SA 0 E I λa w E I=>?_;refine RN 0 E I λa E=>?_;exact⟨cG,cX,dU,E.ab [0,4,5,6],I.sub⟩
  clear E;(try clear I);rintro a w ⟨cG,cX,dU,E,I⟩;refine cc (M:=λa w=>Fr a 154 [(0,pt B.cb),(4,.slice ad zs.length c),(5,.int .i64 i),(6,pt cG)]∧U W w (aa cG 203 [.int .i64 1,.int .i64 k1.me,.int .i64 i,.int .i64 k1.id,.int .i64 (ar k1 i).has,.slice cX ((y.2.2.drop (ar k1 i).has).take 32).length dU,.int .i64 z.2.2.length,.int .i64 k1.mr.length,.int .u32 (k1.mr.getLastD 0:Nat)]::Sl 5 1 cX ((y.2.2.drop (ar k1 i).has).take 32).length dU (bc ((y.2.2.drop (ar k1 i).has).take 32))::Sl 60 3 ad zs.length c (rows bJ zs)::ah bS zs::aa B.cb 72 (cU k1 B A)::Sl 65 1 (some ⟨B.lb,B.lo,none⟩) k1.ls.length B.cL (xs.map aM)::ah ba xs::aa B.hb 3 (fe k1.ps)::aa B.ec 3 (e0 k1.ps)::aa B.wb 313 (rows fg k1.ps)::aa B.xb 4 (ff k1.ps)::Sl 100 1 A.ch k1.mr.length A.cM (c0 k1.mr)::Sl 102 3 A.adE k1.ev.length A.cE (rows bZ k1.ev)::L)) ?_ ?_
  ·
   refine IF 7 E I (λeZ a E=>?_) λeZ a E=>?_
   ·
    refine bW 0 [7,8,9] [0,1,2,4,5,6,3003,1007,1008,1009,10,1011,12,1013] E I λa w E I hH hC=>?_;obtain⟨Gj,Gk,Gp,lS⟩:=((I).pick (Sl 100 1 A.ch k1.mr.length A.cM (c0 k1.mr))).bY A.ch (by omega);have jQ:w.cell? ⟨B.cb,16,none⟩=some (.slice A.ch k1.mr.length A.cM):=I.bz (b:=B.cb) rfl;rw[Gp]at jQ;refine RH 6 E I hH hC λa E=>?_;refine QH E (λw hc=>ae E (hc.cell (jQ))) hC λa E=>?_;refine RH 0 E I hH hC λa E=>?_;refine SS E (ae E (jQ)) λa E=>?_;refine RH 2 E I hH hC λa E=>?_;rw[show ((k1.mr.length:Nat):Int)-1=((k1.mr.length-1:Nat):Int) from by omega]at E;refine RH 1 E I hH hC λa E=>?_;refine SS E (ae E (lS (k1.mr.length-1) _ (B3 (by omega)))) λa E=>?_;refine RH 1 E I hH hC λa E=>?_;refine ST 0 E I (λa w E I=>?_);refine RN 0 E I λa E=>?_;rw[Mr (by omega)]at I;exact⟨E.ab [0,4,5,6],I.sub⟩
   refine RN 0 E I λa E=>?_;have h0:k1.mr.getLastD 0=0:=by rw[hG (l:=k1.mr) (by omega)];rfl
   exact⟨E.ab [0,4,5,6],by rw[h0];exact I⟩
  clear E;(try clear I);rintro a w ⟨E,I⟩;refine RN 0 E I λa E=>?_;have hmp:dR (dV k1 i) cX dU=[.int .i64 1,.int .i64 k1.me,.int .i64 i,.int .i64 k1.id,.int .i64 (ar k1 i).has,.slice cX ((y.2.2.drop (ar k1 i).has).take 32).length dU,.int .i64 z.2.2.length,.int .i64 k1.mr.length,.int .u32 (k1.mr.getLastD 0:Nat)]:=by
   rw[← tW,← hzq];rfl
  have abF:(dV k1 i).al=(y.2.2.drop (ar k1 i).has).take 32:=by rw[← tW];rfl
  rw[← hmp]at I;refine a1 0 (λw0 V=>Rd V B.cb 0 (cU k1 B A)∧Rd V cG 0 (dR (dV k1 i) cX dU)) [7,8] [0,1,2,3,4,6,3005,1007,1008,9,1010,1011,12] E I λa w E I hH=>?_;have hC:=hH.at w ⟨I.ai (b:=B.cb),I.ai (b:=cG)⟩;refine RH 6 E I hH hC λa E=>?_;refine QH E (λw hc=>ae E (hc.1 1 _ rfl)) hC λa E=>?_;refine RH 0 E I hH hC λa E=>?_;refine SS E (bQ E underlying203 rfl Ty.t203 (hC.2)) λa E=>?_;refine RH 0 E I hH hC λa E=>?_;refine aX 0 E I (FT (p:=dV k1 i) (ad:=cX) (c:=dU) I (by
   show k1.mr.getLastD 0<4294967296;rw[getLastD_eq_getLast?];cases hl:k1.mr.getLast? with
   | none=>decide
   | some s=>exact e7.sg s (List.mem_of_getLast? hl)) (λV hw=>by
   have h9:=(hw.pick (Sl 5 1 cX ((y.2.2.drop (ar k1 i).has).take 32).length dU (bc ((y.2.2.drop (ar k1 i).has).take 32)))).cr cX _ rfl rfl;rw[abF];exact h9)) λad2 c2 a w E I=>?_
  replace hC:=hH.at w ⟨I.ai (b:=B.cb),I.ai (b:=cG)⟩;refine RH 1 E I hH hC λa E=>?_;refine cn E rfl I underlying37 Ty.t60 rfl rfl rfl rfl (by decide) (by decide) λagm a w E I ho=>?_;clear ho;refine RN 0 E I λa E=>?_;refine cK E rfl I underlying37 Ty.t60 rfl rfl I.ai rfl (by simp[Value.oneCell']) (by decide) (by decide) (by omega) λNX NY a w E I=>?_;rw[show rows bJ zs++_=rows bJ (zs++[(ad2,c2,(k1.me,i,aS (dV k1 i)))]) from by rw[kz];rfl,show zs.length+1=(zs++[(ad2,c2,(k1.me,i,aS (dV k1 i)))]).length from by simp]at I;rw[show zs.length+1=(zs++[(ad2,c2,(k1.me,i,aS (dV k1 i)))]).length from by simp]at E;refine RN 1 E I λa E=>?_;refine RN 3 E I λa E=>?_;have cI:=U.jY (f:=bS) (x:=(ad2,c2,(k1.me,i,aS (dV k1 i)))) (I.sub (M:=Sl 5 1 ad2 (aS (dV k1 i)).length c2 (bc (aS (dV k1 i)))::ah bS zs::Sl 60 3 NX (zs++[(ad2,c2,(k1.me,i,aS (dV k1 i)))]).length NY (rows bJ (zs++[(ad2,c2,(k1.me,i,aS (dV k1 i)))]))::aa B.cb 72 (cU k1 B A)::Sl 65 1 (some ⟨B.lb,B.lo,none⟩) k1.ls.length B.cL (xs.map aM)::ah ba xs::aa B.hb 3 (fe k1.ps)::aa B.ec 3 (e0 k1.ps)::aa B.wb 313 (rows fg k1.ps)::aa B.xb 4 (ff k1.ps)::Sl 100 1 A.ch k1.mr.length A.cM (c0 k1.mr)::Sl 102 3 A.adE k1.ev.length A.cE (rows bZ k1.ev)::L));exact⟨k1.n-(i+1),by omega,i+1,zs++[(ad2,c2,(k1.me,i,aS (dV k1 i)))],NX,NY,⟨rfl,by omega,by rw[cS,q4,lT];rfl,by rw[aN];simp;omega⟩,E.ab [0,4,5],cI.sub⟩
 obtain rfl:i=k1.n:=by omega
 refine RT 3 E I ?_;have g5:zs.length=((bI k1).map λi=>(k1.me,i,aS (dV k1 i))).length:=by
  have h1:(zs.map (·.2.2)).length=(xF k1 k1.n).length:=by rw[q4]
  rw[bf]at h1;exact h1
 rw[il];refine⟨ad,c,by rw[g5],?_⟩;rw[g5]at I;have h4:=bP.close (xs:=xs) (ls:=k1.ls) (lb:=B.lb) (lo:=B.lo) (c:=B.cL) (W:=W) (w:=w) (L:=Sl 60 3 ad ((bI k1).map λi=>(k1.me,i,aS (dV k1 i))).length c (rows bJ zs)::ah bS zs::aa B.cb 72 (cU k1 B A)::aa B.hb 3 (fe k1.ps)::aa B.ec 3 (e0 k1.ps)::aa B.wb 313 (rows fg k1.ps)::aa B.xb 4 (ff k1.ps)::Sl 100 1 A.ch k1.mr.length A.cM (c0 k1.mr)::Sl 102 3 A.adE k1.ev.length A.cE (rows bZ k1.ev)::L) I.sub bd;have h5:=(a2.fold h4 B k1 A);exact bU.close (xs:=zs) h5.sub q4 rfl
end
section
variable {W w:World}{L R:List SP}{n c lb lo i f cl to:Nat}{ad:Option Addr}{ls:List (List UInt8)}{k:Ks}{A:mY}{B:n4}{bs:List UInt8}{e:kj}
theorem abG {a b:Nat}:((max a b:Nat):Int)=max (a:Int) (b:Int):=by omega
theorem abH {l:List (List UInt8)}(h:l.length=k.ls.length)(ps:List Pe):cU { k with ls:=l,ps:=ps } B A=cU k B A:=by simp only[cU,h]
theorem a2.abI (I:U W w L)(B:n4)(k:Ks)(A:mY){l:List (List UInt8)}(h:l.length=k.ls.length)[kk:fN L [aa B.cb 72 (cU k B A),bP B.lb B.lo B.cL l,aa B.hb 3 (fe k.ps),aa B.ec 3 (e0 k.ps),aa B.wb 313 (rows fg k.ps),aa B.xb 4 (ff k.ps),Sl 100 1 A.ch k.mr.length A.cM (c0 k.mr),Sl 102 3 A.adE k.ev.length A.cE (rows bZ k.ev)] R]:U W w (a2 B { k with ls:=l }::R):=by
 have h1:=I.perm kk.perm;rw[← abH (l:=l) h k.ps]at h1;exact U.shut (M:=[_,_,_,_,_,_,_,_]) h1 λ_ h=>⟨A,h⟩
set_option maxHeartbeats 2000000 in
theorem abJ (I:U W w (a2 B k::L))(hk:WC k)(hh:held k)(hb:bs.length≤65536)(hc:bs.length≤c)(hp:∀ V,U W V L→aL V ad bs.length bs) :
   Calls prog 155 #[pt B.cb,.slice ad bs.length c] w λr V=>r=.returned (.int .i64 (dC bs k).1)∧U W V (a2 B (dC bs k).2::L):=by
 have hn:=hk.n;obtain⟨A0,I⟩:=a2.open I;refine EN func155 ntmps155 rfl rfl λa E=>?_;refine IF 8 E I (λaj a E=>?_) λaj a E=>?_
 ·
  replace I:=a2.fold I B k A0;refine RT 2 E I ?_;exact⟨by rw[B6 aj],by rw[B6 aj];exact I.sub⟩
 replace I:=a2.fold I B k A0;refine j2 2 E I (Zi (I.pick (a2 B k)) hb hc (λV hw=>hp V hw.tail)) ?_;clear E I;rintro e w ⟨p,adP,cP,ok,rfl,NZ,Cy,I⟩;refine⟨_,rfl,λa E=>?_⟩;refine AL 3 E I λb5 a w E I=>?_;refine SA 0 E I λa w E I=>?_;refine RN 3 E I λa E=>?_;obtain⟨A,I⟩:=a2.open (I.pick (a2 B k));refine bW 0 [9,19,29] [0,1,2,3,5,6,7,8,3004,1009,10,11,12,13,15,16,17,18,3014,1019,20,21,22,23,25,26,27,28,3024,1029,30,31] E I λa w E I hH hC=>?_;refine RH 3 E I hH hC λa E=>?_;refine E.by (s:=18) (λbA E=>?_) (λbA E=>?_)
 ·
  have dj:ok=false:=by revert bA;cases ok <;> simp
  have c7:eJ bs=none:=Cy dj;refine RH 29 E I hH hC λa E=>?_;refine RT 3 E I ?_;rw[ME aj c7];exact⟨rfl,(a2.fold I B k A).sub⟩
 have dj:ok=true:=by revert bA;cases ok <;> simp
 have p8:eJ bs=some p:=NZ dj;obtain⟨tI,gH,_⟩:=Fy p8;have Gu:=tI.1;refine RH 10 E I hH hC λa E=>?_;refine E.by (s:=28) (λic E=>?_) (λic E=>?_)
 ·
  refine RH 19 E I hH hC λa E=>?_;refine RT 3 E I ?_;rw[xm aj p8 (.inl ic)];exact⟨rfl,(a2.fold I B k A).sub⟩
 refine RH 10 E I hH hC λa E=>?_;refine E.by (s:=38) (λpY E=>?_) (λpY E=>?_)
 ·
  refine RH 9 E I hH hC λa E=>?_;refine RT 3 E I ?_;rw[xm aj p8 (.inr (.inl pY))];exact⟨rfl,(a2.fold I B k A).sub⟩
 refine RH 9 E I hH hC λa E=>?_;refine IF 0 E I (λao a E=>?_) λao a E=>?_
 ·
  refine RT 2 E I ?_;rw[xm aj p8 (.inr (.inr ao))];exact⟨rfl,(a2.fold I B k A).sub⟩
 have b6:¬ (p.to≠k.me∨(k.n:Int)≤p.aY∨p.id≠k.id):=by
  rintro (h | h | h)
  ·exact h ic
  ·omega
  ·exact h ao
 rw[MF aj p8 b6];clear NZ Cy dj;obtain⟨fr,fA⟩:=sm Gu.1;have g9:fr<k.n:=by omega
 have eY:fr<k.ls.length:=by rw[hk.ls];exact g9
 have nA:fr<k.ps.length:=by rw[hk.ps];exact g9
 have Gv:fr≠k.me:=by have:=tI.2.2.1;omega
 have ix:=hk.p4 g9;have jR:p.aY.toNat=fr:=by omega
 have fb:=vi nA;refine bW 1 [5,9] [0,1,2,4,6,7,8,3003,3005,1009,10,1011] E I λa w E I hH hC=>?_;refine RH 9 E I hH hC λa E=>?_;rw[fA]at E;refine RH 2 E I hH hC λa E=>?_;refine ST 0 E I (λa w E I=>?_) (hlt:=(by rw[fe,bf];exact nA));rw[abm { ar k fr with heard:=k.now } rfl,← G7 fb { ar k fr with heard:=k.now } rfl,← G9 fb { ar k fr with heard:=k.now } rfl rfl,← G8 fb { ar k fr with heard:=k.now } rfl]at I;have ca:=hk.peer (q:={ ar k fr with heard:=k.now }) g9 ⟨ix.1,ix.2.2⟩ (bh _) rfl;have xp:(k.ps.set fr { ar k fr with heard:=k.now })[fr]?=some { ar k fr with heard:=k.now }:=getElem?_set_self nA;replace I:=a2.fold I B { k with ps:=k.ps.set fr { ar k fr with heard:=k.now } } A;refine RN 0 E I λa E=>?_;refine cc (M:=λa w=>∃ ln:Ks,(ln=(if p.kind=2 then { k with ps:=k.ps.set fr { ar k fr with heard:=k.now },ev:=k.ev++[(1,fr,0)],cl:=true } else { k with ls:=k.ls.set fr (dw (k.ls.getD fr []) p.first.toNat p.al),ps:=k.ps.set fr (ga k.now (aH k) p (ar k fr)) })∧WC ln)∧Fr a 135 [(0,pt B.cb)]∧U W w (a2 B ln::L)) ?_ ?_
 ·
  refine IF 4 E I (λay a E=>?_) λay a E=>?_
  ·
   refine RN 4 E I λa E=>?_;rw[fA]at E;refine CL 0 E I (Hb (kd:=1) (pl:=fr) (fr:=0) I (by have:=hk.kQ;show k.ev.length≤100;omega)) λa w E I=>?_;refine RN 0 E I λa E=>?_;obtain⟨A2,D,I,hD⟩:=a2.Cx I;refine ST 3 E I (λa w E I=>?_);refine RN 0 E I λa E=>?_;replace I:=hD _ _ k.now true I;exact⟨_,⟨by rw[ak ay],by have h9:=(hk.zh tI gH (by omega) aj).1;rw[gb,ak ay,jR]at h9;exact h9⟩,E.ab [0],I.sub⟩
  refine RN 1 E I λa E=>?_;have gZ:eR p.first∧eR p.c8∧eR p.frame∧p.al.length≤32:=by
   rcases tI.2.2.2.2 with h | h
   ·exact h.2
   ·exact absurd h.1 ay
  simp only[eR]at gZ;obtain⟨fi,xn⟩:=sm gZ.1.1;obtain⟨jE,B7⟩:=sm gZ.2.1.1;obtain⟨kl,Gw⟩:=sm gZ.2.2.1.1;have zo:p.first.toNat=fi:=by omega
  obtain⟨A2,I⟩:=a2.open I;refine bW 0 [5,8,10] [0,1,2,4,7,9,3003,3005,6,3008,1010,1011] E I λa w E I hH hC=>?_;refine RH 8 E I hH hC λa E=>?_;rw[fA]at E;refine RH 2 E I hH hC λa E=>?_;rw[xn]at E;refine RH 1 E I hH hC λa E=>?_;refine aX 0 E I (abt (f:=fi) (bs:=p.al) (I.pick (bP B.lb B.lo B.cL k.ls)) eY (hk.ml g9) (by omega) (λV hw=>(hw.pick (Sl 5 1 adP p.al.length cP (bc p.al))).cr adP p.al rfl rfl)) λMH er a w E I=>?_;refine RN 0 E I λa E=>?_;have cI:U W w (a2 B { k with ls:=k.ls.set fr (dw (k.ls.getD fr []) fi p.al),ps:=k.ps.set fr { ar k fr with heard:=k.now } }::_):=a2.abI (l:=k.ls.set fr (dw (k.ls.getD fr []) fi p.al)) I B { k with ps:=k.ps.set fr { ar k fr with heard:=k.now } } A2 (bt ..);replace I:=cI;clear cI;have mC:=ca.line (i:=fr) (l:=dw (k.ls.getD fr []) fi p.al) (se (hk.ml g9)).2;have gS:aH ({ k with ls:=k.ls.set fr (dw (k.ls.getD fr []) fi p.al),ps:=k.ps.set fr { ar k fr with heard:=k.now } }:Ks)=aH k:=by
   show ((k.ls.set fr _).getD k.me []).length=_;rw[MC Gv];rfl
  refine cc (M:=λa w=>∃ hh:Nat,hh=(if (ar k fr).has<jE∧jE≤aH k then jE else (ar k fr).has)∧Fr a 135 [(0,pt B.cb),(5,pt b5)]∧U W w (a2 B { k with ls:=k.ls.set fr (dw (k.ls.getD fr []) fi p.al),ps:=k.ps.set fr { ar k fr with heard:=k.now,has:=hh } }::aa b5 203 (dR p adP cP)::L)) ?_ ?_
  ·
   refine a1 1 (λw0 V=>Rd V b5 0 (dR p adP cP)) [3] [0,2,3001,1003,4] E I λa w E I hH=>?_;have hC:=hH.at w (I.ai (b:=b5));refine RH 2 E I hH hC λa E=>?_;refine QH E (λw hc=>ae E (hc 6 _ rfl)) hC λa E=>?_;rw[B7]at E;refine RH 0 E I hH hC λa E=>?_;refine CL 0 E I (sy I mC) λa w E I=>?_;replace hC:=hH.at w (I.ai (b:=b5));rw[gS]at E;refine RH 1 E I hH hC λa E=>?_;refine IF 0 E I (λbj a E=>?_) λbj a E=>?_
   ·
    refine RN 0 E I λa E=>?_;obtain⟨A3,I⟩:=a2.open I;have ye:(e0 (k.ps.set fr { ar k fr with heard:=k.now }))[fr]?=some (Value.int .i64 (ar k fr).has):=by
     have h:=xB xp;exact h
    refine bW 0 [5,9,11,12,13,15,16] [0,1,2,4,6,7,8,10,14,3003,3005,3009,3011,3012,3013,1015,1016,17,1018] E I λa w E I hH hC=>?_;refine RH 11 E I hH hC λa E=>?_;rw[fA]at E;refine RH 2 E I hH hC λa E=>?_;rw[fA]at E;refine RH 1 E I hH hC λa E=>?_;refine QH E (λw hc=>ae E (hc.cell (I.bz (b:=B.ec) ye))) hC λa E=>?_;refine RH 1 E I hH hC λa E=>?_;rw[B7]at E;refine RH 2 E I hH hC λa E=>?_;refine ST 0 E I (λa w E I=>?_) (hlt:=(by rw[e0,bf,bt];exact nA));rw[abn { ar k fr with heard:=k.now,has:=max (ar k fr).has jE } abG,← G6 xp { ar k fr with heard:=k.now,has:=max (ar k fr).has jE } rfl,← G9 xp { ar k fr with heard:=k.now,has:=max (ar k fr).has jE } rfl rfl,← G8 xp { ar k fr with heard:=k.now,has:=max (ar k fr).has jE } rfl,set_set]at I;replace I:=a2.fold I B { k with ls:=k.ls.set fr (dw (k.ls.getD fr []) fi p.al),ps:=k.ps.set fr { ar k fr with heard:=k.now,has:=max (ar k fr).has jE } } A3;refine RN 0 E I λa E=>?_;exact⟨max (ar k fr).has jE,by split <;> omega,E.ab [0,5],I.sub⟩
   refine RN 0 E I λa E=>?_;exact⟨_,by rw[ag (by omega)],E.ab [0,5],I.sub⟩
  clear E;(try clear I);rintro a w ⟨hh,zn,E,I⟩;refine bW 1 [9,11,12,13,14] [0,1001,2,3,4,6,7,8,10,3005,3009,1011,1012,1013,1014,15,16] E I λa w E I hH hC=>?_;have xq:(k.ps.set fr { ar k fr with heard:=k.now,has:=hh })[fr]?=some { ar k fr with heard:=k.now,has:=hh }:=getElem?_set_self nA;have Gx:p.c8.toNat=jE:=by omega
  have Gy:p.frame.toNat=kl:=by omega
  have hP:ga k.now (aH k) p (ar k fr)=(if 0<p.frame∧((ar k fr).frame:Int)≤p.frame then { ar k fr with heard:=k.now,has:=hh,frame:=kl,sum:=p.sum } else { ar k fr with heard:=k.now,has:=hh }):=by
   rw[ga,Gx,Gy,zn]
  have vk:hh≤1000:=by rw[zn];split <;> omega
  obtain⟨Hh,I⟩:=a2.open I;have fp:=g8 Cv (I.ai (b:=B.wb)) xq;rw[ep]at fp;replace hH:=Hd.fK I;refine RH 4 E I hH hC λa E=>?_;refine E.by (s:=107) (λbE E=>?_) (λbE E=>?_)
  ·
   refine RH 8 E I hH hC λa E=>?_;rw[fA]at E;refine RH 2 E I hH hC λa E=>?_;refine bu E (cu E rfl (s:=107)) (ae E (fp 0 (.int .i64 (ar k fr).frame) rfl)) rfl λa E=>?_;refine RH 2 E I hH hC λa E=>?_;refine IF 0 E I (λbO a E=>?_) λbO a E=>?_
   ·
    refine bW 0 [5,7,9,10] [0,1,2,4,6,8,3003,3005,3007,1009,1010,11,1012] E I λa w E I hH hC=>?_;refine RH 8 E I hH hC λa E=>?_;rw[fA]at E;refine RH 1 E I hH hC λa E=>?_;rw[Gw]at E;refine RH 3 E I hH hC λa E=>?_;refine rj E rfl I Ty.t313 (by simp[Value.oneCell']) (by rw[iG Cv,bt];show fr*2+2≤_;omega) λa w E I=>?_;rw[show cD (rows fg (k.ps.set fr { ar k fr with heard:=k.now,has:=hh })) (fr*2) [Value.int .i64 kl,Value.int .u32 p.sum]=rows fg ((k.ps.set fr { ar k fr with heard:=k.now,has:=hh }).set fr { ar k fr with heard:=k.now,has:=hh,frame:=kl,sum:=p.sum }) from IZ Cv _ { ar k fr with heard:=k.now,has:=hh,frame:=kl,sum:=p.sum } (by rw[bt];exact nA),← G6 xq { ar k fr with heard:=k.now,has:=hh,frame:=kl,sum:=p.sum } rfl,← G7 xq { ar k fr with heard:=k.now,has:=hh,frame:=kl,sum:=p.sum } rfl,← G8 xq { ar k fr with heard:=k.now,has:=hh,frame:=kl,sum:=p.sum } rfl,set_set]at I;replace I:=a2.fold I B { k with ls:=k.ls.set fr (dw (k.ls.getD fr []) fi p.al),ps:=k.ps.set fr { ar k fr with heard:=k.now,has:=hh,frame:=kl,sum:=p.sum } } Hh;refine RN 0 E I λa E=>?_;exact⟨_,⟨by rw[ag ay,zo,hP,ak (by omega)],(hk.peer (q:={ ar k fr with heard:=k.now,has:=hh,frame:=kl,sum:=p.sum }) g9 ⟨vk,by show kl≤1000;omega,gH⟩ (bh _) rfl).line (se (hk.ml g9)).2⟩,E.ab [0],I.sub⟩
   refine RN 0 E I λa E=>?_;exact⟨_,⟨by rw[ag ay,zo,hP,ag (by omega)],(hk.peer (q:={ ar k fr with heard:=k.now,has:=hh }) g9 ⟨vk,ix.2.2⟩ (bh _) rfl).line (se (hk.ml g9)).2⟩,E.ab [0],(a2.fold I B { k with ls:=k.ls.set fr (dw (k.ls.getD fr []) fi p.al),ps:=k.ps.set fr { ar k fr with heard:=k.now,has:=hh } } Hh).sub⟩
  refine RH 13 E I hH hC λa E=>?_;refine RN 1 E I λa E=>?_;exact⟨_,⟨by rw[ag ay,zo,hP,ag (by omega)],(hk.peer (q:={ ar k fr with heard:=k.now,has:=hh }) g9 ⟨vk,ix.2.2⟩ (bh _) rfl).line (se (hk.ml g9)).2⟩,E.ab [0],(a2.fold I B { k with ls:=k.ls.set fr (dw (k.ls.getD fr []) fi p.al),ps:=k.ps.set fr { ar k fr with heard:=k.now,has:=hh } } Hh).sub⟩
 clear E;(try clear I);rintro a w ⟨ln,⟨oS,hkw⟩,E,I⟩;refine CL 2 E I (NR I hkw) λa w E I=>?_;refine RT 2 E I ?_;refine⟨rfl,?_⟩;have hz:lq ln=gb k p:=by
  by_cases h2:p.kind=2
  ·rw[oS,ak h2,gb,ak h2,jR];refine held.lq (hh.of rfl (bt ..) λi hi=>?_);by_cases h:i=fr
   ·subst h;rw[show ar { k with ps:=k.ps.set i { ar k i with heard:=k.now },ev:=k.ev++[(1,i,0)],cl:=true } i={ ar k i with heard:=k.now } from by rw[ar,bl,getElem?_set_self hi];rfl];exact⟨rfl,rfl,rfl⟩
   ·rw[show ar { k with ps:=k.ps.set fr { ar k fr with heard:=k.now },ev:=k.ev++[(1,fr,0)],cl:=true } i=ar k i from by rw[ar,bl,getElem?_set_ne (Ne.symm h),ar,bl]];exact⟨rfl,rfl,rfl⟩
  ·rw[oS,ag h2,gb,ag h2,jR]
 rw[hz]at I;exact I
end
end
section
def dX:Pr:=⟨⟨#[115,117,109]⟩,[⟨1,30,1,0⟩,⟨11,1,0,0⟩,⟨5,2,2,31⟩,⟨3,2,2,1⟩,⟨3,0,0,30⟩,⟨1,29,8,0⟩,⟨7,28,0,29⟩,⟨10,28,9,0⟩,⟨9,1,0,0⟩,⟨1,0,0,0⟩,⟨15,31,0,0⟩,⟨13,31,2,0⟩]⟩
theorem Hi {s:ByteArray}{i b:Nat}(hb:ke s i=b)(h:b<128):Utf8.decode s i=(b,1):=by
 simp only[ke]at hb;simp[Utf8.decode,hb,h]
theorem abK:ei dX.title 0=[(115,1),(117,1),(109,1)]:=by
 have h1:dX.title.size=3:=rfl;have h2:Utf8.decode dX.title 0=(115,1):=Hi (b:=115) rfl (by decide);have h3:Utf8.decode dX.title 1=(117,1):=Hi (b:=117) rfl (by decide);have h4:Utf8.decode dX.title 2=(109,1):=Hi (b:=109) rfl (by decide);have r3:ei dX.title 3=[]:=rL (by omega);have r2:ei dX.title 2=[(109,1)]:=by rw[rK (by omega),ee,ak (by omega),h4];exact dG _ r3
 have r1:ei dX.title 1=[(117,1),(109,1)]:=by rw[rK (by omega),ee,ak (by omega),h3];exact dG _ r2
 rw[rK (by omega),ee,ak (by omega),h2];exact dG _ r1
theorem vr:dq dX:=by
 refine⟨⟨?_,by decide,by decide,?_⟩,?_⟩
 ·rw[pK,abK];decide
 ·intro o ho;simp[dX]at ho;rcases ho with rfl | rfl | rfl | rfl | rfl | rfl | rfl | rfl | rfl | rfl | rfl | rfl <;> simp[rM,du]
 ·intro o ho;simp[dX]at ho;rcases ho with rfl | rfl | rfl | rfl | rfl | rfl | rfl | rfl | rfl | rfl | rfl | rfl <;> simp[e9,e8,dX]
section
variable {W w:World}{L:List SP}{n c:Nat}{ad:Option Addr}
theorem abL (I:U W w L):Calls prog 25 #[] w λe V=>∃ ad,e=.returned (.agg (bx dX ad 12).toArray)∧U W V (az W dX ad 12::L):=by
 refine EN func25 ntmps25 rfl rfl λa E=>?_;refine AL 1 E I λAE a w E I=>?_;refine RN 13 E I λa E=>?_;refine cn E rfl I underlying43 Ty.t114 rfl rfl rfl rfl (by decide) (by decide) λCz a w E I ho=>?_;clear ho;refine SA 1 E I λa w E I=>?_;refine RT 0 E I ?_;refine⟨some ⟨Cz,0,none⟩,rfl,?_⟩;have h1:U W w (aa Cz 114 ([]++rows c6 dX.ops++[])::_):=I.jV Cz;have h2:=U.iY (n:=12) (c:=12) (sz:=4) h1 rfl (bh _) (Nat.zero_le _);have h3:U W w (az W dX (some ⟨Cz,0,none⟩) 12::_):=h2.AV;exact h3.sub
set_option maxHeartbeats 2000000 in
end
section
variable {W w:World}{L:List SP}{n c m cP K:Nat}{ad adP:Option Addr}{p:Pr}{bs:List UInt8}
theorem N0 (I:U W w L)(hr:aL W ad n bs)(AF:n≤c):Calls prog 36 #[.slice ad n c,.int .i64 (K:Nat)] w λe V=>∃ au c',e=.returned (.slice au (bs.take K).length c')∧aL W au (bs.take K).length (bs.take K)∧(bs.take K).length≤c'∧U W V L:=by
 have hl:=hr.1;refine EN func36 ntmps36 rfl rfl λa E=>?_;refine IF 8 E I (λaj a E=>?_) λaj a E=>?_
 ·
  refine RT 5 E I ?_;have h2:(bs.take K).length=K:=by rw[dH];omega
  refine⟨ad,c,by rw[h2,pB,Nat.sub_zero,Nat.sub_zero],by rw[h2];exact hr.Bp (by omega),by omega,I⟩
 refine RT 3 E I ?_;have h2:bs.take K=bs:=fO (by omega);rw[h2];exact⟨ad,c,by rw[hl],by rw[hl];exact hr,by omega,I⟩
theorem zI {fr:Int}{g:Nat→Int}{an:Option Addr}{cO:Nat}{P:List (List UInt8)}{zs:List ef}(I:U W w (az W p an cO::L))(hm:P.length=m)(a7:dq p)(aE:p.title.size≤1000000000)(hg:dT g)(hP:P.length≤65536∧∀ b∈P,b.length≤1099511627776)(hz:zs.map (·.2.2)=P)(hf:-1099511627776≤fr∧fr≤1099511627776)(hp:∀ V,U W V L→iH V adP zs) :
   Calls prog 116 #[.agg (bx p an cO).toArray,.agg (ints .i32 32 g).toArray,.int .i64 fr,.slice adP m cP] w λe V=>e=.returned (.agg (ints .i32 32 (foldI p fr g P)).toArray)∧dT (foldI p fr g P)∧U W V (az W p an cO::L):=by
 subst hm;exact XS I a7 aE hg hP hz hf hp
end
def jn (P O:List UInt8)(k:Nat):List (List UInt8):=(List.range k).map (bM [P,O])
theorem _root_.Go.Proofs.YteoldcfapaiobaaGreat.N1 {k:IntKind}{w:World}{a:Option Addr}{len cap:Nat}{zs:List Int}(h:pT k w a len cap zs):len≤cap:=by
 rcases h with ⟨_,rfl,rfl,_⟩ | ⟨x,_,hl,_⟩
 ·exact bh _
 ·exact hl
end
end Go.Proofs.YteoldcfapaiobaaGreat
