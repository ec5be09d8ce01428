/- The document's player without its game: how it lies in memory; quintainref21.within, May, New, Head, Front, event, held, Mark, Told. -/
import Derived.Test.YteoldcfapaiobaaGreatI10Core
import Derived.Test.YteoldcfapaiobaaGreatI12Mul
import Derived.Test.YteoldcfapaiobaaGreatI01Row
import Derived.Test.YteoldcfapaiobaaGreatI06Ref
import Derived.Test.YteoldcfapaiobaaGreatI11Rank
import Derived.Test.YteoldcfapaiobaaGreatI05Vm
import Derived.Test.YteoldcfapaiobaaGreatI09CoQ
namespace Go.Proofs.YteoldcfapaiobaaGreat
open Tryz
open List (take_zero nil_append drop_eq_nil_of_le cons_append append_nil ext_getElem? set_set range_succ getElem?_set_ne getElem?_set_self replicate_succ' map_singleton getLastD_eq_getLast? map_replicate)
open Go.RowKit
set_option linter.unusedVariables false
set_option linter.unusedSimpArgs false
set_option maxRecDepth 10000
set_option synthInstance.maxSize 4000
set_option synthInstance.maxHeartbeats 400000
section
theorem Dc (z:Value)(h:z.cells=#[z])(n:Nat):(madeCells z.cells (n*1)).toList=List.replicate n z:=by
 apply ext_getElem?;intro i;rw[madeCells,Array.getElem?_toList,Array.getElem?_map,Array.getElem?_range,h,List.getElem?_replicate];by_cases hi:i<n
 ·simp[hi,Nat.mod_one]
 ·simp[hi]
theorem aci (n:Nat):(madeCells (Value.agg #[.int .i64 0,.int .u32 0]).cells (n*2)).toList=rows (λ_:Pe=>[Value.int .i64 0,.int .u32 0]) (List.replicate n (fF 0)):=by
 have hl:∀ m:Nat,(madeCells (Value.agg #[.int .i64 0,.int .u32 0]).cells m).toList=(List.range m).map λi=>if i%2=0 then Value.int .i64 0 else .int .u32 0:=by
  intro m;apply ext_getElem?;intro i;rw[madeCells,Array.getElem?_toList,Array.getElem?_map,Array.getElem?_range,bd];by_cases hi:i<m
  ·rcases Nat.mod_two_eq_zero_or_one i with h | h <;> simp[hi,Value.cells,h]
  ·simp[hi]
 rw[hl]
 induction n with
 | zero=>rfl
 | succ n ih =>
  rw[Nat.succ_mul,replicate_succ',kK,← ih,range_succ,range_succ];simp only[cY,dz]
  congr 1
  have h1:n*2%2=0:=by omega
  have h2:¬ (n*2+1)%2=0:=by omega
  simp[h1,h2,rows]
def bP (lb lo c:Nat)(ls:List (List UInt8)):SP:=λh=>∃ xs:List ee,bm xs=ls∧cp [Sl 65 1 (some ⟨lb,lo,none⟩) ls.length c (xs.map aK),ah ba xs] h
structure ow where
 cb:Nat
 lb:Nat
 lo:Nat
 cL:Nat
 hb:Nat
 ea:Nat
 wb:Nat
 xb:Nat
structure nf where
 cm:Option Addr
 cM:Nat
 adE:Option Addr
 cE:Nat
abbrev cZ (k:Ks)(B:ow)(A:nf):List Value:=[.int .i64 k.n,.int .i64 k.me,.int .i64 k.id,.int .i64 k.aJ,.int .i64 k.bt,.int .i64 k.bh,.int .i64 k.order,.int .i64 k.cx,.int .i64 k.workers,.int .i64 k.room,
 .slice (some ⟨B.lb,B.lo,none⟩) k.ls.length B.cL,.int .i64 k.now,.slice (some ⟨B.hb,0,none⟩) k.n k.n,.slice (some ⟨B.ea,0,none⟩) k.n k.n,.slice (some ⟨B.wb,0,none⟩) k.n k.n,.slice (some ⟨B.xb,0,none⟩) k.n k.n,.slice A.cm k.mr.length A.cM,.slice A.adE k.ev.length A.cE,.bool k.cl]
def ff (l:List Pe):List Value:=l.map λp=>Value.int .i64 (p.heard:Int)
def eZ (l:List Pe):List Value:=l.map λp=>Value.int .i64 (p.has:Int)
def fg (l:List Pe):List Value:=l.map λp=>Value.bool p.apart
abbrev fh (p:Pe):List Value:=[.int .i64 p.frame,.int .u32 p.sum]
theorem Dd (p:Pe):(fh p).length=2:=rfl
def aZ (B:ow)(k:Ks):SP:=λh=>∃ A:nf,cp [aa B.cb 72 (cZ k B A),bP B.lb B.lo B.cL k.ls,aa B.hb 3 (ff k.ps),aa B.ea 3 (eZ k.ps),aa B.wb 313 (rows fh k.ps),aa B.xb 4 (fg k.ps),Sl 100 1 A.cm k.mr.length A.cM (c6 k.mr),Sl 102 3 A.adE k.ev.length A.cE (rows bV k.ev)] h
section
variable {W w:World}{L R:List SP}{c m lb lo i:Nat}{ad:Option Addr}{ls:List (List UInt8)}{k:Ks}{A:nf}{B:ow}
theorem bP.open (I:U W w (bP lb lo c ls::L)):∃ xs:List ee,bm xs=ls∧U W w (Sl 65 1 (some ⟨lb,lo,none⟩) ls.length c (xs.map aK)::ah ba xs::L):=by
 obtain⟨xs,h1,I⟩:=I.jS (ι:=List ee) (p:=λxs=>bm xs=ls) (B:=λxs h=>cp [Sl 65 1 (some ⟨lb,lo,none⟩) ls.length c (xs.map aK),ah ba xs] h) λ_ ⟨xs,h1,h2⟩=>⟨xs,h1,h2⟩;exact⟨xs,h1,I.open (M:=[_,_]) λ_ h=>h⟩
theorem bP.close {xs:List ee}(I:U W w (Sl 65 1 (some ⟨lb,lo,none⟩) ls.length c (xs.map aK)::ah ba xs::L))(h:bm xs=ls):U W w (bP lb lo c ls::L) :=
 U.shut (M:=[_,_]) I λ_ h'=>⟨xs,h,h'⟩
theorem U.pA {xs:List ee}{el:TypeId}{m:Nat}(I:U W w (Sl el 1 ad m c (xs.map aK)::ah ba xs::L)):iQ w ad xs:=by
 have hl:=(I.sl ad).1;rw[a8,fB]at hl;refine⟨λh0=>?_,λx hx=>?_⟩
 ·obtain⟨b,off,h1,h2⟩:=I.bU ad (by omega);exact⟨b,off,h1,h2⟩
 ·obtain⟨i,hi,rfl⟩:=zJ hx;have h2:=(I.tail).fA hi;exact U.cw (L:=ba xs[i]::_) h2 _ _ (k:=(fX.head:fX (Sl 5 1 xs[i].1 xs[i].2.2.length xs[i].2.1 (bc xs[i].2.2)::_) xs[i].1 _ _ _ _ _ _)) rfl rfl
theorem aZ.open (I:U W w (aZ B k::L)):∃ A:nf,U W w (aa B.cb 72 (cZ k B A)::bP B.lb B.lo B.cL k.ls::aa B.hb 3 (ff k.ps)::aa B.ea 3 (eZ k.ps)::aa B.wb 313 (rows fh k.ps)::aa B.xb 4 (fg k.ps)::Sl 100 1 A.cm k.mr.length A.cM (c6 k.mr)::Sl 102 3 A.adE k.ev.length A.cE (rows bV k.ev)::L):=by
 obtain⟨A,_,I⟩:=I.jS (ι:=nf) (p:=λ_=>True) (B:=λA h=>cp [aa B.cb 72 (cZ k B A),bP B.lb B.lo B.cL k.ls,aa B.hb 3 (ff k.ps),aa B.ea 3 (eZ k.ps),aa B.wb 313 (rows fh k.ps),aa B.xb 4 (fg k.ps),Sl 100 1 A.cm k.mr.length A.cM (c6 k.mr),Sl 102 3 A.adE k.ev.length A.cE (rows bV k.ev)] h) λ_ ⟨A,h⟩=>⟨A,trivial,h⟩;exact⟨A,I.open (M:=[_,_,_,_,_,_,_,_]) λ_ h=>h⟩
theorem aZ.fold (I:U W w L)(B:ow)(k:Ks)(A:nf)[kk:fM L [aa B.cb 72 (cZ k B A),bP B.lb B.lo B.cL k.ls,aa B.hb 3 (ff k.ps),aa B.ea 3 (eZ k.ps),aa B.wb 313 (rows fh k.ps),aa B.xb 4 (fg k.ps),Sl 100 1 A.cm k.mr.length A.cM (c6 k.mr),Sl 102 3 A.adE k.ev.length A.cE (rows bV k.ev)] R]:U W w (aZ B k::R) :=
 U.shut (M:=[_,_,_,_,_,_,_,_]) (I.perm kk.perm) λ_ h=>⟨A,h⟩
end
theorem acj {l:List Pe}{i:Nat}{p:Pe}(h:l[i]?=some p):(ff l)[i]?=some (.int .i64 p.heard):=by rw[ff,bd,h];rfl
theorem x9 {l:List Pe}{i:Nat}{p:Pe}(h:l[i]?=some p):(eZ l)[i]?=some (.int .i64 p.has):=by rw[eZ,bd,h];rfl
theorem ack {l:List Pe}{i:Nat}{p:Pe}(h:l[i]?=some p):(fg l)[i]?=some (.bool p.apart):=by rw[fg,bd,h];rfl
theorem Ag {α β:Type}(f:α→β){l:List α}{i:Nat}{x:α}{v:β}(h:f x=v):(l.map f).set i v=(l.set i x).map f:=by rw[← h,map_set]
theorem De {β:Type}(f:Pe→β){l:List Pe}{i:Nat}{p q:Pe}(h:l[i]?=some p)(hf:f q=f p):(l.set i q).map f=l.map f:=by
 apply ext_getElem?;intro j;rw[bd,bd,jB];by_cases hj:i=j
 ·subst hj;have hi:=(a2.1 h).1;rw[aj rfl,aj hi,h];simp[hf]
 ·rw[ag hj]
theorem acm (f:Pe→List Value){l:List Pe}{i:Nat}{p q:Pe}(h:l[i]?=some p)(hf:f q=f p):rows f (l.set i q)=rows f l:=by
 rw[rows,rows,List.flatMap_def,List.flatMap_def,De f h hf]
theorem Io {l:List Pe}{i:Nat}{p:Pe}(h:l[i]?=some p)(q:Pe)(hf:q.heard=p.heard):ff (l.set i q)=ff l:=De _ h (by rw[hf])
theorem Ip {l:List Pe}{i:Nat}{p:Pe}(h:l[i]?=some p)(q:Pe)(hf:q.has=p.has):eZ (l.set i q)=eZ l:=De _ h (by rw[hf])
theorem Iq {l:List Pe}{i:Nat}{p:Pe}(h:l[i]?=some p)(q:Pe)(hf:q.apart=p.apart):fg (l.set i q)=fg l:=De _ h (by rw[hf])
theorem Ir {l:List Pe}{i:Nat}{p:Pe}(h:l[i]?=some p)(q:Pe)(hf:q.frame=p.frame)(I:q.sum=p.sum):rows fh (l.set i q)=rows fh l:=acm _ h (by rw[fh,fh,hf,I])
theorem acn {l:List Pe}{i:Nat}(q:Pe){v:Int}(h:(q.heard:Int)=v):(ff l).set i (.int .i64 v)=ff (l.set i q):=Ag _ (by rw[h])
theorem aco {l:List Pe}{i:Nat}(q:Pe){v:Int}(h:(q.has:Int)=v):(eZ l).set i (.int .i64 v)=eZ (l.set i q):=Ag _ (by rw[h])
section
variable {W w:World}{L:List SP}{n c lb lo i f cl:Nat}{ad:Option Addr}{ls:List (List UInt8)}{k:Ks}{A:nf}{B:ow}{x:UInt8}
theorem sS (I:U W w (aZ B k::L))(hk:WC k):Calls prog 20 #[pt B.cb] w λr w'=>r=.returned (.int .i64 (aH k))∧U W w' (aZ B k::L):=by
 have eF:k.me<k.ls.length:=by rw[hk.ls];exact hk.me
 obtain⟨A,I⟩:=aZ.open I;refine EN func20 ntmps20 rfl rfl λa E=>?_;refine bM 3 [8] [0,1,2,4,5,6,7,3003,1008,9,10,1011,12,13] E I λa w E I hH hC=>?_;obtain⟨xs,bf,I⟩:=bP.open (I.pick (bP B.lb B.lo B.cL k.ls));have b7:xs.length=k.ls.length:=by rw[← bf,gr]
 obtain⟨nn,ol,y,Ah,hy,pz,qv⟩:=(U.pA I).at (i:=k.me) (by omega);cases Ah;have ju:aH k=y.2.2.length:=by
  show (k.ls.getD k.me []).length=_;rw[← bf,uD hy]
 replace hH:=Hd.gw I;refine RH 11 E I hH hC λa E=>?_;refine SS E (ae E (pz)) λa E=>?_;rw[aK]at E;refine RH 2 E I hH hC λa E=>?_;refine RT 0 E I ?_;refine⟨by rw[ju],?_⟩;exact (aZ.fold (bP.close I bf) B k A).sub
theorem Is (I:U W w (aZ B k::L))(hk:WC k):Calls prog 19 #[pt B.cb] w λr w'=>r=.returned (.int .i64 (aw k))∧U W w' (aZ B k::L):=by
 have hn:=hk.n;have fc:=hk.ls;obtain⟨A,I⟩:=aZ.open I;refine EN func19 ntmps19 rfl rfl λa E=>?_;refine RN 7 E I λa E=>?_;obtain⟨xs,bf,I⟩:=bP.open (I.pick (bP B.lb B.lo B.cL k.ls));have b7:xs.length=k.ls.length:=by rw[← bf,gr]
 rw[← b7]at E;refine CL 0 E I (C4 (xs:=xs) I (by omega) (by omega) (λw' hw=>U.pA hw)) λa w E I=>?_;refine RT 1 E I ?_;refine⟨by rw[bf];rfl,?_⟩;exact (aZ.fold (bP.close I bf) B k A).sub
theorem It {kd pl fr:Nat}(I:U W w (aZ B k::L))(hl:k.ev.length≤100):Calls prog 112 #[pt B.cb,.int .i64 kd,.int .i64 pl,.int .i64 fr] w λr w'=>r=.returned (.tuple #[])∧U W w' (aZ B { k with ev:=k.ev++[(kd,pl,fr)] }::L):=by
 obtain⟨A,I⟩:=aZ.open I;refine EN func112 ntmps112 rfl rfl λa E=>?_;refine RN 9 E I λa E=>?_;refine ct E rfl I wV Ty.t102 rfl rfl rfl rfl (by decide) (by decide) λiD a w E I ho=>?_;clear ho;refine RN 0 E I λa E=>?_;refine cR E rfl I wV Ty.t102 rfl rfl I.ai rfl (Hu (kd,pl,fr)) (by decide) (by decide) (by omega) λIu Iv a w E I=>?_;rw[show rows bV k.ev++_=rows bV (k.ev++[(kd,pl,fr)]) from by rw[kK];rfl,show k.ev.length+1=(k.ev++[(kd,pl,fr)]).length from by simp]at I;rw[show k.ev.length+1=(k.ev++[(kd,pl,fr)]).length from by simp]at E;refine ST 2 E I (λa w E I=>?_);refine RT 0 E I ?_;exact⟨rfl,(aZ.fold I B { k with ev:=k.ev++[(kd,pl,fr)] } { A with adE:=Iu,cE:=Iv }).sub⟩
theorem acp (I:U W w (aZ B k::L)):Calls prog 51 #[pt B.cb] w λr w'=>∃ ad c,r=.returned (.slice ad k.ev.length c)∧U W w' (Sl 102 3 ad k.ev.length c (rows bV k.ev)::aZ B { k with ev:=[] }::L):=by
 obtain⟨A,I⟩:=aZ.open I;refine EN func51 ntmps51 rfl rfl λa E=>?_;refine ST 12 E I (λa w E I=>?_);refine RT 3 E I ?_;refine⟨A.adE,A.cE,rfl,?_⟩;replace I:=I.bQ 102 3 none;have h2:U W w (aa B.cb 72 (cZ { k with ev:=[] } B ⟨A.cm,A.cM,none,0⟩)::bP B.lb B.lo B.cL k.ls::aa B.hb 3 (ff k.ps)::aa B.ea 3 (eZ k.ps)::aa B.wb 313 (rows fh k.ps)::aa B.xb 4 (fg k.ps)::Sl 100 1 A.cm k.mr.length A.cM (c6 k.mr)::Sl 102 3 none 0 0 []::Sl 102 3 A.adE k.ev.length A.cE (rows bV k.ev)::L):=I.sub (M:=aa B.cb 72 _::bP B.lb B.lo B.cL k.ls::aa B.hb 3 (ff k.ps)::aa B.ea 3 (eZ k.ps)::aa B.wb 313 (rows fh k.ps)::aa B.xb 4 (fg k.ps)::Sl 100 1 A.cm k.mr.length A.cM (c6 k.mr)::Sl 102 3 none 0 0 []::Sl 102 3 A.adE k.ev.length A.cE (rows bV k.ev)::L);refine U.perm (L:=aZ B { k with ev:=[] }::Sl 102 3 A.adE k.ev.length A.cE (rows bV k.ev)::L) ?_ (c1 _ _ _);exact U.shut (M:=[_,_,_,_,_,_,_,_]) h2 λ_ h=>⟨⟨A.cm,A.cM,none,0⟩,h⟩
theorem O5 (I:U W w (aZ B k::L))(hk:WC k):Calls prog 153 #[pt B.cb] w λr w'=>r=.returned (.tuple #[])∧U W w' (aZ B (lD k)::L):=by
 have eI:k.ps.length=k.n:=hk.ps;have hn:=hk.n;refine EN func153 ntmps153 rfl rfl λa E=>?_;refine RN 2 E I λa E=>?_;refine aL (λμ a w=>∃ (i:Nat),(μ=k.n-i∧i≤k.n)∧Fr a 68 [(0,pt B.cb),(2,.int .i64 i)]∧U W w (aZ B (gG k i)::L)) (k.n) (⟨0,⟨rfl,by omega⟩,E.ab [0,2],I⟩) ?_;clear E I;rintro μ a w ⟨i,⟨rfl,hi⟩,E,I⟩;have kc:=hk.gG (i:=i) hi;have dR:=CF k i;have vR:(gG k i).n=k.n:=by obtain⟨ps,ev,h1,_⟩:=zP k i;rw[h1]
 have fj:gG k (i+1)=lC (gG k i) i:=rfl;rw[lC]at fj;generalize nY:gG k i=kk at I kc dR fj vR;obtain⟨A,I⟩:=aZ.open I;refine IF 9 E I (λak a E=>?_) λak a E=>?_
 ·
  have aG:i<kk.ps.length:=by omega
  have iJ:=kc.qm (i:=i) (by omega);have eX:=vK aG;have fo:=jt Dd (I.ai (b:=B.wb)) eX;rw[ei]at fo;refine RN 8 E I λa E=>?_;refine SS E (bT E EV rfl Ty.t313 (fo)) λa E=>?_;refine AL 0 E I λb3 a w E I=>?_;refine SA 0 E I λa w E I=>?_;refine bM 1 [19,20,29,30,34] [0,1,2,4,1003,5,1006,7,8,9,1010,11,12,13,14,16,17,18,3015,1019,1020,21,22,23,24,25,26,28,33,3027,3029,3030,31,3032,1034,35,36] E I λa w E I hH hC=>?_;have j0:Rd w B.cb 0 (cZ kk B A):=I.ai (b:=B.cb);have ya:Rd w b3 0 (fh (au kk i)):=I.ai (b:=b3);have nA:=I.bC (b:=B.xb) (ack eX);refine RH 4 E I hH hC λa E=>?_;refine SS E (ae E (j0 15 _ rfl)) λa E=>?_;refine RH 1 E I hH hC λa E=>?_;refine SS E (ae E (nA)) λa E=>?_;refine RH 2 E I hH hC λa E=>?_;refine E.by (s:=28) (λfm E=>?_) (λfm E=>?_)
  ·
   refine RH 1 E I hH hC λa E=>?_;refine bA E (cv E rfl (s:=28)) (ae E (ya 0 _ rfl)) rfl λa E=>?_;refine RH 3 E I hH hC λa E=>?_;refine E.by (s:=33) (λnJ E=>?_) (λnJ E=>?_)
   ·
    refine RH 4 E I hH hC λa E=>?_;refine QH E (λw hc=>ae E (hc.cell (ya 0 _ rfl))) hC λa E=>?_;refine RH 0 E I hH hC λa E=>?_;refine bA E (cv E rfl (s:=33)) (ae E (j0 16 _ rfl)) rfl λa E=>?_;refine RH 4 E I hH hC λa E=>?_;refine E.by (s:=43) (λm1 E=>?_) (λm1 E=>?_)
    ·
     have mi:(au kk i).frame-1<kk.mr.length:=by omega
     obtain⟨Hy,Hz,eF,l8⟩:=(I.pick (Sl 100 1 A.cm kk.mr.length A.cM (c6 kk.mr))).bU A.cm (by omega);have zS:=j0 16 _ rfl;rw[eF]at zS;refine RH 5 E I hH hC λa E=>?_;refine QH E (λw hc=>ae E (hc.cell (zS))) hC λa E=>?_;refine QH E (λw hc=>ae E (hc.cell (ya 0 _ rfl))) hC λa E=>?_;refine RH 1 E I hH hC λa E=>?_;rw[show (((au kk i).frame:Nat):Int)-1=(((au kk i).frame-1:Nat):Int) from by omega]at E;refine RH 1 E I hH hC λa E=>?_;refine QH E (λw hc=>ae E (hc.cell (l8 ((au kk i).frame-1) _ (CM mi)))) hC λa E=>?_;refine RH 0 E I hH hC λa E=>?_;refine bA E (cv E rfl (s:=43)) (ae E (ya 1 _ rfl)) rfl λa E=>?_;refine RH 2 E I hH hC λa E=>?_;refine IF 0 E I (λao a E=>?_) λao a E=>?_
     ·
      refine RN 1 E I λa E=>?_;rw[aj ⟨fm,by omega,by omega,by omega⟩]at fj;refine ST 6 E I (λa w E I=>?_) (hlt:=(by rw[fg,a8];exact aG));rw[show (fg kk.ps).set i (.bool true)=fg (kk.ps.set i { au kk i with apart:=true }) from Ag _ rfl,← Io eX { au kk i with apart:=true } rfl,← Ip eX { au kk i with apart:=true } rfl,← Ir eX { au kk i with apart:=true } rfl rfl]at I;replace I:=aZ.fold I B { kk with ps:=kk.ps.set i { au kk i with apart:=true } } A;refine CL 4 E I (It (kd:=3) (pl:=i) (fr:=(au kk i).frame) I (by have:=kc.kY;show kk.ev.length≤100;omega)) λa w E I=>?_;refine RN 3 E I λa E=>?_;exact⟨k.n-(i+1),by omega,i+1,⟨rfl,by omega⟩,E.ab [0,2],by rw[fj];exact I.sub⟩
     refine RN 3 E I λa E=>?_;rw[ag (λh=>by have:=h.2.2.2;omega)]at fj;exact⟨k.n-(i+1),by omega,i+1,⟨rfl,by omega⟩,E.ab [0,2],by rw[fj];exact (aZ.fold I B kk A).sub⟩
    refine RH 13 E I hH hC λa E=>?_;refine RN 4 E I λa E=>?_;rw[ag (λh=>by have:=h.2.2.1;omega)]at fj;exact⟨k.n-(i+1),by omega,i+1,⟨rfl,by omega⟩,E.ab [0,2],by rw[fj];exact (aZ.fold I B kk A).sub⟩
   refine RH 23 E I hH hC λa E=>?_;refine RN 4 E I λa E=>?_;rw[ag (λh=>by have:=h.2.1;omega)]at fj;exact⟨k.n-(i+1),by omega,i+1,⟨rfl,by omega⟩,E.ab [0,2],by rw[fj];exact (aZ.fold I B kk A).sub⟩
  refine RH 28 E I hH hC λa E=>?_;refine RN 4 E I λa E=>?_;rw[ag (λh=>by have:=h.1;rw[fm]at this;cases this)]at fj;exact⟨k.n-(i+1),by omega,i+1,⟨rfl,by omega⟩,E.ab [0,2],by rw[fj];exact (aZ.fold I B kk A).sub⟩
 refine RT 0 E I ?_;obtain rfl:i=k.n:=by omega
 refine⟨rfl,?_⟩;rw[lD,eI,nY];exact (aZ.fold I B kk A).sub
theorem acq {s:Nat}(I:U W w (aZ B k::L))(hk:WC k)(hl:k.mr.length<1000)(zg:s<4294967296):Calls prog 105 #[pt B.cb,.int .u32 s] w λr w'=>r=.returned (.tuple #[])∧U W w' (aZ B (l4 k s)::L):=by
 have zT : WC { k with mr := k.mr ++ [s] } := { hk with
     mr:=by show (k.mr++[s]).length≤1000;rw[aM,jJ];omega
     sI:=λx hx=>by
      rcases e7.1 hx with hx | hx
      ·exact hk.sI x hx
      ·rw[iP]at hx;rw[hx];exact zg }
 obtain⟨A,I⟩:=aZ.open I;refine EN func105 ntmps105 rfl rfl λa E=>?_;refine RN 8 E I λa E=>?_;rw[dr (by omega)]at E;refine RN 7 E I λa E=>?_;refine ct E rfl I yQ Ty.t100 rfl rfl rfl rfl (by decide) (by decide) λfT a w E I ho=>?_;clear ho;refine RN 0 E I λa E=>?_;refine cR E rfl I yQ Ty.t100 rfl rfl I.ai rfl (by simp[Value.oneCell']) (by decide) (by decide) (by omega) λacr c17 a w E I=>?_;rw[show c6 k.mr++_=c6 (k.mr++[s]) from by rw[c6,c6,cY];rfl,show k.mr.length+1=(k.mr++[s]).length from by simp]at I;rw[show k.mr.length+1=(k.mr++[s]).length from by simp]at E;refine ST 2 E I (λa w E I=>?_);refine RN 0 E I λa E=>?_;replace I:=aZ.fold I B { k with mr:=k.mr++[s] } { A with cm:=acr,cM:=c17 };refine CL 1 E I (O5 I zT) λa w E I=>?_;refine RT 0 E I ?_;exact⟨rfl,by rw[l4,aj hl];exact I.sub⟩
theorem acs (I:U W w (aZ B k::L))(hk:WC k):Calls prog 111 #[pt B.cb,.int .u8 (x.toNat:Nat)] w λr w'=>r=.returned (.int .i64 (c5 x k).1)∧U W w' (aZ B (c5 x k).2::L):=by
 have eF:k.me<k.ls.length:=by rw[hk.ls];exact hk.me
 have g4:=hk.l5;have fe:=hk.nO;obtain⟨A0,I⟩:=aZ.open I;refine EN func111 ntmps111 rfl rfl λa E=>?_;refine IF 9 E I (λak a E=>?_) λak a E=>?_
 ·
  replace I:=aZ.fold I B k A0;refine RT 2 E I ?_;exact⟨by rw[c5,aj ak],by rw[c5,aj ak];exact I⟩
 have cr:¬ k.cl=true:=by rw[ak];decide
 replace I:=aZ.fold I B k A0;refine CL 2 E I (sS I hk) λa w E I=>?_;refine IF 2 E I (λao a E=>?_) λao a E=>?_
 ·
  refine RT 2 E I ?_;exact⟨by rw[c5,ag cr,aj (by omega)],by rw[c5,ag cr,aj (by omega)];exact I⟩
 refine aV 1 (λw0 w'=>w'.cell? ⟨B.cb,4,none⟩=some (.int .i64 k.bt)) [1,3,4] [0,2,5,6,7,8,3009,1001,1003,1004,10,11] E I λa w E I hH=>?_;have hC:w.cell? ⟨B.cb,4,none⟩=some (.int .i64 k.bt):=by
  obtain⟨A1,I⟩:=aZ.open I;exact I.bC (b:=B.cb) rfl
 refine RH 6 E I hH hC λa E=>?_;refine QH E (λw hc=>ae E (hc)) hC λa E=>?_;refine RH 0 E I hH hC λa E=>?_;refine CL 0 E I (sS I hk) λa w E I=>?_;replace hC:=hH.at w (by obtain⟨A1,I⟩:=aZ.open I;exact I.bC (b:=B.cb) rfl);refine RH 0 E I hH hC λa E=>?_;refine CL 0 E I (Is I hk) λa w E I=>?_;replace hC:=hH.at w (by obtain⟨A1,I⟩:=aZ.open I;exact I.bC (b:=B.cb) rfl);refine RH 3 E I hH hC λa E=>?_;refine IF 0 E I (λay a E=>?_) λay a E=>?_
 ·
  refine RT 2 E I ?_;exact⟨by rw[c5,ag cr,ag (by omega),aj (by omega)],by rw[c5,ag cr,ag (by omega),aj (by omega)];exact I⟩
 refine RN 1 E I λa E=>?_;obtain⟨A,I⟩:=aZ.open I;have vL:c5 x k=(0,{ k with ls:=k.ls.set k.me (k.ls.getD k.me []++[x]) }):=by rw[c5,ag cr,ag (by omega),ag (by omega)]
 rw[vL];obtain⟨xs,bf,I⟩:=bP.open (I.pick (bP B.lb B.lo B.cL k.ls));have b7:xs.length=k.ls.length:=by rw[← bf,gr]
 obtain⟨y,hy⟩:∃ y,xs[k.me]?=some y:=⟨_,aD (by omega)⟩;obtain⟨uG,nT⟩:=a2.1 hy;have ju:k.ls.getD k.me []=y.2.2:=by rw[← bf,uD hy]
 refine bM 0 [8] [0,1,2,4,5,6,7,3003,1008,9,10] E I λa w E I hH hC=>?_;refine RH 11 E I hH hC λa E=>?_;refine RN 5 E I λa E=>?_;refine SS E (ae E ((I.cQ B.lb B.lo (by omega)) k.me (aK y) (by rw[bd,hy];rfl))) λa E=>?_;rw[aK]at E;replace I:=(I.pick (ah ba xs)).fA uG;rw[nT]at I;have gN:U W w (Sl 5 1 y.1 y.2.2.length y.2.1 (bc y.2.2)::_):=I;clear I;have I:=gN;clear gN;have O6:y.2.2.length≤1000:=by rw[← ju];exact g4
 refine RN 1 E I λa E=>?_;refine ct E rfl I bj Ty.t5 rfl rfl rfl rfl (by decide) (by decide) λb43 a w E I ho=>?_;clear ho;refine RN 0 E I λa E=>?_;refine cR E rfl I bj Ty.t5 rfl rfl I.ai rfl (ez [x]) (by decide) (by decide) (by omega) λnU lH a w E I=>?_;rw[show bc y.2.2++_=bc (y.2.2++[x]) from (fS _ [_]).symm,show y.2.2.length+1=(y.2.2++[x]).length from by simp]at I;rw[show y.2.2.length+1=(y.2.2++[x]).length from by simp]at E;refine RN 2 E I λa E=>?_;refine mN (off:=B.lo) (k:=k.me) E rfl I Ty.t22 rfl (by omega) (by rw[a8];exact uG) λa w E I=>?_;rw[show (xs.map aK).set k.me (.slice nU (y.2.2++[x]).length lH)=(xs.set k.me (nU,lH,y.2.2++[x])).map aK from Ag _ rfl]at I;have h2:=I.arr (M:=[Sl 5 1 nU (y.2.2++[x]).length lH (bc (y.2.2++[x])),ah ba (xs.eraseIdx k.me)]);simp only[cons_append,nil_append]at h2;have h3:=U.la (f:=ba) (x:=(nU,lH,y.2.2++[x])) uG h2;have fc:(k.ls.set k.me (k.ls.getD k.me []++[x])).length=k.ls.length:=bz;have a6:bm (xs.set k.me (nU,lH,y.2.2++[x]))=k.ls.set k.me (k.ls.getD k.me []++[x]):=by rw[bm,map_set,← bm,bf,ju]
 have h4:=h3.arr (M:=[Sl 65 1 (some ⟨B.lb,B.lo,none⟩) k.ls.length B.cL ((xs.set k.me (nU,lH,y.2.2++[x])).map aK),ah ba (xs.set k.me (nU,lH,y.2.2++[x]))]);simp only[cons_append,nil_append]at h4;rw[show k.ls.length=(k.ls.set k.me (k.ls.getD k.me []++[x])).length from fc.symm]at h4;have h5:=bP.close (xs:=xs.set k.me (nU,lH,y.2.2++[x])) h4 a6;clear I;have I:=h5;rw[show cZ k B A=cZ { k with ls:=k.ls.set k.me (k.ls.getD k.me []++[x]) } B A from by simp only[cZ,bz]]at I;refine RT 2 E I ?_;exact⟨rfl,(aZ.fold I B { k with ls:=k.ls.set k.me (k.ls.getD k.me []++[x]) } A).sub⟩
end
section
variable {W w:World}{L R:List SP}{n c m lb lo i f cl:Nat}{ad:Option Addr}{ls:List (List UInt8)}{k:Ks}{A:nf}{B:ow}{x:UInt8}{bs:List UInt8}
theorem bP.out {ls:List (List UInt8)}(I:U W w (bP lb lo c ls::L))(hi:i<ls.length):∃ (xs:List ee) (y:ee),bm xs=ls∧xs[i]?=some y∧y.2.2=ls.getD i [] ∧
   U W w (Sl 5 1 y.1 y.2.2.length y.2.1 (bc y.2.2)::Sl 65 1 (some ⟨lb,lo,none⟩) ls.length c (xs.map aK)::ah ba (xs.eraseIdx i)::L):=by
 obtain⟨xs,bf,I⟩:=bP.open I;have b7:xs.length=ls.length:=by rw[← bf,gr]
 have hy:xs[i]?=some xs[i]:=aD (by omega);refine⟨xs,xs[i],bf,hy,by have:=uD hy;rw[bf]at this;exact this.symm,?_⟩;have h1:=(I.pick (ah ba xs)).fA (i:=i) (by omega);exact U.sub (M:=ba xs[i]::Sl 65 1 (some ⟨lb,lo,none⟩) ls.length c (xs.map aK)::ah ba (xs.eraseIdx i)::L) h1
theorem bP.put {xs:List ee}{q:List UInt8}(I:U W w L)(bf:bm xs=ls)(hi:i<ls.length)[kk:fM L [Sl 5 1 ad q.length cl (bc q),Sl 65 1 (some ⟨lb,lo,none⟩) ls.length c ((xs.map aK).set i (.slice ad q.length cl)),ah ba (xs.eraseIdx i)] R]:U W w (bP lb lo c (ls.set i q)::R):=by
 have b7:xs.length=ls.length:=by rw[← bf,gr]
 have h1:U W w (ba (ad,cl,q)::Sl 65 1 (some ⟨lb,lo,none⟩) ls.length c ((xs.map aK).set i (.slice ad q.length cl))::ah ba (xs.eraseIdx i)::R):=I.perm kk.perm;rw[show (xs.map aK).set i (.slice ad q.length cl)=(xs.set i (ad,cl,q)).map aK from Ag _ rfl]at h1;have h2:=U.la (f:=ba) (x:=(ad,cl,q)) (l:=xs) (i:=i) (by omega) (h1.sub (M:=ba (ad,cl,q)::ah ba (xs.eraseIdx i)::Sl 65 1 (some ⟨lb,lo,none⟩) ls.length c ((xs.set i (ad,cl,q)).map aK)::R));refine bP.close (xs:=xs.set i (ad,cl,q)) ?_ (by rw[bm,map_set,← bm,bf]);rw[bz];exact h2.perm (c1 _ _ _)
theorem bP.hd (I:U W w (bP lb lo c ls::L))(hi:i<ls.length):∃ ad c',w.cell? ⟨lb,lo+i,none⟩=some (.slice ad (ls.getD i []).length c'):=by
 obtain⟨xs,y,h1,h2,h3,h4⟩:=bP.out I hi;rw[← h3];exact⟨_,_,(h4.tail.cQ lb lo (by omega)) i (aK y) (by rw[bd,h2];rfl)⟩
theorem acu {f:Nat}(I:U W w (bP lb lo c ls::L))(hi:i<ls.length)(hl:(ls.getD i []).length≤1000)(hb:bs.length≤65536)(hp:∀ w',U W w' L→aX w' ad bs.length bs) :
   Calls prog 190 #[.pointer (some ⟨lb,lo+i,none⟩),.int .i64 f,.slice ad bs.length cl] w λr w'=>∃ n er:Int,r=.returned (.tuple #[.int .i64 n,.int .i64 er])∧U W w' (bP lb lo c (ls.set i (dw (ls.getD i []) f bs))::L):=by
 obtain⟨l0,yb⟩:∃ l0,l0=ls.getD i []:=⟨_,rfl⟩;rw[← yb];rw[← yb]at hl;have O7:ls.set i l0=ls:=by rw[yb];exact Nh
 refine EN func190 ntmps190 rfl rfl λa E=>?_;refine RN 7 E I λa E=>?_;rw[bu (by omega)]at E;refine RN 3 E I λa E=>?_;obtain⟨gg,gq,O8⟩:=bP.hd I hi;rw[← yb]at O8;refine RN 4 E I λa E=>?_;refine SS E (ae E (O8)) λa E=>?_;refine IF 2 E I (λao a E=>?_) λao a E=>?_
 ·
  refine RT 3 E I ?_;exact⟨_,_,rfl,by rw[dw,aj (by omega),O7];exact I⟩
 refine RN 5 E I λa E=>?_;have eP:f≤l0.length:=by omega
 refine aL (λμ a w=>∃ (j:Nat) (q:List UInt8),(μ=bs.length-j∧j≤bs.length∧q=l0++(bs.drop (l0.length-f)).take (j-(l0.length-f))∧q.length=l0.length+(j-(l0.length-f))∧q.length≤1000)∧Fr a 57 [(0,.pointer (some ⟨lb,lo+i,none⟩)),(1,.int .i64 f),(2,.slice ad bs.length cl),(8,.int .i64 (j-(l0.length-f):Nat)),(9,.int .i64 j)]∧U W w (bP lb lo c (ls.set i q)::L)) (bs.length) (⟨0,l0,⟨rfl,by omega,by rw[Nat.zero_sub,take_zero,append_nil],by omega,hl⟩,by rw[Nat.zero_sub];exact E.ab [0,1,2,8,9],by rw[O7];exact I⟩) ?_;clear E I;rintro μ a w ⟨j,q,⟨rfl,hj,hq,VQ,mz⟩,E,I⟩;refine IF 6 E I (λay a E=>?_) λay a E=>?_
 ·
  have dI:i<(ls.set i q).length:=by rw[bz];exact hi
  have q8:(ls.set i q).getD i []=q:=by rw[br,getElem?_set_self hi];rfl
  obtain⟨adq,cq,pz⟩:=bP.hd I dI;rw[q8]at pz;have O9:j<bs.length:=by omega
  have tS:=(hp _ I.tail).get (by omega);refine RN 7 E I λa E=>?_;refine SS E (ae E (pz)) λa E=>?_;refine IF 4 E I (λbl a E=>?_) λbl a E=>?_
  ·
   refine RN 3 E I λa E=>?_;exact⟨bs.length-(j+1),by omega,j+1,q,⟨rfl,by omega,by rw[hq,show j-(l0.length-f)=0 from by omega,show j+1-(l0.length-f)=0 from by omega],by omega,mz⟩,by rw[show j+1-(l0.length-f)=j-(l0.length-f) from by omega];exact E.ab [0,1,2,8,9],I⟩
  refine RN 5 E I λa E=>?_;refine SS E (ae E (pz)) λa E=>?_;refine IF 2 E I (λbO a E=>?_) λbO a E=>?_
  ·
   refine RT 4 E I ?_;exact⟨_,_,rfl,by rw[dw,ag (by omega),show 1000-l0.length=j-(l0.length-f) from by omega,← hq];exact I⟩
  refine bM 1 [8,9] [0,1,2,3,5,6,7,3004,1008,1009,1010,11,12,1013] E I λa w E I hH hC=>?_;obtain⟨bb,oo,rfl,_⟩:=tS;obtain⟨xs,y,bf,hy,uH,I⟩:=bP.out I dI;rw[q8]at uH;rw[uH]at I;have ur:=(I.tail.cQ lb lo (by omega)) i (aK y) (by rw[bd,hy];rfl);rw[aK,uH]at ur;have Cn:=(hp _ I.tail.tail.tail).rd (by omega);have Ai:i<xs.length:=(a2.1 hy).1;replace hH:=Hd.gw I;refine RH 7 E I hH hC λa E=>?_;refine QH E (λw hc=>ae E (hc.cell (ur))) hC λa E=>?_;refine RH 0 E I hH hC λa E=>?_;refine SS E (ae E (Cn j _ (dV O9))) λa E=>?_;refine RH 0 E I hH hC λa E=>?_;refine ct E rfl I bj Ty.t5 rfl rfl rfl rfl (by decide) (by decide) λb50 a w E I ho=>?_;replace hC:=hC.trans ho;clear ho;refine RH 0 E I hH hC λa E=>?_;refine cR E rfl I bj Ty.t5 rfl rfl I.ai rfl (ez [bs[j]]) (by decide) (by decide) (by omega) λMO MP a w E I=>?_;rw[show bc q++_=bc (q++[bs[j]]) from (fS _ [_]).symm,show q.length+1=(q++[bs[j]]).length from by simp]at I;rw[show q.length+1=(q++[bs[j]]).length from by simp]at E;refine RN 2 E I λa E=>?_;refine mN (off:=lo) (k:=i) E rfl I Ty.t22 rfl (by omega) (by rw[a8];exact Ai) λa w E I=>?_;refine RN 6 E I λa E=>?_;have h9:=bP.put (q:=q++[bs[j]]) (ad:=MO) (cl:=MP) (lb:=lb) (lo:=lo) (c:=c) I bf dI;rw[set_set]at h9;exact⟨bs.length-(j+1),by omega,j+1,q++[bs[j]],⟨rfl,by omega,by rw[M3 eP O9 (by omega) (by omega),← hq],by rw[aM,jJ];omega,by rw[aM,jJ];omega⟩,by rw[show ((j+1-(l0.length-f):Nat):Int)=((j-(l0.length-f):Nat):Int)+1 from by omega];exact E.ab [0,1,2,8,9],h9.sub⟩
 refine RT 4 E I ?_;obtain rfl:j=bs.length:=by omega
 refine⟨_,_,rfl,?_⟩;rw[dw,ag (by omega),gl (by rw[c8];omega)];rw[hq,gl (by rw[c8];omega)]at I;exact I
abbrev Aj (n me:Nat)(id:Int)(aJ bt:Nat)(bh order cx workers room:Int)(b8 iS eu iD:Nat)(ad:Option Addr)(i c:Nat):List Value:=[.int .i64 n,.int .i64 me,.int .i64 id,.int .i64 aJ,.int .i64 bt,.int .i64 bh,.int .i64 order,.int .i64 cx,.int .i64 workers,.int .i64 room,.slice ad i c,.int .i64 0,.slice (some ⟨b8,0,none⟩) n n,.slice (some ⟨iS,0,none⟩) n n,.slice (some ⟨eu,0,none⟩) n n,.slice (some ⟨iD,0,none⟩) n n,.slice none 0 0,.slice none 0 0,.bool false]
theorem acv (n d:Nat):ff (List.replicate n (fF d))=ints .i64 n (λ_=>0):=by rw[ff,map_replicate];exact rl _ _ _
theorem acw (n d:Nat):eZ (List.replicate n (fF d))=ints .i64 n (λ_=>d):=by rw[eZ,map_replicate];exact rl _ _ _
theorem acx (n d:Nat):fg (List.replicate n (fF d))=List.replicate n (.bool false):=by rw[fg,map_replicate];rfl
theorem acy (n d:Nat):rows fh (List.replicate n (fF d))=rows (λ_:Pe=>[Value.int .i64 0,.int .u32 0]) (List.replicate n (fF 0)):=by
 induction n with
 | zero=>rfl
 | succ n ih=>rw[List.replicate_succ,List.replicate_succ,oN,oN,ih];rfl
theorem acz (d:Nat):List.replicate d (Value.int .u8 0)=bc (List.replicate d 0):=by rw[bc,map_replicate];rfl
set_option maxHeartbeats 4000000 in
theorem acA {n me aJ bt:Nat}{id bh order cx workers room:Int}(I:U W w L)(h:eY ⟨n,me,id,aJ,bt,bh,order,cx,workers,room⟩) :
   Calls prog 65 #[.agg (bS ⟨n,me,id,aJ,bt,bh,order,cx,workers,room⟩).toArray] w λr w'=>∃ B:ow,r=.returned (pt B.cb)∧U W w' (aZ B (ft ⟨n,me,id,aJ,bt,bh,order,cx,workers,room⟩)::L):=by
 obtain⟨⟨h1,h2,h3⟩,⟨h4,h5,h6,h7⟩,h8,h9,fO,nz⟩:=h;simp only[fE] at *;refine EN func65 ntmps65 rfl rfl λa E=>?_;refine BX 1 E I λb1 a w E I=>?_;change U W w (aa b1 28 [.int .i64 n,.int .i64 me,.int .i64 id,.int .i64 aJ,.int .i64 bt,.int .i64 bh,.int .i64 order,.int .i64 cx,.int .i64 workers,.int .i64 room]::_) at I;refine RN 1 E I λa E=>?_;refine b6 (M:=λa w=>∃ b8 iS eu iD fR:Nat,Fr a 48 [(1,pt b1),(3,pt fR)]∧U W w (aa fR 72 [.int .i64 n,.int .i64 me,.int .i64 id,.int .i64 aJ,.int .i64 bt,.int .i64 bh,.int .i64 order,.int .i64 cx,.int .i64 workers,.int .i64 room,.slice none 0 0,.int .i64 0,.slice (some ⟨b8,0,none⟩) n n,.slice (some ⟨iS,0,none⟩) n n,.slice (some ⟨eu,0,none⟩) n n,.slice (some ⟨iD,0,none⟩) n n,.slice none 0 0,.slice none 0 0,.bool false]::aa b8 3 (List.replicate n (.int .i64 0))::aa iS 3 (List.replicate n (.int .i64 0))::aa eu 313 (rows (λ_:Pe=>[Value.int .i64 0,.int .u32 0]) (List.replicate n (fF 0)))::aa iD 4 (List.replicate n (.bool false))::aa b1 28 [.int .i64 n,.int .i64 me,.int .i64 id,.int .i64 aJ,.int .i64 bt,.int .i64 bh,.int .i64 order,.int .i64 cx,.int .i64 workers,.int .i64 room]::L)) ?_ ?_
 ·
  refine bM 0 [2,3,5,6,8,9,11,12] [1,4,7,10,3000,3002,3005,3008,3011,2003,2006,2009,1012,13,1014,15] E I λa w E I hH hC=>?_;refine RH 9 E I hH hC λa E=>?_;refine DN [(3,[2006,2009,1012,13,1014,15]),(6,[2003,2009,1012,13,1014,15]),(9,[2003,2006,1012,13,1014,15]),(12,[2003,2006,1009,13,1014,15])] (by kernel_rfl) rfl ⟨⟨_,rfl,?_⟩,⟨_,rfl,?_⟩,⟨_,rfl,?_⟩,⟨_,rfl,?_⟩,trivial⟩
  all_goals repeat' first
   | (refine RH 0 E I hH hC λa E=>?_;(first | refine rO E rfl I lR Ty.t3 rfl (by omega) (by omega) λb8 a w (E:Fr a 48 ((8,_)::_)) I ho=>?_ | refine rO E rfl I lR Ty.t3 rfl (by omega) (by omega) λiS a w (E:Fr a 48 ((11,_)::_)) I ho=>?_ | refine rO E rfl I underlying67 Ty.t313 rfl (by omega) (by omega) λeu a w E I ho=>?_ | refine rO E rfl I underlying68 Ty.t4 rfl (by omega) (by omega) λiD a w E I ho=>?_);replace hC:=hC.trans ho;clear ho;(first | rw[Dc _ rfl]at I | rw[aci]at I))
   | (refine RH 1 E I hH hC λa E=>?_;refine yB E rfl I rfl λfR a w E I ho=>?_;replace hC:=hC.trans ho;clear ho;refine RH 1 E I hH hC λa E=>?_;exact⟨b8,iS,eu,iD,fR,E.ab [1,3],I.sub⟩)
   | (refine RH 0 E I hH hC λa E=>?_;(first | (have q:=(iS,eu);clear q;refine DN [(3,[1012,13,1014,15]),(12,[1003,13,1014,15])] (by kernel_rfl) rfl ⟨⟨_,rfl,?_⟩,⟨_,rfl,?_⟩,trivial⟩) | (have q:=(iS,iD);clear q;refine DN [(3,[1009,13,1014,15]),(9,[1003,13,1014,15])] (by kernel_rfl) rfl ⟨⟨_,rfl,?_⟩,⟨_,rfl,?_⟩,trivial⟩) | (have q:=(eu,iD);clear q;refine DN [(3,[1006,13,1014,15]),(6,[1003,13,1014,15])] (by kernel_rfl) rfl ⟨⟨_,rfl,?_⟩,⟨_,rfl,?_⟩,trivial⟩) | (have q:=(b8,iS);clear q;refine DN [(9,[1012,13,1014,15]),(12,[1009,13,1014,15])] (by kernel_rfl) rfl ⟨⟨_,rfl,?_⟩,⟨_,rfl,?_⟩,trivial⟩) | (have q:=(b8,eu);clear q;refine DN [(6,[1012,13,1014,15]),(12,[1006,13,1014,15])] (by kernel_rfl) rfl ⟨⟨_,rfl,?_⟩,⟨_,rfl,?_⟩,trivial⟩) | (have q:=(b8,iD);clear q;refine DN [(6,[1009,13,1014,15]),(9,[1006,13,1014,15])] (by kernel_rfl) rfl ⟨⟨_,rfl,?_⟩,⟨_,rfl,?_⟩,trivial⟩) | (have q:=iS;clear q;refine DN [(3,[2009,1012,13,1014,15]),(9,[2003,1012,13,1014,15]),(12,[2003,1009,13,1014,15])] (by kernel_rfl) rfl ⟨⟨_,rfl,?_⟩,⟨_,rfl,?_⟩,⟨_,rfl,?_⟩,trivial⟩) | (have q:=eu;clear q;refine DN [(3,[2006,1012,13,1014,15]),(6,[2003,1012,13,1014,15]),(12,[2003,1006,13,1014,15])] (by kernel_rfl) rfl ⟨⟨_,rfl,?_⟩,⟨_,rfl,?_⟩,⟨_,rfl,?_⟩,trivial⟩) | (have q:=iD;clear q;refine DN [(3,[2006,1009,13,1014,15]),(6,[2003,1009,13,1014,15]),(9,[2003,1006,13,1014,15])] (by kernel_rfl) rfl ⟨⟨_,rfl,?_⟩,⟨_,rfl,?_⟩,⟨_,rfl,?_⟩,trivial⟩) | (have q:=b8;clear q;refine DN [(6,[2009,1012,13,1014,15]),(9,[2006,1012,13,1014,15]),(12,[2006,1009,13,1014,15])] (by kernel_rfl) rfl ⟨⟨_,rfl,?_⟩,⟨_,rfl,?_⟩,⟨_,rfl,?_⟩,trivial⟩)))
 clear E;(try clear I);rintro a w ⟨b8,iS,eu,iD,fR,E,I⟩;refine RN 3 E I λa E=>?_;replace I:=I.bQ 65 1 none;replace I:=U.ji (f:=ba) I;rw[rl]at I;refine aL (λμ a w=>∃ (i:Nat) (xs:List ee) (adL:Option Addr) (cL:Nat),(μ=n-i∧i≤n∧bm xs=List.replicate i (List.replicate aJ 0))∧Fr a 48 [(1,pt b1),(3,pt fR),(4,.int .i64 i)]∧U W w (aa fR 72 (Aj n me id aJ bt bh order cx workers room b8 iS eu iD adL i cL)::Sl 65 1 adL i cL (xs.map aK)::ah ba xs::aa b8 3 (ints .i64 n (λ_=>0))::aa iS 3 (ints .i64 n (λj=>if j<i then aJ else 0))::aa eu 313 (rows (λ_:Pe=>[Value.int .i64 0,.int .u32 0]) (List.replicate n (fF 0)))::aa iD 4 (List.replicate n (.bool false))::aa b1 28 [.int .i64 n,.int .i64 me,.int .i64 id,.int .i64 aJ,.int .i64 bt,.int .i64 bh,.int .i64 order,.int .i64 cx,.int .i64 workers,.int .i64 room]::L)) (n) (⟨0,[],none,0,⟨rfl,by omega,rfl⟩,E.ab [1,3,4],(I.sub:U W w (aa fR 72 (Aj n me id aJ bt bh order cx workers room b8 iS eu iD none 0 0)::Sl 65 1 none 0 0 []::ah ba []::aa b8 3 (ints .i64 n (λ_=>0))::aa iS 3 (ints .i64 n (λ_=>0))::aa eu 313 (rows (λ_:Pe=>[Value.int .i64 0,.int .u32 0]) (List.replicate n (fF 0)))::aa iD 4 (List.replicate n (.bool false))::aa b1 28 [.int .i64 n,.int .i64 me,.int .i64 id,.int .i64 aJ,.int .i64 bt,.int .i64 bh,.int .i64 order,.int .i64 cx,.int .i64 workers,.int .i64 room]::L))⟩) ?_;clear E I;rintro μ a w ⟨i,xs,adL,cL,⟨rfl,hi,bf⟩,E,I⟩;refine IF 6 E I (λak a E=>?_) λak a E=>?_
 ·
  refine bM 2 [6,7,8,9] [0,1,2,3,5,3004,1006,1007,1008,1009,1010,11,12,1013] E I λa w E I hH hC=>?_;refine RH 7 E I hH hC λa E=>?_;refine rO E rfl I bj Ty.t5 rfl (by omega) (by omega) λjV a w E I ho=>?_;replace hC:=hC.trans ho;clear ho;rw[Dc _ rfl,acz]at I;replace I:=I.M9 (m:=aJ) (sz:=1) (by rw[dA,kN,fB]);refine RH 1 E I hH hC λa E=>?_;refine ct E rfl I Bi Ty.t65 rfl rfl rfl rfl (by decide) (by decide) λb35 a w E I ho=>?_;replace hC:=hC.trans ho;clear ho;refine RH 0 E I hH hC λa E=>?_;refine cR E rfl I Bi Ty.t65 rfl rfl I.ai rfl (by simp[Value.oneCell']) (by decide) (by decide) (by omega) λIw Ix a w E I=>?_;rw[show List.map aK xs++_=List.map aK (xs++[(some (⟨jV,0,none⟩:Addr),aJ,List.replicate aJ 0)]) from by rw[cY,map_singleton,aK,kN];rfl]at I;refine ST 2 E I (λa w E I=>?_);refine RN 0 E I λa E=>?_;refine bM 0 [6] [0,1,2,4,5,3003,1006,7,1008] E I λa w E I hH hC=>?_;refine RH 8 E I hH hC λa E=>?_;refine ST 0 E I (λa w E I=>?_) (hlt:=(by rw[dk];omega));rw[ints_set,yI (g:=λj=>if j=i then (aJ:Int) else if j<i then (aJ:Int) else 0) (g':=λj=>if j<i+1 then (aJ:Int) else 0) (λj _=>by
   by_cases h1:j=i
   ·subst h1;simp
   ·by_cases h2:j<i
    ·simp[h1,h2,show j<i+1 from by omega]
    ·simp[h1,h2,show ¬ j<i+1 from by omega])]at I
  refine RN 3 E I λa E=>?_;have dB:=U.j7 (f:=ba) (x:=(some (⟨jV,0,none⟩:Addr),aJ,List.replicate aJ 0)) (by
   show U _ _ (Sl 5 1 (some (⟨jV,0,none⟩:Addr)) (List.replicate aJ (0:UInt8)).length aJ (bc (List.replicate aJ 0))::_);rw[kN];exact I.sub (M:=Sl 5 1 (some ⟨jV,0,none⟩) aJ aJ (bc (List.replicate aJ 0))::ah ba xs::aa fR 72 (Aj n me id aJ bt bh order cx workers room b8 iS eu iD Iw (i+1) Ix)::Sl 65 1 Iw (i+1) Ix ((xs++[(some (⟨jV,0,none⟩:Addr),aJ,List.replicate aJ 0)]).map aK)::aa b8 3 (ints .i64 n (λ_=>0))::aa iS 3 (ints .i64 n (λj=>if j<i+1 then (aJ:Int) else 0))::aa eu 313 (rows (λ_:Pe=>[Value.int .i64 0,.int .u32 0]) (List.replicate n (fF 0)))::aa iD 4 (List.replicate n (.bool false))::aa b1 28 [.int .i64 n,.int .i64 me,.int .i64 id,.int .i64 aJ,.int .i64 bt,.int .i64 bh,.int .i64 order,.int .i64 cx,.int .i64 workers,.int .i64 room]::L))
  exact⟨n-(i+1),by omega,i+1,xs++[(some (⟨jV,0,none⟩:Addr),aJ,List.replicate aJ 0)],Iw,Ix,⟨rfl,by omega,by rw[bm,cY,← bm,bf,replicate_succ'];rfl⟩,E.ab [1,3,4],dB.sub⟩
 refine RT 3 E I ?_;obtain rfl:i=n:=by omega
 obtain⟨lb,lo,rfl,_⟩:=(I.pick (Sl 65 1 adL i cL (xs.map aK))).bU adL (by omega);rw[yI (g:=λj=>if j<i then (aJ:Int) else 0) (g':=λ_=>(aJ:Int)) (λj hj=>by simp[hj])]at I;refine⟨⟨fR,lb,lo,cL,b8,iS,eu,iD⟩,rfl,?_⟩;have hR:(ft ⟨i,me,id,aJ,bt,bh,order,cx,workers,room⟩).ls.length=i:=by simp[ft]
 have h9:=I.sub (M:=Sl 65 1 (some ⟨lb,lo,none⟩) i cL (xs.map aK)::ah ba xs::aa fR 72 (Aj i me id aJ bt bh order cx workers room b8 iS eu iD (some ⟨lb,lo,none⟩) i cL)::aa b8 3 (ints .i64 i (λ_=>0))::aa iS 3 (ints .i64 i (λ_=>(aJ:Int)))::aa eu 313 (rows (λ_:Pe=>[Value.int .i64 0,.int .u32 0]) (List.replicate i (fF 0)))::aa iD 4 (List.replicate i (.bool false))::L);have h8:=bP.close (ls:=List.replicate i (List.replicate aJ 0)) (by rw[kN];exact h9) bf;replace h8:=U.bQ (U.bQ h8 100 1 none) 102 3 none;refine U.shut (M:=[_,_,_,_,_,_,_,_]) (A:=aZ _ _) ?_ (λ_ h=>⟨⟨none,0,none,0⟩,h⟩);have gP:(ft ⟨i,me,id,aJ,bt,bh,order,cx,workers,room⟩).ps=List.replicate i (fF aJ):=by simp[ft]
 rw[cZ,hR,gP,acv,acw,acx,acy];exact h8.sub (M:=aa fR 72 (Aj i me id aJ bt bh order cx workers room b8 iS eu iD (some ⟨lb,lo,none⟩) i cL)::bP lb lo cL (List.replicate i (List.replicate aJ 0))::aa b8 3 (ints .i64 i (λ_=>0))::aa iS 3 (ints .i64 i (λ_=>(aJ:Int)))::aa eu 313 (rows (λ_:Pe=>[Value.int .i64 0,.int .u32 0]) (List.replicate i (fF 0)))::aa iD 4 (List.replicate i (.bool false))::Sl 100 1 none 0 0 []::Sl 102 3 none 0 0 []::L)
end
section
variable {W w:World}{L L':List SP}{n c m lb lo i f cl:Nat}{ad:Option Addr}{ls:List (List UInt8)}{k:Ks}{A:nf}{B:ow}{x:UInt8}
theorem Pa {fr m aR cq:Nat}{adq:Option Addr}{q:List UInt8}(I:U W w L)(pz:w.cell? ⟨lb,aR,none⟩=some (.slice adq q.length cq))(hqc:q.length≤cq)(qv:∀ w',U W w' L→aX w' adq q.length q)(hl:q.length≤1000)(hf:fr≤1000)(hk:1≤m∧m≤1000) :
   Calls prog 113 #[.pointer (some ⟨lb,aR,none⟩),.int .i64 fr,.int .i64 m] w λr w'=>∃ av c',r=.returned (.slice av ((q.drop fr).take m).length c')∧U W w' (Sl 5 1 av ((q.drop fr).take m).length c' (bc ((q.drop fr).take m))::L):=by
 refine EN func113 ntmps113 rfl rfl λa E=>?_;refine RN 7 E I λa E=>?_;rw[bu (by omega)]at E;refine RN 4 E I λa E=>?_;refine bA E (cv E rfl (s:=10)) (ae E (pz)) rfl λa E=>?_;refine BY 4 E I (λlq a E=>?_) λlq a E=>?_
 ·
  refine RT 6 E I ?_;have hz:(q.drop fr).take m=[]:=by rw[drop_eq_nil_of_le (by omega),List.take_nil]
  rw[hz];exact⟨none,0,rfl,I.bQ _ _ none⟩
 refine RN 3 E I λa E=>?_;rw[bu (by omega)]at E;refine RN 5 E I λa E=>?_;refine SS E (ae E (pz)) λa E=>?_;refine RN 9 E I λa E=>?_;rw[show min (m:Int) ((((q.length-fr:Nat):Int)))=((min m (q.length-fr):Nat):Int) from by omega]at E;refine RN 1 E I λa E=>?_;rw[rZ,Nat.sub_zero,Nat.sub_zero]at E;have Ak:=((qv _ I).zM (c:=cq) (lo:=fr) (n:=min m (q.length-fr)) (by omega) hqc);have hte:(q.drop fr).take (min m (q.length-fr))=(q.drop fr).take m:=by rw[List.take_eq_take_iff,c8];omega
 rw[hte]at Ak;have eQ:min m (q.length-fr)=((q.drop fr).take m).length:=by rw[eA,c8]
 rw[eQ]at E Ak;replace I:=I.bQ 5 1 none;refine hO E rfl I bj Ty.t5 rfl rfl (by decide) (λh0=>Ak.get h0) (by rw[dA];omega) (ez _) (by rw[eA,c8];omega) λGR GS a w E I=>?_;rw[nil_append,ei]at I;rw[ei]at E;refine RT 1 E I ?_;exact⟨_,_,rfl,I⟩
theorem aZ.Df (I:U W w (aZ B k::L)):∃ (A:nf) (D:SP),U W w (aa B.cb 72 (cZ k B A)::D::L)∧∀ (w':World) (L':List SP) (nw:Nat) (cl:Bool),U W w' (aa B.cb 72 (cZ { k with now:=nw,cl:=cl } B A)::D::L')→U W w' (aZ B { k with now:=nw,cl:=cl }::L'):=by
 obtain⟨A,I⟩:=aZ.open I;have h1:U W w ([bP B.lb B.lo B.cL k.ls,aa B.hb 3 (ff k.ps),aa B.ea 3 (eZ k.ps),aa B.wb 313 (rows fh k.ps),aa B.xb 4 (fg k.ps),Sl 100 1 A.cm k.mr.length A.cM (c6 k.mr),Sl 102 3 A.adE k.ev.length A.cE (rows bV k.ev)]++(aa B.cb 72 (cZ k B A)::L)):=I.sub (M:=bP B.lb B.lo B.cL k.ls::aa B.hb 3 (ff k.ps)::aa B.ea 3 (eZ k.ps)::aa B.wb 313 (rows fh k.ps)::aa B.xb 4 (fg k.ps)::Sl 100 1 A.cm k.mr.length A.cM (c6 k.mr)::Sl 102 3 A.adE k.ev.length A.cE (rows bV k.ev)::aa B.cb 72 (cZ k B A)::L);refine⟨A,λh=>cp [bP B.lb B.lo B.cL k.ls,aa B.hb 3 (ff k.ps),aa B.ea 3 (eZ k.ps),aa B.wb 313 (rows fh k.ps),aa B.xb 4 (fg k.ps),Sl 100 1 A.cm k.mr.length A.cM (c6 k.mr),Sl 102 3 A.adE k.ev.length A.cE (rows bV k.ev)] h,?_,λw' L' nw cl I=>?_⟩
 ·exact (U.shut (A:=λh=>cp [bP B.lb B.lo B.cL k.ls,aa B.hb 3 (ff k.ps),aa B.ea 3 (eZ k.ps),aa B.wb 313 (rows fh k.ps),aa B.xb 4 (fg k.ps),Sl 100 1 A.cm k.mr.length A.cM (c6 k.mr),Sl 102 3 A.adE k.ev.length A.cE (rows bV k.ev)] h) h1 λ_ h=>h).perm (c1 _ _ _)
 ·have h2:U W w' (bP B.lb B.lo B.cL k.ls::aa B.hb 3 (ff k.ps)::aa B.ea 3 (eZ k.ps)::aa B.wb 313 (rows fh k.ps)::aa B.xb 4 (fg k.ps)::Sl 100 1 A.cm k.mr.length A.cM (c6 k.mr)::Sl 102 3 A.adE k.ev.length A.cE (rows bV k.ev)::aa B.cb 72 (cZ { k with now:=nw,cl:=cl } B A)::L'):=(I.perm (c1 _ _ _)).open (M:=[_,_,_,_,_,_,_]) λ_ h=>h;exact aZ.fold h2 B { k with now:=nw,cl:=cl } A
def yc (k:Ks)(i:Nat):List Ml:=(lF k i).map λj=>(k.me,j,aT (iI k j))
def yd (k:Ks)(i:Nat):List Ml:=(lF k i).map λj=>(k.me,j,aT (dW k j))
theorem acB (I:U W w (aZ B k::L))(hk:WC k):Calls prog 74 #[pt B.cb] w λr w'=>∃ ad c,r=.returned (.slice ad (cA k).1.length c)∧U W w' (cg 60 ad (cA k).1.length c (cA k).1::aZ B (cA k).2::L):=by
 have hn:=hk.n;obtain⟨A,D,I,hD⟩:=aZ.Df I;refine EN func74 ntmps74 rfl rfl λa E=>?_;refine IF 8 E I (λak a E=>?_) λak a E=>?_
 ·
  refine RT 2 E I ?_;refine⟨none,0,by rw[cA,aj ak];rfl,?_⟩;rw[cA,aj ak];exact cg.nil (hD _ _ k.now k.cl I)
 refine RN 5 E I λa E=>?_;have hq:cA k=((bH k).map λi=>(k.me,i,aT (iI k i)),{ k with cl:=true }):=by rw[cA,ag (by rw[ak];decide)]
 replace I:=U.bQ (U.ji (f:=cd) I) 60 3 none;refine aL (λμ a w=>∃ (i:Nat) (xs:List Mx) (ad:Option Addr) (c:Nat),(μ=k.n-i∧i≤k.n∧xs.map (·.2.2)=yc k i∧xs.length≤i)∧Fr a 52 [(0,pt B.cb),(3,.slice ad xs.length c),(4,.int .i64 i)]∧U W w (Sl 60 3 ad xs.length c (rows ca xs)::ah cd xs::aa B.cb 72 (cZ k B A)::D::L)) (k.n) (⟨0,[],none,0,⟨rfl,by omega,rfl,a7 _⟩,E.ab [0,3,4],I⟩) ?_;clear E I;rintro μ a w ⟨i,xs,ad,c,⟨rfl,hi,eJ,b7⟩,E,I⟩;refine IF 9 E I (λao a E=>?_) λao a E=>?_
 ·
  have l9:yc k (i+1)=if i=k.me then yc k i else yc k i++[(k.me,i,aT (iI k i))]:=by
   rw[yc,HB];split
   ·rfl
   ·rw[cY];rfl
  refine IF 9 E I (λay a E=>?_) λay a E=>?_
  ·
   rw[ag (by omega)]at l9;refine aV 0 (λw0 w'=>Rd w' B.cb 0 (cZ k B A)) [11,17,18,19] [0,1,2,3,4,6,7,8,9,10,12,13,14,15,16,3005,3011,1017,1018,1019,20,1021,1022,23] E I λa w E I hH=>?_;have hC:=hH.at w (I.ai (b:=B.cb));refine RH 15 E I hH hC λa E=>?_;refine QH E (λw hc=>ae E (hc 1 _ rfl)) hC λa E=>?_;refine QH E (λw hc=>ae E (hc 1 _ rfl)) hC λa E=>?_;refine RH 0 E I hH hC λa E=>?_;refine SS E (ae E (hC 2 _ rfl)) λa E=>?_;refine RH 1 E I hH hC λa E=>?_;refine aY 0 E I (G6 (p:=iI k i) (ad:=none) (c:=0) I (by show 0<4294967296;decide) (λw' hw=>aX.nil)) λad2 c2 a w E I=>?_;replace hC:=hH.at w (I.ai (b:=B.cb));refine RH 1 E I hH hC λa E=>?_;refine ct E rfl I tp Ty.t60 rfl rfl rfl rfl (by decide) (by decide) λb46 a w E I ho=>?_;clear ho;refine RN 0 E I λa E=>?_;refine cR E rfl I tp Ty.t60 rfl rfl I.ai rfl (by simp[Value.oneCell']) (by decide) (by decide) (by omega) λql sD a w E I=>?_;rw[show rows ca xs++_=rows ca (xs++[(ad2,c2,(k.me,i,aT (iI k i)))]) from by rw[kK];rfl,show xs.length+1=(xs++[(ad2,c2,(k.me,i,aT (iI k i)))]).length from by simp]at I;rw[show xs.length+1=(xs++[(ad2,c2,(k.me,i,aT (iI k i)))]).length from by simp]at E;refine RN 1 E I λa E=>?_;refine RN 3 E I λa E=>?_;have dB:=U.j7 (f:=cd) (x:=(ad2,c2,(k.me,i,aT (iI k i)))) (I.sub (M:=Sl 5 1 ad2 (aT (iI k i)).length c2 (bc (aT (iI k i)))::ah cd xs::Sl 60 3 ql (xs++[(ad2,c2,(k.me,i,aT (iI k i)))]).length sD (rows ca (xs++[(ad2,c2,(k.me,i,aT (iI k i)))]))::aa B.cb 72 (cZ k B A)::D::L));exact⟨k.n-(i+1),by omega,i+1,xs++[(ad2,c2,(k.me,i,aT (iI k i)))],ql,sD,⟨rfl,by omega,by rw[cY,eJ,l9];rfl,by rw[aM];simp;omega⟩,E.ab [0,3,4],dB.sub⟩
  rw[aj (by omega)]at l9;refine RN 3 E I λa E=>?_;exact⟨k.n-(i+1),by omega,i+1,xs,ad,c,⟨rfl,by omega,by rw[l9,eJ],by omega⟩,E.ab [0,3,4],I⟩
 obtain rfl:i=k.n:=by omega
 refine ST 4 E I (λa w E I=>?_);refine RT 3 E I ?_;have hR:xs.length=((bH k).map λi=>(k.me,i,aT (iI k i))).length:=by
  have h1:(xs.map (·.2.2)).length=(yc k k.n).length:=by rw[eJ]
  rw[a8]at h1;exact h1
 rw[hq];refine⟨ad,c,by rw[hR],?_⟩;rw[hR]at I;have h5:=hD _ _ k.now true (I.sub (M:=aa B.cb 72 (cZ { k with now:=k.now,cl:=true } B A)::D::Sl 60 3 ad ((bH k).map λi=>(k.me,i,aT (iI k i))).length c (rows ca xs)::ah cd xs::L));exact cg.close (xs:=xs) h5.sub eJ rfl
theorem acC {k:Ks}{i:Nat}(h1:∀ j,j<i→j≠k.me→¬ jL k j)(hi:i<k.n)(hm:i≠k.me)(hl:jL k i):(bH k).find? (λi=>decide (jL k i))=some i:=by
 rw[bH,List.find?_filter,List.find?_range_eq_some];refine⟨by simp[hm,hl],by simpa using hi,λj hj=>?_⟩;by_cases vQ:j=k.me
 ·simp[vQ]
 ·simp[h1 j hj vQ]
theorem acD {k:Ks}(h1:∀ j,j<k.n→j≠k.me→¬ jL k j):(bH k).find? (λi=>decide (jL k i))=none :=
 NM λj hj=>bu (h1 j (xP.1 hj).1 (xP.1 hj).2)
set_option maxHeartbeats 2000000 in
theorem acE (I:U W w (aZ B k::L))(hk:WC k)(pM:k.now≤1000000):Calls prog 73 #[pt B.cb] w λr w'=>∃ ad c,r=.returned (.slice ad (bw k).1.length c)∧U W w' (cg 60 ad (bw k).1.length c (bw k).1::aZ B (bw k).2::L):=by
 have hn:=hk.n;obtain⟨A0,D,I,hD⟩:=aZ.Df I;refine EN func73 ntmps73 rfl rfl λa E=>?_;refine IF 8 E I (λak a E=>?_) λak a E=>?_
 ·
  refine RT 2 E I ?_;refine⟨none,0,by rw[bw,aj ak];rfl,?_⟩;rw[bw,aj ak];exact cg.nil (hD _ _ k.now k.cl I)
 have iC:bw k=(match (bH { k with now:=k.now+1 }).find? (λi=>decide (jL { k with now:=k.now+1 } i)) with
  | some i=>([],{ ({ k with now:=k.now+1 }:Ks) with ev:=({ k with now:=k.now+1 }:Ks).ev++[(2,i,0)],cl:=true })
  | none=>((bH { k with now:=k.now+1 }).map λi=>(({ k with now:=k.now+1 }:Ks).me,i,aT (dW { k with now:=k.now+1 } i)),{ k with now:=k.now+1 })):=by rw[bw,ag (by rw[ak];decide)];rfl
 refine RN 6 E I λa E=>?_;rw[show ((k.now:Nat):Int)+1=((k.now+1:Nat):Int) from by omega]at E;refine ST 2 E I (λa w E I=>?_);refine RN 0 E I λa E=>?_;replace I:=hD _ _ (k.now+1) k.cl I;clear hD;have e6:WC { k with now:=k.now+1 }:=hk.CH;have qp:=hk.kY;have HE:({ k with now:=k.now+1 }:Ks).now≤1000001:=by show k.now+1≤_;omega
 have HF:({ k with now:=k.now+1 }:Ks).ev.length≤9:=qp;have HG:2≤({ k with now:=k.now+1 }:Ks).n∧({ k with now:=k.now+1 }:Ks).n≤8:=hn;have acF:({ k with now:=k.now+1 }:Ks).cl=false:=ak;replace I:U W w (aZ B { k with now:=k.now+1 }::L):=I;generalize ({ k with now:=k.now+1 }:Ks)=k1 at I e6 iC HE HF HG acF;obtain⟨A,I⟩:=aZ.open I;refine RN 3 E I λa E=>?_;refine aL (λμ a w=>∃ (i:Nat),(μ=k1.n-i∧i≤k1.n∧∀ j,j<i→j≠k1.me→¬ jL k1 j)∧Fr a 154 [(0,pt B.cb),(3,.int .i64 i)]∧U W w (aa B.cb 72 (cZ k1 B A)::bP B.lb B.lo B.cL k1.ls::aa B.hb 3 (ff k1.ps)::aa B.ea 3 (eZ k1.ps)::aa B.wb 313 (rows fh k1.ps)::aa B.xb 4 (fg k1.ps)::Sl 100 1 A.cm k1.mr.length A.cM (c6 k1.mr)::Sl 102 3 A.adE k1.ev.length A.cE (rows bV k1.ev)::L)) (k1.n) (⟨0,⟨rfl,by omega,λj hj=>by omega⟩,E.ab [0,3],I⟩) ?_;clear E I;rintro μ a w ⟨i,⟨rfl,hi,bX⟩,E,I⟩;refine IF 9 E I (λao a E=>?_) λao a E=>?_
 ·
  have cI:i<k1.n:=by omega
  have aG:i<k1.ps.length:=by rw[e6.ps];exact cI
  have iJ:=e6.qm cI;have eX:=vK aG;refine bM 2 [15,17,18] [0,1,2,3,4,1005,6,7,8,9,10,12,13,14,16,3011,1015,1017,1018,19,20,21] E I λa w E I hH hC=>?_;have j0:Rd w B.cb 0 (cZ k1 B A):=I.ai (b:=B.cb);have hrh:=I.bC (b:=B.hb) (acj eX);refine RH 5 E I hH hC λa E=>?_;refine SS E (ae E (j0 1 _ rfl)) λa E=>?_;refine RH 2 E I hH hC λa E=>?_;refine E.by (s:=34) (λjY E=>?_) (λjY E=>?_)
  ·
   refine RH 7 E I hH hC λa E=>?_;refine QH E (λw hc=>ae E (hc.cell (j0 11 _ rfl))) hC λa E=>?_;refine RH 0 E I hH hC λa E=>?_;refine bA E (cv E rfl (s:=34)) (ae E (j0 12 _ rfl)) rfl λa E=>?_;refine RH 1 E I hH hC λa E=>?_;refine bA E (cv E rfl (s:=34)) (ae E (hrh)) rfl λa E=>?_;refine RH 3 E I hH hC λa E=>?_;refine IF 0 E I (λay a E=>?_) λay a E=>?_
   ·
    have hlt:jL k1 i:=by rw[jL];omega
    rw[acC bX cI (by omega) hlt]at iC;replace I:=aZ.fold I B k1 A;refine CL 3 E I (It (kd:=2) (pl:=i) (fr:=0) I (by omega)) λa w E I=>?_;refine RN 1 E I λa E=>?_;obtain⟨A2,SY,I,hD2⟩:=aZ.Df I;refine ST 3 E I (λa w E I=>?_);refine RN 0 E I λa E=>?_;replace I:=hD2 _ _ k1.now true I;refine RT 2 E I ?_;rw[iC];exact⟨none,0,rfl,cg.nil I⟩
   refine RN 3 E I λa E=>?_;exact⟨k1.n-(i+1),by omega,i+1,⟨rfl,by omega,λj hj vQ=>by
    by_cases h:j=i
    ·subst h;rw[jL];omega
    ·exact bX j (by omega) vQ⟩,E.ab [0,3],I⟩
  refine RH 14 E I hH hC λa E=>?_;refine RN 4 E I λa E=>?_;exact⟨k1.n-(i+1),by omega,i+1,⟨rfl,by omega,λj hj vQ=>by
   by_cases h:j=i
   ·omega
   ·exact bX j (by omega) vQ⟩,E.ab [0,3],I⟩
 obtain rfl:i=k1.n:=by omega
 rw[acD bX]at iC;clear bX;have NH:=e6.mr;have eF:k1.me<k1.ls.length:=by rw[e6.ls];exact e6.me
 obtain⟨xs,bf,I⟩:=bP.open (I.pick (bP B.lb B.lo B.cL k1.ls));have b7:xs.length=k1.ls.length:=by rw[← bf,gr]
 obtain⟨y,hy⟩:∃ y,xs[k1.me]?=some y:=⟨_,aD (by omega)⟩;have uH:k1.ls.getD k1.me []=y.2.2:=by rw[← bf,uD hy]
 have ju:y.2.2.length≤1000:=by rw[← uH];exact e6.l5
 have pw:y.2.2.length≤y.2.1:=by
  obtain⟨uG,nT⟩:=a2.1 hy;have h1:=((I.pick (ah ba xs)).fA uG);rw[nT]at h1;have h2:U W w (Sl 5 1 y.1 y.2.2.length y.2.1 (bc y.2.2)::_):=h1;exact (h2.sl y.1).2
 refine RN 5 E I λa E=>?_;replace I:=U.bQ (U.ji (f:=cd) I) 60 3 none;refine aL (λμ a w=>∃ (i:Nat) (zs:List Mx) (ad:Option Addr) (c:Nat),(μ=k1.n-i∧i≤k1.n∧zs.map (·.2.2)=yd k1 i∧zs.length≤i)∧Fr a 154 [(0,pt B.cb),(4,.slice ad zs.length c),(5,.int .i64 i)]∧U W w (Sl 60 3 ad zs.length c (rows ca zs)::ah cd zs::aa B.cb 72 (cZ k1 B A)::Sl 65 1 (some ⟨B.lb,B.lo,none⟩) k1.ls.length B.cL (xs.map aK)::ah ba xs::aa B.hb 3 (ff k1.ps)::aa B.ea 3 (eZ k1.ps)::aa B.wb 313 (rows fh k1.ps)::aa B.xb 4 (fg k1.ps)::Sl 100 1 A.cm k1.mr.length A.cM (c6 k1.mr)::Sl 102 3 A.adE k1.ev.length A.cE (rows bV k1.ev)::L)) (k1.n) (⟨0,[],none,0,⟨(Nat.sub_zero _).symm,Nat.zero_le _,rfl,a7 _⟩,E.ab [0,4,5],(show U W w (Sl 60 3 none ([]:List Mx).length 0 (rows ca [])::ah cd []::_) from I).sub⟩) ?_;clear E I;rintro μ a w ⟨i,zs,ad,c,⟨rfl,hi,ry,jz⟩,E,I⟩;refine IF 9 E I (λbl a E=>?_) λbl a E=>?_
 ·
  have l9:yd k1 (i+1)=if i=k1.me then yd k1 i else yd k1 i++[(k1.me,i,aT (dW k1 i))]:=by
   rw[yd,HB];split
   ·rfl
   ·rw[cY];rfl
  have cI:i<k1.n:=by omega
  have aG:i<k1.ps.length:=by rw[e6.ps];exact cI
  have iJ:=e6.qm cI;have eX:=vK aG;obtain⟨z,hz⟩:∃ z,xs[i]?=some z:=⟨_,aD (by rw[b7,e6.ls];exact cI)⟩;have hzq:k1.ls.getD i []=z.2.2:=by rw[← bf,uD hz]
  refine IF 10 E I (λbO a E=>?_) λbO a E=>?_
  ·
   rw[aj (by omega)]at l9;refine RN 3 E I λa E=>?_;exact⟨k1.n-(i+1),by omega,i+1,zs,ad,c,⟨rfl,by omega,by rw[l9,ry],by omega⟩,E.ab [0,4,5],I⟩
  rw[ag (by omega)]at l9;refine RN 0 E I λa E=>?_;refine b6 (M:=λa w=>∃ (cJ:Nat) (c4:Option Addr) (dU:Nat),Fr a 154 [(0,pt B.cb),(4,.slice ad zs.length c),(5,.int .i64 i),(6,pt cJ)]∧U W w (aa cJ 203 [.int .i64 1,.int .i64 k1.me,.int .i64 i,.int .i64 k1.id,.int .i64 (au k1 i).has,.slice c4 ((y.2.2.drop (au k1 i).has).take 32).length dU,.int .i64 z.2.2.length,.int .i64 k1.mr.length,.int .u32 0]::Sl 5 1 c4 ((y.2.2.drop (au k1 i).has).take 32).length dU (bc ((y.2.2.drop (au k1 i).has).take 32))::Sl 60 3 ad zs.length c (rows ca zs)::ah cd zs::aa B.cb 72 (cZ k1 B A)::Sl 65 1 (some ⟨B.lb,B.lo,none⟩) k1.ls.length B.cL (xs.map aK)::ah ba xs::aa B.hb 3 (ff k1.ps)::aa B.ea 3 (eZ k1.ps)::aa B.wb 313 (rows fh k1.ps)::aa B.xb 4 (fg k1.ps)::Sl 100 1 A.cm k1.mr.length A.cM (c6 k1.mr)::Sl 102 3 A.adE k1.ev.length A.cE (rows bV k1.ev)::L)) ?_ ?_
  ·
   refine aV 0 (λw0 w'=>Rd w' B.cb 0 (cZ k1 B A)∧w'.cell? ⟨B.ea,i,none⟩=some (.int .i64 (au k1 i).has)∧Rd w' B.lb B.lo (xs.map aK)) [10,14,16,17,21,26,27,31,33,34,35,39,41,42,43,44,48,49,51] [0,1,2,3,5,6,7,8,9,11,12,13,15,18,19,20,22,23,24,25,28,29,30,32,36,37,38,40,45,46,47,3004,3010,3014,3016,3017,3021,3026,3027,3031,3033,3034,3039,3041,3042,3043,3044,3048,3049,2035,50,1051,1052] E I λa w E I hH=>?_;have hC:=hH.at w ⟨I.ai (b:=B.cb),I.bC (b:=B.ea) (x9 eX),I.cQ B.lb B.lo (by omega)⟩;refine RH 31 E I hH hC λa E=>?_;refine QH E (λw hc=>ae E (hc.1 1 _ rfl)) hC λa E=>?_;refine QH E (λw hc=>ae E (hc.1 2 _ rfl)) hC λa E=>?_;refine QH E (λw hc=>ae E (hc.1 13 _ rfl)) hC λa E=>?_;refine RH 1 E I hH hC λa E=>?_;refine QH E (λw hc=>ae E (hc.2.1)) hC λa E=>?_;refine QH E (λw hc=>ae E (hc.1 10 _ rfl)) hC λa E=>?_;refine QH E (λw hc=>ae E (hc.1 1 _ rfl)) hC λa E=>?_;refine RH 1 E I hH hC λa E=>?_;refine QH E (λw hc=>ae E (hc.1 13 _ rfl)) hC λa E=>?_;refine RH 1 E I hH hC λa E=>?_;refine QH E (λw hc=>ae E (hc.2.1)) hC λa E=>?_;refine QH E (λw hc=>ae E (hc.1 10 _ rfl)) hC λa E=>?_;refine QH E (λw hc=>JM E Bi Ty.t65 (by rw[e6.ls];exact cI)) hC λa E=>?_;rw[fB]at E;refine RH 1 E I hH hC λa E=>?_;refine QH E (λw hc=>ae E (hc.2.2 i (aK z) (by rw[bd,hz];rfl))) hC λa E=>?_;rw[aK]at E;refine RH 1 E I hH hC λa E=>?_;refine QH E (λw hc=>ae E (hc.1 16 _ rfl)) hC λa E=>?_;refine RH 1 E I hH hC λa E=>?_;refine DN [(35,[50,1051,1052]),(51,[1035,50,1052])] (by kernel_rfl) rfl ⟨⟨_,rfl,?_⟩,⟨_,rfl,?_⟩,trivial⟩
   ·
    refine RH 0 E I hH hC λa E=>?_;refine aY 0 E I (Pa (q:=y.2.2) (adq:=y.1) (cq:=y.2.1) (m:=32) I (by have h9:=hC.2.2 k1.me (aK y) (by rw[bd,hy];rfl);exact h9) pw (λw' hw=>(U.pA (hw.sub (M:=Sl 65 1 (some ⟨B.lb,B.lo,none⟩) k1.ls.length B.cL (xs.map aK)::ah ba xs::[]))).2 y (bI hy)) ju iJ.1 (by decide)) λc4 dU a w E I=>?_;replace hC:=hH.at w ⟨I.ai (b:=B.cb),I.bC (b:=B.ea) (x9 eX),I.cQ B.lb B.lo (by omega)⟩;refine RH 1 E I hH hC λa E=>?_;refine e5 E rfl I Ty.t203 rfl λcJ a w E I ho=>?_;clear ho;replace hC:=hH.at w ⟨I.ai (b:=B.cb),I.bC (b:=B.ea) (x9 eX),I.cQ B.lb B.lo (by omega)⟩;refine RH 0 E I hH hC λa E=>?_;refine SA 0 E I λa w E I=>?_;refine RN 0 E I λa E=>?_;exact⟨cJ,c4,dU,E.ab [0,4,5,6],I.sub⟩
   refine RH 0 E I hH hC λa E=>?_;refine e5 E rfl I Ty.t203 rfl λcJ a w E I ho=>?_;clear ho;replace hC:=hH.at w ⟨I.ai (b:=B.cb),I.bC (b:=B.ea) (x9 eX),I.cQ B.lb B.lo (by omega)⟩;refine RH 0 E I hH hC λa E=>?_;refine aY 0 E I (Pa (q:=y.2.2) (adq:=y.1) (cq:=y.2.1) (m:=32) I (by have h9:=hC.2.2 k1.me (aK y) (by rw[bd,hy];rfl);exact h9) pw (λw' hw=>(U.pA (hw.sub (M:=Sl 65 1 (some ⟨B.lb,B.lo,none⟩) k1.ls.length B.cL (xs.map aK)::ah ba xs::[]))).2 y (bI hy)) ju iJ.1 (by decide)) λc4 dU a w E I=>?_;replace hC:=hH.at w ⟨I.ai (b:=B.cb),I.bC (b:=B.ea) (x9 eX),I.cQ B.lb B.lo (by omega)⟩;refine RH 1 E I hH hC λa E=>?_;refine SA 0 E I λa w E I=>?_;refine RN 0 E I λa E=>?_;exact⟨cJ,c4,dU,E.ab [0,4,5,6],I.sub⟩
  clear E;(try clear I);rintro a w ⟨cJ,c4,dU,E,I⟩;refine b6 (M:=λa w=>Fr a 154 [(0,pt B.cb),(4,.slice ad zs.length c),(5,.int .i64 i),(6,pt cJ)]∧U W w (aa cJ 203 [.int .i64 1,.int .i64 k1.me,.int .i64 i,.int .i64 k1.id,.int .i64 (au k1 i).has,.slice c4 ((y.2.2.drop (au k1 i).has).take 32).length dU,.int .i64 z.2.2.length,.int .i64 k1.mr.length,.int .u32 (k1.mr.getLastD 0:Nat)]::Sl 5 1 c4 ((y.2.2.drop (au k1 i).has).take 32).length dU (bc ((y.2.2.drop (au k1 i).has).take 32))::Sl 60 3 ad zs.length c (rows ca zs)::ah cd zs::aa B.cb 72 (cZ k1 B A)::Sl 65 1 (some ⟨B.lb,B.lo,none⟩) k1.ls.length B.cL (xs.map aK)::ah ba xs::aa B.hb 3 (ff k1.ps)::aa B.ea 3 (eZ k1.ps)::aa B.wb 313 (rows fh k1.ps)::aa B.xb 4 (fg k1.ps)::Sl 100 1 A.cm k1.mr.length A.cM (c6 k1.mr)::Sl 102 3 A.adE k1.ev.length A.cE (rows bV k1.ev)::L)) ?_ ?_
  ·
   refine IF 7 E I (λeL a E=>?_) λeL a E=>?_
   ·
    refine bM 0 [7,8,9] [0,1,2,4,5,6,3003,1007,1008,1009,10,1011,12,1013] E I λa w E I hH hC=>?_;obtain⟨Hy,Hz,HD,l8⟩:=((I).pick (Sl 100 1 A.cm k1.mr.length A.cM (c6 k1.mr))).bU A.cm (by omega);have j0:w.cell? ⟨B.cb,16,none⟩=some (.slice A.cm k1.mr.length A.cM):=I.bC (b:=B.cb) rfl;rw[HD]at j0;refine RH 6 E I hH hC λa E=>?_;refine QH E (λw hc=>ae E (hc.cell (j0))) hC λa E=>?_;refine RH 0 E I hH hC λa E=>?_;refine SS E (ae E (j0)) λa E=>?_;refine RH 2 E I hH hC λa E=>?_;rw[show ((k1.mr.length:Nat):Int)-1=((k1.mr.length-1:Nat):Int) from by omega]at E;refine RH 1 E I hH hC λa E=>?_;refine SS E (ae E (l8 (k1.mr.length-1) _ (CM (by omega)))) λa E=>?_;refine RH 1 E I hH hC λa E=>?_;refine ST 0 E I (λa w E I=>?_);refine RN 0 E I λa E=>?_;rw[NG (by omega)]at I;exact⟨E.ab [0,4,5,6],I.sub⟩
   refine RN 0 E I λa E=>?_;have h0:k1.mr.getLastD 0=0:=by rw[hs (l:=k1.mr) (by omega)];rfl
   exact⟨E.ab [0,4,5,6],by rw[h0];exact I⟩
  clear E;(try clear I);rintro a w ⟨E,I⟩;refine RN 0 E I λa E=>?_;have hmp:dQ (dW k1 i) c4 dU=[.int .i64 1,.int .i64 k1.me,.int .i64 i,.int .i64 k1.id,.int .i64 (au k1 i).has,.slice c4 ((y.2.2.drop (au k1 i).has).take 32).length dU,.int .i64 z.2.2.length,.int .i64 k1.mr.length,.int .u32 (k1.mr.getLastD 0:Nat)]:=by
   rw[← uH,← hzq];rfl
  have acG:(dW k1 i).al=(y.2.2.drop (au k1 i).has).take 32:=by rw[← uH];rfl
  rw[← hmp]at I;refine aV 0 (λw0 w'=>Rd w' B.cb 0 (cZ k1 B A)∧Rd w' cJ 0 (dQ (dW k1 i) c4 dU)) [7,8] [0,1,2,3,4,6,3005,1007,1008,9,1010,1011,12] E I λa w E I hH=>?_;have hC:=hH.at w ⟨I.ai (b:=B.cb),I.ai (b:=cJ)⟩;refine RH 6 E I hH hC λa E=>?_;refine QH E (λw hc=>ae E (hc.1 1 _ rfl)) hC λa E=>?_;refine RH 0 E I hH hC λa E=>?_;refine SS E (bT E wT rfl Ty.t203 (hC.2)) λa E=>?_;refine RH 0 E I hH hC λa E=>?_;refine aY 0 E I (G6 (p:=dW k1 i) (ad:=c4) (c:=dU) I (by
   show k1.mr.getLastD 0<4294967296;rw[getLastD_eq_getLast?];cases hl:k1.mr.getLast? with
   | none=>decide
   | some s=>exact e6.sI s (List.mem_of_getLast? hl)) (λw' hw=>by
   have h9:=(hw.pick (Sl 5 1 c4 ((y.2.2.drop (au k1 i).has).take 32).length dU (bc ((y.2.2.drop (au k1 i).has).take 32)))).cw c4 _ rfl rfl;rw[acG];exact h9)) λad2 c2 a w E I=>?_
  replace hC:=hH.at w ⟨I.ai (b:=B.cb),I.ai (b:=cJ)⟩;refine RH 1 E I hH hC λa E=>?_;refine ct E rfl I tp Ty.t60 rfl rfl rfl rfl (by decide) (by decide) λag0 a w E I ho=>?_;clear ho;refine RN 0 E I λa E=>?_;refine cR E rfl I tp Ty.t60 rfl rfl I.ai rfl (by simp[Value.oneCell']) (by decide) (by decide) (by omega) λPb Pc a w E I=>?_;rw[show rows ca zs++_=rows ca (zs++[(ad2,c2,(k1.me,i,aT (dW k1 i)))]) from by rw[kK];rfl,show zs.length+1=(zs++[(ad2,c2,(k1.me,i,aT (dW k1 i)))]).length from by simp]at I;rw[show zs.length+1=(zs++[(ad2,c2,(k1.me,i,aT (dW k1 i)))]).length from by simp]at E;refine RN 1 E I λa E=>?_;refine RN 3 E I λa E=>?_;have dB:=U.j7 (f:=cd) (x:=(ad2,c2,(k1.me,i,aT (dW k1 i)))) (I.sub (M:=Sl 5 1 ad2 (aT (dW k1 i)).length c2 (bc (aT (dW k1 i)))::ah cd zs::Sl 60 3 Pb (zs++[(ad2,c2,(k1.me,i,aT (dW k1 i)))]).length Pc (rows ca (zs++[(ad2,c2,(k1.me,i,aT (dW k1 i)))]))::aa B.cb 72 (cZ k1 B A)::Sl 65 1 (some ⟨B.lb,B.lo,none⟩) k1.ls.length B.cL (xs.map aK)::ah ba xs::aa B.hb 3 (ff k1.ps)::aa B.ea 3 (eZ k1.ps)::aa B.wb 313 (rows fh k1.ps)::aa B.xb 4 (fg k1.ps)::Sl 100 1 A.cm k1.mr.length A.cM (c6 k1.mr)::Sl 102 3 A.adE k1.ev.length A.cE (rows bV k1.ev)::L));exact⟨k1.n-(i+1),by omega,i+1,zs++[(ad2,c2,(k1.me,i,aT (dW k1 i)))],Pb,Pc,⟨rfl,by omega,by rw[cY,ry,l9];rfl,by rw[aM];simp;omega⟩,E.ab [0,4,5],dB.sub⟩
 obtain rfl:i=k1.n:=by omega
 refine RT 3 E I ?_;have hR:zs.length=((bH k1).map λi=>(k1.me,i,aT (dW k1 i))).length:=by
  have h1:(zs.map (·.2.2)).length=(yd k1 k1.n).length:=by rw[ry]
  rw[a8]at h1;exact h1
 rw[iC];refine⟨ad,c,by rw[hR],?_⟩;rw[hR]at I;have h4:=bP.close (xs:=xs) (ls:=k1.ls) (lb:=B.lb) (lo:=B.lo) (c:=B.cL) (W:=W) (w:=w) (L:=Sl 60 3 ad ((bH k1).map λi=>(k1.me,i,aT (dW k1 i))).length c (rows ca zs)::ah cd zs::aa B.cb 72 (cZ k1 B A)::aa B.hb 3 (ff k1.ps)::aa B.ea 3 (eZ k1.ps)::aa B.wb 313 (rows fh k1.ps)::aa B.xb 4 (fg k1.ps)::Sl 100 1 A.cm k1.mr.length A.cM (c6 k1.mr)::Sl 102 3 A.adE k1.ev.length A.cE (rows bV k1.ev)::L) I.sub bf;have h5:=(aZ.fold h4 B k1 A);exact cg.close (xs:=zs) h5.sub ry rfl
end
section
variable {W w:World}{L R:List SP}{n c lb lo i f cl to:Nat}{ad:Option Addr}{ls:List (List UInt8)}{k:Ks}{A:nf}{B:ow}{bs:List UInt8}{e:kv}
theorem acH {a b:Nat}:((max a b:Nat):Int)=max (a:Int) (b:Int):=by omega
theorem acI {l:List (List UInt8)}(h:l.length=k.ls.length)(ps:List Pe):cZ { k with ls:=l,ps:=ps } B A=cZ k B A:=by simp only[cZ,h]
theorem aZ.acJ (I:U W w L)(B:ow)(k:Ks)(A:nf){l:List (List UInt8)}(h:l.length=k.ls.length)[kk:fM L [aa B.cb 72 (cZ k B A),bP B.lb B.lo B.cL l,aa B.hb 3 (ff k.ps),aa B.ea 3 (eZ k.ps),aa B.wb 313 (rows fh k.ps),aa B.xb 4 (fg k.ps),Sl 100 1 A.cm k.mr.length A.cM (c6 k.mr),Sl 102 3 A.adE k.ev.length A.cE (rows bV k.ev)] R]:U W w (aZ B { k with ls:=l }::R):=by
 have h1:=I.perm kk.perm;rw[← acI (l:=l) h k.ps]at h1;exact U.shut (M:=[_,_,_,_,_,_,_,_]) h1 λ_ h=>⟨A,h⟩
set_option maxHeartbeats 2000000 in
theorem acK (I:U W w (aZ B k::L))(hk:WC k)(hh:held k)(hb:bs.length≤65536)(hc:bs.length≤c)(hp:∀ w',U W w' L→aX w' ad bs.length bs) :
   Calls prog 155 #[pt B.cb,.slice ad bs.length c] w λr w'=>r=.returned (.int .i64 (dD bs k).1)∧U W w' (aZ B (dD bs k).2::L):=by
 have hn:=hk.n;obtain⟨A0,I⟩:=aZ.open I;refine EN func155 ntmps155 rfl rfl λa E=>?_;refine IF 8 E I (λak a E=>?_) λak a E=>?_
 ·
  replace I:=aZ.fold I B k A0;refine RT 2 E I ?_;exact⟨by rw[CQ ak],by rw[CQ ak];exact I.sub⟩
 replace I:=aZ.fold I B k A0;refine ka 2 E I (aao (I.pick (aZ B k)) hb hc (λw' hw=>hp w' hw.tail)) ?_;clear E I;rintro e w ⟨p,adP,cP,ok,rfl,Pd,Dg,I⟩;refine⟨_,rfl,λa E=>?_⟩;refine AL 3 E I λb5 a w E I=>?_;refine SA 0 E I λa w E I=>?_;refine RN 3 E I λa E=>?_;obtain⟨A,I⟩:=aZ.open (I.pick (aZ B k));refine bM 0 [9,19,29] [0,1,2,3,5,6,7,8,3004,1009,10,11,12,13,15,16,17,18,3014,1019,20,21,22,23,25,26,27,28,3024,1029,30,31] E I λa w E I hH hC=>?_;refine RH 3 E I hH hC λa E=>?_;refine E.by (s:=18) (λbD E=>?_) (λbD E=>?_)
 ·
  have ds:ok=false:=by revert bD;cases ok <;> simp
  have dc:eC bs=none:=Dg ds;refine RH 29 E I hH hC λa E=>?_;refine RT 3 E I ?_;rw[NR ak dc];exact⟨rfl,(aZ.fold I B k A).sub⟩
 have ds:ok=true:=by revert bD;cases ok <;> simp
 have qq:eC bs=some p:=Pd ds;obtain⟨uu,gP,_⟩:=GL qq;have HH:=uu.1;refine RH 10 E I hH hC λa E=>?_;refine E.by (s:=28) (λhJ E=>?_) (λhJ E=>?_)
 ·
  refine RH 19 E I hH hC λa E=>?_;refine RT 3 E I ?_;rw[xT ak qq (.inl hJ)];exact⟨rfl,(aZ.fold I B k A).sub⟩
 refine RH 10 E I hH hC λa E=>?_;refine E.by (s:=38) (λqi E=>?_) (λqi E=>?_)
 ·
  refine RH 9 E I hH hC λa E=>?_;refine RT 3 E I ?_;rw[xT ak qq (.inr (.inl qi))];exact⟨rfl,(aZ.fold I B k A).sub⟩
 refine RH 9 E I hH hC λa E=>?_;refine IF 0 E I (λao a E=>?_) λao a E=>?_
 ·
  refine RT 2 E I ?_;rw[xT ak qq (.inr (.inr ao))];exact⟨rfl,(aZ.fold I B k A).sub⟩
 have bX:¬ (p.to≠k.me∨(k.n:Int)≤p.aW∨p.id≠k.id):=by
  rintro (h | h | h)
  ·exact h hJ
  ·omega
  ·exact h ao
 rw[NS ak qq bX];clear Pd Dg ds;obtain⟨fr,fe⟩:=sM HH.1;have hW:fr<k.n:=by omega
 have eP:fr<k.ls.length:=by rw[hk.ls];exact hW
 have nP:fr<k.ps.length:=by rw[hk.ps];exact hW
 have HI:fr≠k.me:=by have:=uu.2.2.1;omega
 have iJ:=hk.qm hW;have j1:p.aW.toNat=fr:=by omega
 have eX:=vK nP;refine bM 1 [5,9] [0,1,2,4,6,7,8,3003,3005,1009,10,1011] E I λa w E I hH hC=>?_;refine RH 9 E I hH hC λa E=>?_;rw[fe]at E;refine RH 2 E I hH hC λa E=>?_;refine ST 0 E I (λa w E I=>?_) (hlt:=(by rw[ff,a8];exact nP));rw[acn { au k fr with heard:=k.now } rfl,← Ip eX { au k fr with heard:=k.now } rfl,← Ir eX { au k fr with heard:=k.now } rfl rfl,← Iq eX { au k fr with heard:=k.now } rfl]at I;have ch:=hk.peer (q:={ au k fr with heard:=k.now }) hW ⟨iJ.1,iJ.2.2⟩ (a7 _) rfl;have xV:(k.ps.set fr { au k fr with heard:=k.now })[fr]?=some { au k fr with heard:=k.now }:=getElem?_set_self nP;replace I:=aZ.fold I B { k with ps:=k.ps.set fr { au k fr with heard:=k.now } } A;refine RN 0 E I λa E=>?_;refine b6 (M:=λa w=>∃ lB:Ks,(lB=(if p.kind=2 then { k with ps:=k.ps.set fr { au k fr with heard:=k.now },ev:=k.ev++[(1,fr,0)],cl:=true } else { k with ls:=k.ls.set fr (dw (k.ls.getD fr []) p.first.toNat p.al),ps:=k.ps.set fr (gd k.now (aH k) p (au k fr)) })∧WC lB)∧Fr a 135 [(0,pt B.cb)]∧U W w (aZ B lB::L)) ?_ ?_
 ·
  refine IF 4 E I (λay a E=>?_) λay a E=>?_
  ·
   refine RN 4 E I λa E=>?_;rw[fe]at E;refine CL 0 E I (It (kd:=1) (pl:=fr) (fr:=0) I (by have:=hk.kY;show k.ev.length≤100;omega)) λa w E I=>?_;refine RN 0 E I λa E=>?_;obtain⟨A2,D,I,hD⟩:=aZ.Df I;refine ST 3 E I (λa w E I=>?_);refine RN 0 E I λa E=>?_;replace I:=hD _ _ k.now true I;exact⟨_,⟨by rw[aj ay],by have h9:=(hk.zQ uu gP (by omega) ak).1;rw[gf,aj ay,j1]at h9;exact h9⟩,E.ab [0],I.sub⟩
  refine RN 1 E I λa E=>?_;have hL:eM p.first∧eM p.dd∧eM p.frame∧p.al.length≤32:=by
   rcases uu.2.2.2.2 with h | h
   ·exact h.2
   ·exact absurd h.1 ay
  simp only[eM]at hL;obtain⟨fi,xU⟩:=sM hL.1.1;obtain⟨jM,CR⟩:=sM hL.2.1.1;obtain⟨kx,HJ⟩:=sM hL.2.2.1.1;have zX:p.first.toNat=fi:=by omega
  obtain⟨A2,I⟩:=aZ.open I;refine bM 0 [5,8,10] [0,1,2,4,7,9,3003,3005,6,3008,1010,1011] E I λa w E I hH hC=>?_;refine RH 8 E I hH hC λa E=>?_;rw[fe]at E;refine RH 2 E I hH hC λa E=>?_;rw[xU]at E;refine RH 1 E I hH hC λa E=>?_;refine aY 0 E I (acu (f:=fi) (bs:=p.al) (I.pick (bP B.lb B.lo B.cL k.ls)) eP (hk.mG hW) (by omega) (λw' hw=>(hw.pick (Sl 5 1 adP p.al.length cP (bc p.al))).cw adP p.al rfl rfl)) λNU er a w E I=>?_;refine RN 0 E I λa E=>?_;have dB:U W w (aZ B { k with ls:=k.ls.set fr (dw (k.ls.getD fr []) fi p.al),ps:=k.ps.set fr { au k fr with heard:=k.now } }::_):=aZ.acJ (l:=k.ls.set fr (dw (k.ls.getD fr []) fi p.al)) I B { k with ps:=k.ps.set fr { au k fr with heard:=k.now } } A2 (bz ..);replace I:=dB;clear dB;have mR:=ch.line (i:=fr) (l:=dw (k.ls.getD fr []) fi p.al) (sG (hk.mG hW)).2;have g4:aH ({ k with ls:=k.ls.set fr (dw (k.ls.getD fr []) fi p.al),ps:=k.ps.set fr { au k fr with heard:=k.now } }:Ks)=aH k:=by
   show ((k.ls.set fr _).getD k.me []).length=_;rw[NP HI];rfl
  refine b6 (M:=λa w=>∃ hh:Nat,hh=(if (au k fr).has<jM∧jM≤aH k then jM else (au k fr).has)∧Fr a 135 [(0,pt B.cb),(5,pt b5)]∧U W w (aZ B { k with ls:=k.ls.set fr (dw (k.ls.getD fr []) fi p.al),ps:=k.ps.set fr { au k fr with heard:=k.now,has:=hh } }::aa b5 203 (dQ p adP cP)::L)) ?_ ?_
  ·
   refine aV 1 (λw0 w'=>Rd w' b5 0 (dQ p adP cP)) [3] [0,2,3001,1003,4] E I λa w E I hH=>?_;have hC:=hH.at w (I.ai (b:=b5));refine RH 2 E I hH hC λa E=>?_;refine QH E (λw hc=>ae E (hc 6 _ rfl)) hC λa E=>?_;rw[CR]at E;refine RH 0 E I hH hC λa E=>?_;refine CL 0 E I (sS I mR) λa w E I=>?_;replace hC:=hH.at w (I.ai (b:=b5));rw[g4]at E;refine RH 1 E I hH hC λa E=>?_;refine IF 0 E I (λbl a E=>?_) λbl a E=>?_
   ·
    refine RN 0 E I λa E=>?_;obtain⟨A3,I⟩:=aZ.open I;have yJ:(eZ (k.ps.set fr { au k fr with heard:=k.now }))[fr]?=some (Value.int .i64 (au k fr).has):=by
     have h:=x9 xV;exact h
    refine bM 0 [5,9,11,12,13,15,16] [0,1,2,4,6,7,8,10,14,3003,3005,3009,3011,3012,3013,1015,1016,17,1018] E I λa w E I hH hC=>?_;refine RH 11 E I hH hC λa E=>?_;rw[fe]at E;refine RH 2 E I hH hC λa E=>?_;rw[fe]at E;refine RH 1 E I hH hC λa E=>?_;refine QH E (λw hc=>ae E (hc.cell (I.bC (b:=B.ea) yJ))) hC λa E=>?_;refine RH 1 E I hH hC λa E=>?_;rw[CR]at E;refine RH 2 E I hH hC λa E=>?_;refine ST 0 E I (λa w E I=>?_) (hlt:=(by rw[eZ,a8,bz];exact nP));rw[aco { au k fr with heard:=k.now,has:=max (au k fr).has jM } acH,← Io xV { au k fr with heard:=k.now,has:=max (au k fr).has jM } rfl,← Ir xV { au k fr with heard:=k.now,has:=max (au k fr).has jM } rfl rfl,← Iq xV { au k fr with heard:=k.now,has:=max (au k fr).has jM } rfl,set_set]at I;replace I:=aZ.fold I B { k with ls:=k.ls.set fr (dw (k.ls.getD fr []) fi p.al),ps:=k.ps.set fr { au k fr with heard:=k.now,has:=max (au k fr).has jM } } A3;refine RN 0 E I λa E=>?_;exact⟨max (au k fr).has jM,by split <;> omega,E.ab [0,5],I.sub⟩
   refine RN 0 E I λa E=>?_;exact⟨_,by rw[ag (by omega)],E.ab [0,5],I.sub⟩
  clear E;(try clear I);rintro a w ⟨hh,zW,E,I⟩;refine bM 1 [9,11,12,13,14] [0,1001,2,3,4,6,7,8,10,3005,3009,1011,1012,1013,1014,15,16] E I λa w E I hH hC=>?_;have xW:(k.ps.set fr { au k fr with heard:=k.now,has:=hh })[fr]?=some { au k fr with heard:=k.now,has:=hh }:=getElem?_set_self nP;have HK:p.dd.toNat=jM:=by omega
  have HL:p.frame.toNat=kx:=by omega
  have hP:gd k.now (aH k) p (au k fr)=(if 0<p.frame∧((au k fr).frame:Int)≤p.frame then { au k fr with heard:=k.now,has:=hh,frame:=kx,sum:=p.sum } else { au k fr with heard:=k.now,has:=hh }):=by
   rw[gd,HK,HL,zW]
  have vM:hh≤1000:=by rw[zW];split <;> omega
  obtain⟨Iy,I⟩:=aZ.open I;have fo:=jt Dd (I.ai (b:=B.wb)) xW;rw[ei]at fo;replace hH:=Hd.gw I;refine RH 4 E I hH hC λa E=>?_;refine E.by (s:=107) (λbW E=>?_) (λbW E=>?_)
  ·
   refine RH 8 E I hH hC λa E=>?_;rw[fe]at E;refine RH 2 E I hH hC λa E=>?_;refine bA E (cv E rfl (s:=107)) (ae E (fo 0 (.int .i64 (au k fr).frame) rfl)) rfl λa E=>?_;refine RH 2 E I hH hC λa E=>?_;refine IF 0 E I (λbO a E=>?_) λbO a E=>?_
   ·
    refine bM 0 [5,7,9,10] [0,1,2,4,6,8,3003,3005,3007,1009,1010,11,1012] E I λa w E I hH hC=>?_;refine RH 8 E I hH hC λa E=>?_;rw[fe]at E;refine RH 1 E I hH hC λa E=>?_;rw[HJ]at E;refine RH 3 E I hH hC λa E=>?_;refine rI E rfl I Ty.t313 (by simp[Value.oneCell']) (by rw[jC Dd,bz];show fr*2+2≤_;omega) λa w E I=>?_;rw[show cH (rows fh (k.ps.set fr { au k fr with heard:=k.now,has:=hh })) (fr*2) [Value.int .i64 kx,Value.int .u32 p.sum]=rows fh ((k.ps.set fr { au k fr with heard:=k.now,has:=hh }).set fr { au k fr with heard:=k.now,has:=hh,frame:=kx,sum:=p.sum }) from Kg Dd _ { au k fr with heard:=k.now,has:=hh,frame:=kx,sum:=p.sum } (by rw[bz];exact nP),← Io xW { au k fr with heard:=k.now,has:=hh,frame:=kx,sum:=p.sum } rfl,← Ip xW { au k fr with heard:=k.now,has:=hh,frame:=kx,sum:=p.sum } rfl,← Iq xW { au k fr with heard:=k.now,has:=hh,frame:=kx,sum:=p.sum } rfl,set_set]at I;replace I:=aZ.fold I B { k with ls:=k.ls.set fr (dw (k.ls.getD fr []) fi p.al),ps:=k.ps.set fr { au k fr with heard:=k.now,has:=hh,frame:=kx,sum:=p.sum } } Iy;refine RN 0 E I λa E=>?_;exact⟨_,⟨by rw[ag ay,zX,hP,aj (by omega)],(hk.peer (q:={ au k fr with heard:=k.now,has:=hh,frame:=kx,sum:=p.sum }) hW ⟨vM,by show kx≤1000;omega,gP⟩ (a7 _) rfl).line (sG (hk.mG hW)).2⟩,E.ab [0],I.sub⟩
   refine RN 0 E I λa E=>?_;exact⟨_,⟨by rw[ag ay,zX,hP,ag (by omega)],(hk.peer (q:={ au k fr with heard:=k.now,has:=hh }) hW ⟨vM,iJ.2.2⟩ (a7 _) rfl).line (sG (hk.mG hW)).2⟩,E.ab [0],(aZ.fold I B { k with ls:=k.ls.set fr (dw (k.ls.getD fr []) fi p.al),ps:=k.ps.set fr { au k fr with heard:=k.now,has:=hh } } Iy).sub⟩
  refine RH 13 E I hH hC λa E=>?_;refine RN 1 E I λa E=>?_;exact⟨_,⟨by rw[ag ay,zX,hP,ag (by omega)],(hk.peer (q:={ au k fr with heard:=k.now,has:=hh }) hW ⟨vM,iJ.2.2⟩ (a7 _) rfl).line (sG (hk.mG hW)).2⟩,E.ab [0],(aZ.fold I B { k with ls:=k.ls.set fr (dw (k.ls.getD fr []) fi p.al),ps:=k.ps.set fr { au k fr with heard:=k.now,has:=hh } } Iy).sub⟩
 clear E;(try clear I);rintro a w ⟨lB,⟨pc,hkw⟩,E,I⟩;refine CL 2 E I (O5 I hkw) λa w E I=>?_;refine RT 2 E I ?_;refine⟨rfl,?_⟩;have hz:lD lB=gf k p:=by
  by_cases h2:p.kind=2
  ·rw[pc,aj h2,gf,aj h2,j1];refine held.lD (hh.of rfl (bz ..) λi hi=>?_);by_cases h:i=fr
   ·subst h;rw[show au { k with ps:=k.ps.set i { au k i with heard:=k.now },ev:=k.ev++[(1,i,0)],cl:=true } i={ au k i with heard:=k.now } from by rw[au,br,getElem?_set_self hi];rfl];exact⟨rfl,rfl,rfl⟩
   ·rw[show au { k with ps:=k.ps.set fr { au k fr with heard:=k.now },ev:=k.ev++[(1,fr,0)],cl:=true } i=au k i from by rw[au,br,getElem?_set_ne (Ne.symm h),au,br]];exact⟨rfl,rfl,rfl⟩
  ·rw[pc,ag h2,gf,ag h2,j1]
 rw[hz]at I;exact I
end
end
section
def bn:Pr:=⟨⟨#[115,117,109]⟩,[⟨1,30,1,0⟩,⟨11,1,0,0⟩,⟨5,2,2,31⟩,⟨3,2,2,1⟩,⟨3,0,0,30⟩,⟨1,29,8,0⟩,⟨7,28,0,29⟩,⟨10,28,9,0⟩,⟨9,1,0,0⟩,⟨1,0,0,0⟩,⟨15,31,0,0⟩,⟨13,31,2,0⟩]⟩
theorem Iz {s:ByteArray}{i b:Nat}(hb:ko s i=b)(h:b<128):Utf8.decode s i=(b,1):=by
 simp only[ko]at hb;simp[Utf8.decode,hb,h]
theorem acL:ef bn.title 0=[(115,1),(117,1),(109,1)]:=by
 have h1:bn.title.size=3:=rfl;have h2:Utf8.decode bn.title 0=(115,1):=Iz (b:=115) rfl (by decide);have h3:Utf8.decode bn.title 1=(117,1):=Iz (b:=117) rfl (by decide);have h4:Utf8.decode bn.title 2=(109,1):=Iz (b:=109) rfl (by decide);have r3:ef bn.title 3=[]:=se (by omega);have r2:ef bn.title 2=[(109,1)]:=by rw[sd (by omega),ed,aj (by omega),h4];exact dJ _ r3
 have r1:ef bn.title 1=[(117,1),(109,1)]:=by rw[sd (by omega),ed,aj (by omega),h3];exact dJ _ r2
 rw[sd (by omega),ed,aj (by omega),h2];exact dJ _ r1
theorem rz:dp bn:=by
 refine⟨⟨?_,by decide,by decide,?_⟩,?_⟩
 ·rw[p3,acL];decide
 ·intro o ho;simp[bn]at ho;rcases ho with rfl | rfl | rfl | rfl | rfl | rfl | rfl | rfl | rfl | rfl | rfl | rfl <;> simp[sf,du]
 ·intro o ho;simp[bn]at ho;rcases ho with rfl | rfl | rfl | rfl | rfl | rfl | rfl | rfl | rfl | rfl | rfl | rfl <;> simp[e9,e8,bn]
section
variable {W w:World}{L:List SP}{n c:Nat}{ad:Option Addr}
theorem Pf (I:U W w L):Calls prog 25 #[] w λe w'=>∃ ad,e=.returned (.agg (bR bn ad 12).toArray)∧U W w' (aA W bn ad 12::L):=by
 refine EN func25 ntmps25 rfl rfl λa E=>?_;refine AL 1 E I λBt a w E I=>?_;refine RN 13 E I λa E=>?_;refine ct E rfl I Bh Ty.t114 rfl rfl rfl rfl (by decide) (by decide) λDh a w E I ho=>?_;clear ho;refine SA 1 E I λa w E I=>?_;refine RT 0 E I ?_;refine⟨some ⟨Dh,0,none⟩,rfl,?_⟩;have h1:U W w (aa Dh 114 ([]++rows dS bn.ops++[])::_):=I.j5 Dh;have h2:=U.jh (n:=12) (c:=12) (sz:=4) h1 rfl (a7 _) (Nat.zero_le _);have h3:U W w (aA W bn (some ⟨Dh,0,none⟩) 12::_):=h2.FC;exact h3.sub
set_option maxHeartbeats 2000000 in
end
section
variable {W w:World}{L:List SP}{m cP:Nat}{adP:Option Addr}{p:Pr}
theorem Al {fr:Int}{g:Nat→Int}{aq:Option Addr}{cO:Nat}{P:List (List UInt8)}{zs:List ee}(I:U W w (aA W p aq cO::L))(hm:P.length=m)(a6:dp p)(aF:p.title.size≤1000000000)(hg:dT g)(hP:P.length≤65536∧∀ b∈P,b.length≤1099511627776)(hz:zs.map (·.2.2)=P)(hf:-1099511627776≤fr∧fr≤1099511627776)(hp:∀ w',U W w' L→iQ w' adP zs) :
   Calls prog 116 #[.agg (bR p aq cO).toArray,.agg (ints .i32 32 g).toArray,.int .i64 fr,.slice adP m cP] w λe w'=>e=.returned (.agg (ints .i32 32 (foldI p fr g P)).toArray)∧dT (foldI p fr g P)∧U W w' (aA W p aq cO::L):=by
 subst hm;exact Y9 I a6 aF hg hP hz hf hp
end
def jn (P O:List UInt8)(k:Nat):List (List UInt8):=(List.range k).map (bK [P,O])
end
end Go.Proofs.YteoldcfapaiobaaGreat
