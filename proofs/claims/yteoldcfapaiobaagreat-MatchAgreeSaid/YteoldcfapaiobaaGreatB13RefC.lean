/- The document's player without its game: how it lies in memory; quintainref21.within, May, New, Head, Front, event, held, Mark, Told. -/
import Derived.Test.YteoldcfapaiobaaGreatB10Core
import Derived.Test.YteoldcfapaiobaaGreatB12Mul
import Derived.Test.YteoldcfapaiobaaGreatB01Row
import Derived.Test.YteoldcfapaiobaaGreatB06Ref
import Derived.Test.YteoldcfapaiobaaGreatB11Rank
import Derived.Test.YteoldcfapaiobaaGreatB05Vm
import Derived.Test.YteoldcfapaiobaaGreatB09CoQ
namespace Go.Proofs.YteoldcfapaiobaaGreat
open Tryz
open List (take_zero nil_append drop_eq_nil_of_le cons_append append_nil ext_getElem? set_set mem_singleton range_succ getElem?_set_ne getElem?_set_self replicate_succ' map_singleton getLastD_eq_getLast? map_replicate)
open Go.RowKit
set_option linter.unusedVariables false
set_option linter.unusedSimpArgs false
set_option maxRecDepth 10000
set_option synthInstance.maxSize 4000
set_option synthInstance.maxHeartbeats 400000
section
theorem Be (z:Value)(h:z.cells=#[z])(n:Nat):(madeCells z.cells (n*1)).toList=List.replicate n z:=by
 apply ext_getElem?;intro i;rw[madeCells,Array.getElem?_toList,Array.getElem?_map,Array.getElem?_range,h,List.getElem?_replicate];by_cases hi:i<n
 ·simp[hi,Nat.mod_one]
 ·simp[hi]
theorem aaj (n:Nat):(madeCells (Value.agg #[.int .i64 0,.int .u32 0]).cells (n*2)).toList=rows (λ_:Pe=>[Value.int .i64 0,.int .u32 0]) (List.replicate n (fy 0)):=by
 have hl:∀ m:Nat,(madeCells (Value.agg #[.int .i64 0,.int .u32 0]).cells m).toList=(List.range m).map λi=>if i%2=0 then Value.int .i64 0 else .int .u32 0:=by
  intro m;apply ext_getElem?;intro i;rw[madeCells,Array.getElem?_toList,Array.getElem?_map,Array.getElem?_range,bn];by_cases hi:i<m
  ·rcases Nat.mod_two_eq_zero_or_one i with h | h <;> simp[hi,Value.cells,h]
  ·simp[hi]
 rw[hl]
 induction n with
 | zero=>rfl
 | succ n ih =>
  rw[Nat.succ_mul,replicate_succ',ka,← ih,range_succ,range_succ];simp only[cX,dA]
  congr 1
  have h1:n*2%2=0:=by omega
  have h2:¬ (n*2+1)%2=0:=by omega
  simp[h1,h2,rows]
def bN (lb lo c:Nat)(ls:List (List UInt8)):SP:=λh=>∃ xs:List ed,bj xs=ls∧cn [Sl 65 1 (some ⟨lb,lo,none⟩) ls.length c (xs.map aL),ah ba xs] h
structure nH where
 cb:Nat
 lb:Nat
 lo:Nat
 cL:Nat
 hb:Nat
 dZ:Nat
 wb:Nat
 xb:Nat
structure mF where
 ch:Option Addr
 cM:Nat
 adE:Option Addr
 cE:Nat
abbrev cZ (k:Ks)(B:nH)(A:mF):List Value:=[.int .i64 k.n,.int .i64 k.me,.int .i64 k.id,.int .i64 k.aE,.int .i64 k.bm,.int .i64 k.aX,.int .i64 k.order,.int .i64 k.cm,.int .i64 k.workers,.int .i64 k.room,
 .slice (some ⟨B.lb,B.lo,none⟩) k.ls.length B.cL,.int .i64 k.now,.slice (some ⟨B.hb,0,none⟩) k.n k.n,.slice (some ⟨B.dZ,0,none⟩) k.n k.n,.slice (some ⟨B.wb,0,none⟩) k.n k.n,.slice (some ⟨B.xb,0,none⟩) k.n k.n,.slice A.ch k.mr.length A.cM,.slice A.adE k.ev.length A.cE,.bool k.cl]
def e7 (l:List Pe):List Value:=l.map λp=>Value.int .i64 (p.heard:Int)
def eU (l:List Pe):List Value:=l.map λp=>Value.int .i64 (p.has:Int)
def e8 (l:List Pe):List Value:=l.map λp=>Value.bool p.apart
abbrev e9 (p:Pe):List Value:=[.int .i64 p.frame,.int .u32 p.sum]
theorem Bf (p:Pe):(e9 p).length=2:=rfl
def a1 (B:nH)(k:Ks):SP:=λh=>∃ A:mF,cn [aa B.cb 72 (cZ k B A),bN B.lb B.lo B.cL k.ls,aa B.hb 3 (e7 k.ps),aa B.dZ 3 (eU k.ps),aa B.wb 313 (rows e9 k.ps),aa B.xb 4 (e8 k.ps),Sl 100 1 A.ch k.mr.length A.cM (c4 k.mr),Sl 102 3 A.adE k.ev.length A.cE (rows bU k.ev)] h
section
variable {W w:World}{L R:List SP}{c m lb lo i:Nat}{ad:Option Addr}{ls:List (List UInt8)}{k:Ks}{A:mF}{B:nH}
theorem bN.open (I:U W w (bN lb lo c ls::L)):∃ xs:List ed,bj xs=ls∧U W w (Sl 65 1 (some ⟨lb,lo,none⟩) ls.length c (xs.map aL)::ah ba xs::L):=by
 obtain⟨xs,h1,I⟩:=I.jt (ι:=List ed) (p:=λxs=>bj xs=ls) (B:=λxs h=>cn [Sl 65 1 (some ⟨lb,lo,none⟩) ls.length c (xs.map aL),ah ba xs] h) λ_ ⟨xs,h1,h2⟩=>⟨xs,h1,h2⟩;exact⟨xs,h1,I.open (M:=[_,_]) λ_ h=>h⟩
theorem bN.close {xs:List ed}(I:U W w (Sl 65 1 (some ⟨lb,lo,none⟩) ls.length c (xs.map aL)::ah ba xs::L))(h:bj xs=ls):U W w (bN lb lo c ls::L) :=
 U.shut (M:=[_,_]) I λ_ h'=>⟨xs,h,h'⟩
theorem U.oD {xs:List ed}{el:TypeId}{m:Nat}(I:U W w (Sl el 1 ad m c (xs.map aL)::ah ba xs::L)):ix w ad xs:=by
 have hl:=(I.sl ad).1;rw[bg,Nat.mul_one]at hl;refine⟨λh0=>?_,λx hx=>?_⟩
 ·obtain⟨b,off,h1,h2⟩:=I.bW ad (by omega);exact⟨b,off,h1,h2⟩
 ·obtain⟨i,hi,rfl⟩:=List.getElem_of_mem hx;have h2:=(I.tail).fv hi;exact U.cu (L:=ba xs[i]::_) h2 _ _ (k:=(fL.head:fL (Sl 5 1 xs[i].1 xs[i].2.2.length xs[i].2.1 (bc xs[i].2.2)::_) xs[i].1 _ _ _ _ _ _)) rfl rfl
theorem a1.open (I:U W w (a1 B k::L)):∃ A:mF,U W w (aa B.cb 72 (cZ k B A)::bN B.lb B.lo B.cL k.ls::aa B.hb 3 (e7 k.ps)::aa B.dZ 3 (eU k.ps)::aa B.wb 313 (rows e9 k.ps)::aa B.xb 4 (e8 k.ps)::Sl 100 1 A.ch k.mr.length A.cM (c4 k.mr)::Sl 102 3 A.adE k.ev.length A.cE (rows bU k.ev)::L):=by
 obtain⟨A,_,I⟩:=I.jt (ι:=mF) (p:=λ_=>True) (B:=λA h=>cn [aa B.cb 72 (cZ k B A),bN B.lb B.lo B.cL k.ls,aa B.hb 3 (e7 k.ps),aa B.dZ 3 (eU k.ps),aa B.wb 313 (rows e9 k.ps),aa B.xb 4 (e8 k.ps),Sl 100 1 A.ch k.mr.length A.cM (c4 k.mr),Sl 102 3 A.adE k.ev.length A.cE (rows bU k.ev)] h) λ_ ⟨A,h⟩=>⟨A,trivial,h⟩;exact⟨A,I.open (M:=[_,_,_,_,_,_,_,_]) λ_ h=>h⟩
theorem a1.fold (I:U W w L)(B:nH)(k:Ks)(A:mF)[kk:fE L [aa B.cb 72 (cZ k B A),bN B.lb B.lo B.cL k.ls,aa B.hb 3 (e7 k.ps),aa B.dZ 3 (eU k.ps),aa B.wb 313 (rows e9 k.ps),aa B.xb 4 (e8 k.ps),Sl 100 1 A.ch k.mr.length A.cM (c4 k.mr),Sl 102 3 A.adE k.ev.length A.cE (rows bU k.ev)] R]:U W w (a1 B k::R) :=
 U.shut (M:=[_,_,_,_,_,_,_,_]) (I.perm kk.perm) λ_ h=>⟨A,h⟩
end
theorem aak {l:List Pe}{i:Nat}{p:Pe}(h:l[i]?=some p):(e7 l)[i]?=some (.int .i64 p.heard):=by rw[e7,bn,h];rfl
theorem wz {l:List Pe}{i:Nat}{p:Pe}(h:l[i]?=some p):(eU l)[i]?=some (.int .i64 p.has):=by rw[eU,bn,h];rfl
theorem aal {l:List Pe}{i:Nat}{p:Pe}(h:l[i]?=some p):(e8 l)[i]?=some (.bool p.apart):=by rw[e8,bn,h];rfl
theorem yy {α β:Type}(f:α→β){l:List α}{i:Nat}{x:α}{v:β}(h:f x=v):(l.map f).set i v=(l.set i x).map f:=by rw[← h,map_set]
theorem Bg {β:Type}(f:Pe→β){l:List Pe}{i:Nat}{p q:Pe}(h:l[i]?=some p)(hf:f q=f p):(l.set i q).map f=l.map f:=by
 apply ext_getElem?;intro j;rw[bn,bn,jF];by_cases hj:i=j
 ·subst hj;have hi:=(a8.1 h).1;rw[al rfl,al hi,h];simp[hf]
 ·rw[ag hj]
theorem aam (f:Pe→List Value){l:List Pe}{i:Nat}{p q:Pe}(h:l[i]?=some p)(hf:f q=f p):rows f (l.set i q)=rows f l:=by
 rw[rows,rows,List.flatMap_def,List.flatMap_def,Bg f h hf]
theorem FV {l:List Pe}{i:Nat}{p:Pe}(h:l[i]?=some p)(q:Pe)(hf:q.heard=p.heard):e7 (l.set i q)=e7 l:=Bg _ h (by rw[hf])
theorem FW {l:List Pe}{i:Nat}{p:Pe}(h:l[i]?=some p)(q:Pe)(hf:q.has=p.has):eU (l.set i q)=eU l:=Bg _ h (by rw[hf])
theorem FX {l:List Pe}{i:Nat}{p:Pe}(h:l[i]?=some p)(q:Pe)(hf:q.apart=p.apart):e8 (l.set i q)=e8 l:=Bg _ h (by rw[hf])
theorem FY {l:List Pe}{i:Nat}{p:Pe}(h:l[i]?=some p)(q:Pe)(hf:q.frame=p.frame)(I:q.sum=p.sum):rows e9 (l.set i q)=rows e9 l:=aam _ h (by rw[e9,e9,hf,I])
theorem aan {l:List Pe}{i:Nat}(q:Pe){v:Int}(h:(q.heard:Int)=v):(e7 l).set i (.int .i64 v)=e7 (l.set i q):=yy _ (by rw[h])
theorem aao {l:List Pe}{i:Nat}(q:Pe){v:Int}(h:(q.has:Int)=v):(eU l).set i (.int .i64 v)=eU (l.set i q):=yy _ (by rw[h])
section
variable {W w:World}{L:List SP}{n c lb lo i f cl:Nat}{ad:Option Addr}{ls:List (List UInt8)}{k:Ks}{A:mF}{B:nH}{x:UInt8}
theorem rF (I:U W w (a1 B k::L))(hk:WC k):Calls prog 20 #[pt B.cb] w λr V=>r=.returned (.int .i64 (aI k))∧U W V (a1 B k::L):=by
 have ej:k.me<k.ls.length:=by rw[hk.ls];exact hk.me
 obtain⟨A,I⟩:=a1.open I;refine EN func20 ntmps20 rfl rfl λa E=>?_;refine bS 3 [8] [0,1,2,4,5,6,7,3003,1008,9,10,1011,12,13] E I λa w E I hH hC=>?_;obtain⟨xs,bd,I⟩:=bN.open (I.pick (bN B.lb B.lo B.cL k.ls));have b0:xs.length=k.ls.length:=by rw[← bd,gf]
 obtain⟨mI,ol,y,yz,hy,oC,pE⟩:=(U.oD I).at (i:=k.me) (by omega);cases yz;have jB:aI k=y.2.2.length:=by
  show (k.ls.getD k.me []).length=_;rw[← bd,s4 hy]
 replace hH:=Hd.gv I;refine RH 11 E I hH hC λa E=>?_;refine SS E (ae E (oC)) λa E=>?_;rw[aL]at E;refine RH 2 E I hH hC λa E=>?_;refine RT 0 E I ?_;refine⟨by rw[jB],?_⟩;exact (a1.fold (bN.close I bd) B k A).sub
theorem FZ (I:U W w (a1 B k::L))(hk:WC k):Calls prog 19 #[pt B.cb] w λr V=>r=.returned (.int .i64 (aw k))∧U W V (a1 B k::L):=by
 have hn:=hk.n;have e6:=hk.ls;obtain⟨A,I⟩:=a1.open I;refine EN func19 ntmps19 rfl rfl λa E=>?_;refine RN 7 E I λa E=>?_;obtain⟨xs,bd,I⟩:=bN.open (I.pick (bN B.lb B.lo B.cL k.ls));have b0:xs.length=k.ls.length:=by rw[← bd,gf]
 rw[← b0]at E;refine CL 0 E I (A6 (xs:=xs) I (by omega) (by omega) (λV hw=>U.oD hw)) λa w E I=>?_;refine RT 1 E I ?_;refine⟨by rw[bd];rfl,?_⟩;exact (a1.fold (bN.close I bd) B k A).sub
theorem F0 {kd pl fr:Nat}(I:U W w (a1 B k::L))(hl:k.ev.length≤100):Calls prog 112 #[pt B.cb,.int .i64 kd,.int .i64 pl,.int .i64 fr] w λr V=>r=.returned (.tuple #[])∧U W V (a1 B { k with ev:=k.ev++[(kd,pl,fr)] }::L):=by
 obtain⟨A,I⟩:=a1.open I;refine EN func112 ntmps112 rfl rfl λa E=>?_;refine RN 9 E I λa E=>?_;refine cp E rfl I underlying70 Ty.t102 rfl rfl rfl rfl (by decide) (by decide) λib a w E I ho=>?_;clear ho;refine RN 0 E I λa E=>?_;refine cQ E rfl I underlying70 Ty.t102 rfl rfl I.ai rfl (E3 (kd,pl,fr)) (by decide) (by decide) (by omega) λF1 F2 a w E I=>?_;rw[show rows bU k.ev++_=rows bU (k.ev++[(kd,pl,fr)]) from by rw[ka];rfl,show k.ev.length+1=(k.ev++[(kd,pl,fr)]).length from by simp]at I;rw[show k.ev.length+1=(k.ev++[(kd,pl,fr)]).length from by simp]at E;refine ST 2 E I (λa w E I=>?_);refine RT 0 E I ?_;exact⟨rfl,(a1.fold I B { k with ev:=k.ev++[(kd,pl,fr)] } { A with adE:=F1,cE:=F2 }).sub⟩
theorem aap (I:U W w (a1 B k::L)):Calls prog 51 #[pt B.cb] w λr V=>∃ ad c,r=.returned (.slice ad k.ev.length c)∧U W V (Sl 102 3 ad k.ev.length c (rows bU k.ev)::a1 B { k with ev:=[] }::L):=by
 obtain⟨A,I⟩:=a1.open I;refine EN func51 ntmps51 rfl rfl λa E=>?_;refine ST 12 E I (λa w E I=>?_);refine RT 3 E I ?_;refine⟨A.adE,A.cE,rfl,?_⟩;replace I:=I.bO 102 3 none;have h2:U W w (aa B.cb 72 (cZ { k with ev:=[] } B ⟨A.ch,A.cM,none,0⟩)::bN B.lb B.lo B.cL k.ls::aa B.hb 3 (e7 k.ps)::aa B.dZ 3 (eU k.ps)::aa B.wb 313 (rows e9 k.ps)::aa B.xb 4 (e8 k.ps)::Sl 100 1 A.ch k.mr.length A.cM (c4 k.mr)::Sl 102 3 none 0 0 []::Sl 102 3 A.adE k.ev.length A.cE (rows bU k.ev)::L):=I.sub (M:=aa B.cb 72 _::bN B.lb B.lo B.cL k.ls::aa B.hb 3 (e7 k.ps)::aa B.dZ 3 (eU k.ps)::aa B.wb 313 (rows e9 k.ps)::aa B.xb 4 (e8 k.ps)::Sl 100 1 A.ch k.mr.length A.cM (c4 k.mr)::Sl 102 3 none 0 0 []::Sl 102 3 A.adE k.ev.length A.cE (rows bU k.ev)::L);refine U.perm (L:=a1 B { k with ev:=[] }::Sl 102 3 A.adE k.ev.length A.cE (rows bU k.ev)::L) ?_ (List.Perm.swap _ _ _);exact U.shut (M:=[_,_,_,_,_,_,_,_]) h2 λ_ h=>⟨⟨A.ch,A.cM,none,0⟩,h⟩
theorem MK (I:U W w (a1 B k::L))(hk:WC k):Calls prog 153 #[pt B.cb] w λr V=>r=.returned (.tuple #[])∧U W V (a1 B (kZ k)::L):=by
 have eF:k.ps.length=k.n:=hk.ps;have hn:=hk.n;refine EN func153 ntmps153 rfl rfl λa E=>?_;refine RN 2 E I λa E=>?_;refine aP (λμ a w=>∃ (i:Nat),(μ=k.n-i∧i≤k.n)∧Fr a 68 [(0,pt B.cb),(2,.int .i64 i)]∧U W w (a1 B (gn k i)::L)) (k.n) (⟨0,⟨rfl,by omega⟩,E.ab [0,2],I⟩) ?_;clear E I;rintro μ a w ⟨i,⟨rfl,hi⟩,E,I⟩;have jL:=hk.gn (i:=i) hi;have dO:=AB k i;have uA:(gn k i).n=k.n:=by obtain⟨ps,ev,h1,_⟩:=ye k i;rw[h1]
 have fb:gn k (i+1)=kY (gn k i) i:=rfl;rw[kY]at fb;generalize nm:gn k i=kk at I jL dO fb uA;obtain⟨A,I⟩:=a1.open I;refine IF 9 E I (λaj a E=>?_) λaj a E=>?_
 ·
  have aG:i<kk.ps.length:=by omega
  have ik:=jL.pw (i:=i) (by omega);have e4:=uu aG;have fe:=jk Bf (I.ai (b:=B.wb)) e4;rw[Nat.zero_add]at fe;refine RN 8 E I λa E=>?_;refine SS E (bR E underlying313 rfl Ty.t313 (fe)) λa E=>?_;refine AL 0 E I λb3 a w E I=>?_;refine SA 0 E I λa w E I=>?_;refine bS 1 [19,20,29,30,34] [0,1,2,4,1003,5,1006,7,8,9,1010,11,12,13,14,16,17,18,3015,1019,1020,21,22,23,24,25,26,28,33,3027,3029,3030,31,3032,1034,35,36] E I λa w E I hH hC=>?_;have jy:Rd w B.cb 0 (cZ kk B A):=I.ai (b:=B.cb);have wA:Rd w b3 0 (e9 (ar kk i)):=I.ai (b:=b3);have mS:=I.bz (b:=B.xb) (aal e4);refine RH 4 E I hH hC λa E=>?_;refine SS E (ae E (jy 15 _ rfl)) λa E=>?_;refine RH 1 E I hH hC λa E=>?_;refine SS E (ae E (mS)) λa E=>?_;refine RH 2 E I hH hC λa E=>?_;refine E.by (s:=28) (λeh E=>?_) (λeh E=>?_)
  ·
   refine RH 1 E I hH hC λa E=>?_;refine bC E (cI E rfl (s:=28)) (ae E (wA 0 _ rfl)) rfl λa E=>?_;refine RH 3 E I hH hC λa E=>?_;refine E.by (s:=33) (λkv E=>?_) (λkv E=>?_)
   ·
    refine RH 4 E I hH hC λa E=>?_;refine QH E (λw hc=>ae E (hc.cell (wA 0 _ rfl))) hC λa E=>?_;refine RH 0 E I hH hC λa E=>?_;refine bC E (cI E rfl (s:=33)) (ae E (jy 16 _ rfl)) rfl λa E=>?_;refine RH 4 E I hH hC λa E=>?_;refine E.by (s:=43) (λkn E=>?_) (λkn E=>?_)
    ·
     have l4:(ar kk i).frame-1<kk.mr.length:=by omega
     obtain⟨E6,E7,ej,ly⟩:=(I.pick (Sl 100 1 A.ch kk.mr.length A.cM (c4 kk.mr))).bW A.ch (by omega);have yh:=jy 16 _ rfl;rw[ej]at yh;refine RH 5 E I hH hC λa E=>?_;refine QH E (λw hc=>ae E (hc.cell (yh))) hC λa E=>?_;refine QH E (λw hc=>ae E (hc.cell (wA 0 _ rfl))) hC λa E=>?_;refine RH 1 E I hH hC λa E=>?_;rw[show (((ar kk i).frame:Nat):Int)-1=(((ar kk i).frame-1:Nat):Int) from by omega]at E;refine RH 1 E I hH hC λa E=>?_;refine QH E (λw hc=>ae E (hc.cell (ly ((ar kk i).frame-1) _ (AJ l4)))) hC λa E=>?_;refine RH 0 E I hH hC λa E=>?_;refine bC E (cI E rfl (s:=43)) (ae E (wA 1 _ rfl)) rfl λa E=>?_;refine RH 2 E I hH hC λa E=>?_;refine IF 0 E I (λao a E=>?_) λao a E=>?_
     ·
      refine RN 1 E I λa E=>?_;rw[al ⟨eh,by omega,by omega,by omega⟩]at fb;refine ST 6 E I (λa w E I=>?_) (hlt:=(by rw[e8,bg];exact aG));rw[show (e8 kk.ps).set i (.bool true)=e8 (kk.ps.set i { ar kk i with apart:=true }) from yy _ rfl,← FV e4 { ar kk i with apart:=true } rfl,← FW e4 { ar kk i with apart:=true } rfl,← FY e4 { ar kk i with apart:=true } rfl rfl]at I;replace I:=a1.fold I B { kk with ps:=kk.ps.set i { ar kk i with apart:=true } } A;refine CL 4 E I (F0 (kd:=3) (pl:=i) (fr:=(ar kk i).frame) I (by have:=jL.kx;show kk.ev.length≤100;omega)) λa w E I=>?_;refine RN 3 E I λa E=>?_;exact⟨k.n-(i+1),by omega,i+1,⟨rfl,by omega⟩,E.ab [0,2],by rw[fb];exact I.sub⟩
     refine RN 3 E I λa E=>?_;rw[ag (λh=>by have:=h.2.2.2;omega)]at fb;exact⟨k.n-(i+1),by omega,i+1,⟨rfl,by omega⟩,E.ab [0,2],by rw[fb];exact (a1.fold I B kk A).sub⟩
    refine RH 13 E I hH hC λa E=>?_;refine RN 4 E I λa E=>?_;rw[ag (λh=>by have:=h.2.2.1;omega)]at fb;exact⟨k.n-(i+1),by omega,i+1,⟨rfl,by omega⟩,E.ab [0,2],by rw[fb];exact (a1.fold I B kk A).sub⟩
   refine RH 23 E I hH hC λa E=>?_;refine RN 4 E I λa E=>?_;rw[ag (λh=>by have:=h.2.1;omega)]at fb;exact⟨k.n-(i+1),by omega,i+1,⟨rfl,by omega⟩,E.ab [0,2],by rw[fb];exact (a1.fold I B kk A).sub⟩
  refine RH 28 E I hH hC λa E=>?_;refine RN 4 E I λa E=>?_;rw[ag (λh=>by have:=h.1;rw[eh]at this;cases this)]at fb;exact⟨k.n-(i+1),by omega,i+1,⟨rfl,by omega⟩,E.ab [0,2],by rw[fb];exact (a1.fold I B kk A).sub⟩
 refine RT 0 E I ?_;obtain rfl:i=k.n:=by omega
 refine⟨rfl,?_⟩;rw[kZ,eF,nm];exact (a1.fold I B kk A).sub
theorem aaq {s:Nat}(I:U W w (a1 B k::L))(hk:WC k)(hl:k.mr.length<1000)(xD:s<4294967296):Calls prog 105 #[pt B.cb,.int .u32 s] w λr V=>r=.returned (.tuple #[])∧U W V (a1 B (lq k s)::L):=by
 have yi : WC { k with mr := k.mr ++ [s] } := { hk with
     mr:=by show (k.mr++[s]).length≤1000;rw[aM,ji];omega
     rp:=λx hx=>by
      rcases eR.1 hx with hx | hx
      ·exact hk.rp x hx
      ·rw[mem_singleton]at hx;rw[hx];exact xD }
 obtain⟨A,I⟩:=a1.open I;refine EN func105 ntmps105 rfl rfl λa E=>?_;refine RN 8 E I λa E=>?_;rw[dq (by omega)]at E;refine RN 7 E I λa E=>?_;refine cp E rfl I underlying69 Ty.t100 rfl rfl rfl rfl (by decide) (by decide) λrf a w E I ho=>?_;clear ho;refine RN 0 E I λa E=>?_;refine cQ E rfl I underlying69 Ty.t100 rfl rfl I.ai rfl (by simp[Value.oneCell']) (by decide) (by decide) (by omega) λaar c17 a w E I=>?_;rw[show c4 k.mr++_=c4 (k.mr++[s]) from by rw[c4,c4,cX];rfl,show k.mr.length+1=(k.mr++[s]).length from by simp]at I;rw[show k.mr.length+1=(k.mr++[s]).length from by simp]at E;refine ST 2 E I (λa w E I=>?_);refine RN 0 E I λa E=>?_;replace I:=a1.fold I B { k with mr:=k.mr++[s] } { A with ch:=aar,cM:=c17 };refine CL 1 E I (MK I yi) λa w E I=>?_;refine RT 0 E I ?_;exact⟨rfl,by rw[lq,al hl];exact I.sub⟩
theorem aas (I:U W w (a1 B k::L))(hk:WC k):Calls prog 111 #[pt B.cb,.int .u8 (x.toNat:Nat)] w λr V=>r=.returned (.int .i64 (c3 x k).1)∧U W V (a1 B (c3 x k).2::L):=by
 have ej:k.me<k.ls.length:=by rw[hk.ls];exact hk.me
 have gL:=hk.lr;have fq:=hk.m7;obtain⟨A0,I⟩:=a1.open I;refine EN func111 ntmps111 rfl rfl λa E=>?_;refine IF 9 E I (λaj a E=>?_) λaj a E=>?_
 ·
  replace I:=a1.fold I B k A0;refine RT 2 E I ?_;exact⟨by rw[c3,al aj],by rw[c3,al aj];exact I⟩
 have b9:¬ k.cl=true:=by rw[aj];decide
 replace I:=a1.fold I B k A0;refine CL 2 E I (rF I hk) λa w E I=>?_;refine IF 2 E I (λao a E=>?_) λao a E=>?_
 ·
  refine RT 2 E I ?_;exact⟨by rw[c3,ag b9,al (by omega)],by rw[c3,ag b9,al (by omega)];exact I⟩
 refine aY 1 (λw0 V=>V.cell? ⟨B.cb,4,none⟩=some (.int .i64 k.bm)) [1,3,4] [0,2,5,6,7,8,3009,1001,1003,1004,10,11] E I λa w E I hH=>?_;have hC:w.cell? ⟨B.cb,4,none⟩=some (.int .i64 k.bm):=by
  obtain⟨A1,I⟩:=a1.open I;exact I.bz (b:=B.cb) rfl
 refine RH 6 E I hH hC λa E=>?_;refine QH E (λw hc=>ae E (hc)) hC λa E=>?_;refine RH 0 E I hH hC λa E=>?_;refine CL 0 E I (rF I hk) λa w E I=>?_;replace hC:=hH.at w (by obtain⟨A1,I⟩:=a1.open I;exact I.bz (b:=B.cb) rfl);refine RH 0 E I hH hC λa E=>?_;refine CL 0 E I (FZ I hk) λa w E I=>?_;replace hC:=hH.at w (by obtain⟨A1,I⟩:=a1.open I;exact I.bz (b:=B.cb) rfl);refine RH 3 E I hH hC λa E=>?_;refine IF 0 E I (λaz a E=>?_) λaz a E=>?_
 ·
  refine RT 2 E I ?_;exact⟨by rw[c3,ag b9,ag (by omega),al (by omega)],by rw[c3,ag b9,ag (by omega),al (by omega)];exact I⟩
 refine RN 1 E I λa E=>?_;obtain⟨A,I⟩:=a1.open I;have uv:c3 x k=(0,{ k with ls:=k.ls.set k.me (k.ls.getD k.me []++[x]) }):=by rw[c3,ag b9,ag (by omega),ag (by omega)]
 rw[uv];obtain⟨xs,bd,I⟩:=bN.open (I.pick (bN B.lb B.lo B.cL k.ls));have b0:xs.length=k.ls.length:=by rw[← bd,gf]
 obtain⟨y,hy⟩:∃ y,xs[k.me]?=some y:=⟨_,aF (by omega)⟩;obtain⟨s7,s5⟩:=a8.1 hy;have jB:k.ls.getD k.me []=y.2.2:=by rw[← bd,s4 hy]
 refine bS 0 [8] [0,1,2,4,5,6,7,3003,1008,9,10] E I λa w E I hH hC=>?_;refine RH 11 E I hH hC λa E=>?_;refine RN 5 E I λa E=>?_;refine SS E (ae E ((I.cK B.lb B.lo (by omega)) k.me (aL y) (by rw[bn,hy];rfl))) λa E=>?_;rw[aL]at E;replace I:=(I.pick (ah ba xs)).fv s7;rw[s5]at I;have gx:U W w (Sl 5 1 y.1 y.2.2.length y.2.1 (bc y.2.2)::_):=I;clear I;have I:=gx;clear gx;have ML:y.2.2.length≤1000:=by rw[← jB];exact gL
 refine RN 1 E I λa E=>?_;refine cp E rfl I underlying22 Ty.t5 rfl rfl rfl rfl (by decide) (by decide) λb43 a w E I ho=>?_;clear ho;refine RN 0 E I λa E=>?_;refine cQ E rfl I underlying22 Ty.t5 rfl rfl I.ai rfl (ey [x]) (by decide) (by decide) (by omega) λnf k7 a w E I=>?_;rw[show bc y.2.2++_=bc (y.2.2++[x]) from (fI _ [_]).symm,show y.2.2.length+1=(y.2.2++[x]).length from by simp]at I;rw[show y.2.2.length+1=(y.2.2++[x]).length from by simp]at E;refine RN 2 E I λa E=>?_;refine lY (off:=B.lo) (k:=k.me) E rfl I Ty.t22 rfl (by omega) (by rw[bg];exact s7) λa w E I=>?_;rw[show (xs.map aL).set k.me (.slice nf (y.2.2++[x]).length k7)=(xs.set k.me (nf,k7,y.2.2++[x])).map aL from yy _ rfl]at I;have h2:=I.arr (M:=[Sl 5 1 nf (y.2.2++[x]).length k7 (bc (y.2.2++[x])),ah ba (xs.eraseIdx k.me)]);simp only[cons_append,nil_append]at h2;have h3:=U.kG (f:=ba) (x:=(nf,k7,y.2.2++[x])) s7 h2;have e6:(k.ls.set k.me (k.ls.getD k.me []++[x])).length=k.ls.length:=bu;have a7:bj (xs.set k.me (nf,k7,y.2.2++[x]))=k.ls.set k.me (k.ls.getD k.me []++[x]):=by rw[bj,map_set,← bj,bd,jB]
 have h4:=h3.arr (M:=[Sl 65 1 (some ⟨B.lb,B.lo,none⟩) k.ls.length B.cL ((xs.set k.me (nf,k7,y.2.2++[x])).map aL),ah ba (xs.set k.me (nf,k7,y.2.2++[x]))]);simp only[cons_append,nil_append]at h4;rw[show k.ls.length=(k.ls.set k.me (k.ls.getD k.me []++[x])).length from e6.symm]at h4;have h5:=bN.close (xs:=xs.set k.me (nf,k7,y.2.2++[x])) h4 a7;clear I;have I:=h5;rw[show cZ k B A=cZ { k with ls:=k.ls.set k.me (k.ls.getD k.me []++[x]) } B A from by simp only[cZ,bu]]at I;refine RT 2 E I ?_;exact⟨rfl,(a1.fold I B { k with ls:=k.ls.set k.me (k.ls.getD k.me []++[x]) } A).sub⟩
end
section
variable {W w:World}{L R:List SP}{n c m lb lo i f cl:Nat}{ad:Option Addr}{ls:List (List UInt8)}{k:Ks}{A:mF}{B:nH}{x:UInt8}{bs:List UInt8}
theorem bN.out {ls:List (List UInt8)}(I:U W w (bN lb lo c ls::L))(hi:i<ls.length):∃ (xs:List ed) (y:ed),bj xs=ls∧xs[i]?=some y∧y.2.2=ls.getD i [] ∧
   U W w (Sl 5 1 y.1 y.2.2.length y.2.1 (bc y.2.2)::Sl 65 1 (some ⟨lb,lo,none⟩) ls.length c (xs.map aL)::ah ba (xs.eraseIdx i)::L):=by
 obtain⟨xs,bd,I⟩:=bN.open I;have b0:xs.length=ls.length:=by rw[← bd,gf]
 have hy:xs[i]?=some xs[i]:=aF (by omega);refine⟨xs,xs[i],bd,hy,by have:=s4 hy;rw[bd]at this;exact this.symm,?_⟩;have h1:=(I.pick (ah ba xs)).fv (i:=i) (by omega);exact U.sub (M:=ba xs[i]::Sl 65 1 (some ⟨lb,lo,none⟩) ls.length c (xs.map aL)::ah ba (xs.eraseIdx i)::L) h1
theorem bN.put {xs:List ed}{q:List UInt8}(I:U W w L)(bd:bj xs=ls)(hi:i<ls.length)[kk:fE L [Sl 5 1 ad q.length cl (bc q),Sl 65 1 (some ⟨lb,lo,none⟩) ls.length c ((xs.map aL).set i (.slice ad q.length cl)),ah ba (xs.eraseIdx i)] R]:U W w (bN lb lo c (ls.set i q)::R):=by
 have b0:xs.length=ls.length:=by rw[← bd,gf]
 have h1:U W w (ba (ad,cl,q)::Sl 65 1 (some ⟨lb,lo,none⟩) ls.length c ((xs.map aL).set i (.slice ad q.length cl))::ah ba (xs.eraseIdx i)::R):=I.perm kk.perm;rw[show (xs.map aL).set i (.slice ad q.length cl)=(xs.set i (ad,cl,q)).map aL from yy _ rfl]at h1;have h2:=U.kG (f:=ba) (x:=(ad,cl,q)) (l:=xs) (i:=i) (by omega) (h1.sub (M:=ba (ad,cl,q)::ah ba (xs.eraseIdx i)::Sl 65 1 (some ⟨lb,lo,none⟩) ls.length c ((xs.set i (ad,cl,q)).map aL)::R));refine bN.close (xs:=xs.set i (ad,cl,q)) ?_ (by rw[bj,map_set,← bj,bd]);rw[bu];exact h2.perm (List.Perm.swap _ _ _)
theorem bN.hd (I:U W w (bN lb lo c ls::L))(hi:i<ls.length):∃ ad c',w.cell? ⟨lb,lo+i,none⟩=some (.slice ad (ls.getD i []).length c'):=by
 obtain⟨xs,y,h1,h2,h3,h4⟩:=bN.out I hi;rw[← h3];exact⟨_,_,(h4.tail.cK lb lo (by omega)) i (aL y) (by rw[bn,h2];rfl)⟩
theorem aat {f:Nat}(I:U W w (bN lb lo c ls::L))(hi:i<ls.length)(hl:(ls.getD i []).length≤1000)(hb:bs.length≤65536)(hp:∀ V,U W V L→aQ V ad bs.length bs) :
   Calls prog 190 #[.pointer (some ⟨lb,lo+i,none⟩),.int .i64 f,.slice ad bs.length cl] w λr V=>∃ n er:Int,r=.returned (.tuple #[.int .i64 n,.int .i64 er])∧U W V (bN lb lo c (ls.set i (dw (ls.getD i []) f bs))::L):=by
 obtain⟨l0,wB⟩:∃ l0,l0=ls.getD i []:=⟨_,rfl⟩;rw[← wB];rw[← wB]at hl;have MM:ls.set i l0=ls:=by rw[wB];exact KM
 refine EN func190 ntmps190 rfl rfl λa E=>?_;refine RN 7 E I λa E=>?_;rw[bq (by omega)]at E;refine RN 3 E I λa E=>?_;obtain⟨fT,gd,MN⟩:=bN.hd I hi;rw[← wB]at MN;refine RN 4 E I λa E=>?_;refine SS E (ae E (MN)) λa E=>?_;refine IF 2 E I (λao a E=>?_) λao a E=>?_
 ·
  refine RT 3 E I ?_;exact⟨_,_,rfl,by rw[dw,al (by omega),MM];exact I⟩
 refine RN 5 E I λa E=>?_;have eS:f≤l0.length:=by omega
 refine aP (λμ a w=>∃ (j:Nat) (q:List UInt8),(μ=bs.length-j∧j≤bs.length∧q=l0++(bs.drop (l0.length-f)).take (j-(l0.length-f))∧q.length=l0.length+(j-(l0.length-f))∧q.length≤1000)∧Fr a 57 [(0,.pointer (some ⟨lb,lo+i,none⟩)),(1,.int .i64 f),(2,.slice ad bs.length cl),(8,.int .i64 (j-(l0.length-f):Nat)),(9,.int .i64 j)]∧U W w (bN lb lo c (ls.set i q)::L)) (bs.length) (⟨0,l0,⟨rfl,by omega,by rw[Nat.zero_sub,take_zero,append_nil],by omega,hl⟩,by rw[Nat.zero_sub];exact E.ab [0,1,2,8,9],by rw[MM];exact I⟩) ?_;clear E I;rintro μ a w ⟨j,q,⟨rfl,hj,hq,Tb,lK⟩,E,I⟩;refine IF 6 E I (λaz a E=>?_) λaz a E=>?_
 ·
  have dJ:i<(ls.set i q).length:=by rw[bu];exact hi
  have qf:(ls.set i q).getD i []=q:=by rw[bl,getElem?_set_self hi];rfl
  obtain⟨adq,cq,oC⟩:=bN.hd I dJ;rw[qf]at oC;have MO:j<bs.length:=by omega
  have sx:=(hp _ I.tail).get (by omega);refine RN 7 E I λa E=>?_;refine SS E (ae E (oC)) λa E=>?_;refine IF 4 E I (λbh a E=>?_) λbh a E=>?_
  ·
   refine RN 3 E I λa E=>?_;exact⟨bs.length-(j+1),by omega,j+1,q,⟨rfl,by omega,by rw[hq,show j-(l0.length-f)=0 from by omega,show j+1-(l0.length-f)=0 from by omega],by omega,lK⟩,by rw[show j+1-(l0.length-f)=j-(l0.length-f) from by omega];exact E.ab [0,1,2,8,9],I⟩
  refine RN 5 E I λa E=>?_;refine SS E (ae E (oC)) λa E=>?_;refine IF 2 E I (λbQ a E=>?_) λbQ a E=>?_
  ·
   refine RT 4 E I ?_;exact⟨_,_,rfl,by rw[dw,ag (by omega),show 1000-l0.length=j-(l0.length-f) from by omega,← hq];exact I⟩
  refine bS 1 [8,9] [0,1,2,3,5,6,7,3004,1008,1009,1010,11,12,1013] E I λa w E I hH hC=>?_;obtain⟨bb,oo,rfl,_⟩:=sx;obtain⟨xs,y,bd,hy,s8,I⟩:=bN.out I dJ;rw[qf]at s8;rw[s8]at I;have sR:=(I.tail.cK lb lo (by omega)) i (aL y) (by rw[bn,hy];rfl);rw[aL,s8]at sR;have Ah:=(hp _ I.tail.tail.tail).rd (by omega);have yA:i<xs.length:=(a8.1 hy).1;replace hH:=Hd.gv I;refine RH 7 E I hH hC λa E=>?_;refine QH E (λw hc=>ae E (hc.cell (sR))) hC λa E=>?_;refine RH 0 E I hH hC λa E=>?_;refine SS E (ae E (Ah j _ (dS MO))) λa E=>?_;refine RH 0 E I hH hC λa E=>?_;refine cp E rfl I underlying22 Ty.t5 rfl rfl rfl rfl (by decide) (by decide) λb50 a w E I ho=>?_;replace hC:=hC.trans ho;clear ho;refine RH 0 E I hH hC λa E=>?_;refine cQ E rfl I underlying22 Ty.t5 rfl rfl I.ai rfl (ey [bs[j]]) (by decide) (by decide) (by omega) λKj Kk a w E I=>?_;rw[show bc q++_=bc (q++[bs[j]]) from (fI _ [_]).symm,show q.length+1=(q++[bs[j]]).length from by simp]at I;rw[show q.length+1=(q++[bs[j]]).length from by simp]at E;refine RN 2 E I λa E=>?_;refine lY (off:=lo) (k:=i) E rfl I Ty.t22 rfl (by omega) (by rw[bg];exact yA) λa w E I=>?_;refine RN 6 E I λa E=>?_;have h9:=bN.put (q:=q++[bs[j]]) (ad:=Kj) (cl:=Kk) (lb:=lb) (lo:=lo) (c:=c) I bd dJ;rw[set_set]at h9;exact⟨bs.length-(j+1),by omega,j+1,q++[bs[j]],⟨rfl,by omega,by rw[Kz eS MO (by omega) (by omega),← hq],by rw[aM,ji];omega,by rw[aM,ji];omega⟩,by rw[show ((j+1-(l0.length-f):Nat):Int)=((j-(l0.length-f):Nat):Int)+1 from by omega];exact E.ab [0,1,2,8,9],h9.sub⟩
 refine RT 4 E I ?_;obtain rfl:j=bs.length:=by omega
 refine⟨_,_,rfl,?_⟩;rw[dw,ag (by omega),fY (by rw[c8];omega)];rw[hq,fY (by rw[c8];omega)]at I;exact I
abbrev yB (n me:Nat)(id:Int)(aE bm:Nat)(aX order cm workers room:Int)(b8 iy eM ib:Nat)(ad:Option Addr)(i c:Nat):List Value:=[.int .i64 n,.int .i64 me,.int .i64 id,.int .i64 aE,.int .i64 bm,.int .i64 aX,.int .i64 order,.int .i64 cm,.int .i64 workers,.int .i64 room,.slice ad i c,.int .i64 0,.slice (some ⟨b8,0,none⟩) n n,.slice (some ⟨iy,0,none⟩) n n,.slice (some ⟨eM,0,none⟩) n n,.slice (some ⟨ib,0,none⟩) n n,.slice none 0 0,.slice none 0 0,.bool false]
theorem aau (n d:Nat):e7 (List.replicate n (fy d))=ints .i64 n (λ_=>0):=by rw[e7,map_replicate];exact qm _ _ _
theorem aav (n d:Nat):eU (List.replicate n (fy d))=ints .i64 n (λ_=>d):=by rw[eU,map_replicate];exact qm _ _ _
theorem aaw (n d:Nat):e8 (List.replicate n (fy d))=List.replicate n (.bool false):=by rw[e8,map_replicate];rfl
theorem aax (n d:Nat):rows e9 (List.replicate n (fy d))=rows (λ_:Pe=>[Value.int .i64 0,.int .u32 0]) (List.replicate n (fy 0)):=by
 induction n with
 | zero=>rfl
 | succ n ih=>rw[List.replicate_succ,List.replicate_succ,nQ,nQ,ih];rfl
theorem aay (d:Nat):List.replicate d (Value.int .u8 0)=bc (List.replicate d 0):=by rw[bc,map_replicate];rfl
set_option maxHeartbeats 4000000 in
theorem aaz {n me aE bm:Nat}{id aX order cm workers room:Int}(I:U W w L)(h:eO ⟨n,me,id,aE,bm,aX,order,cm,workers,room⟩) :
   Calls prog 65 #[.agg (br ⟨n,me,id,aE,bm,aX,order,cm,workers,room⟩).toArray] w λr V=>∃ B:nH,r=.returned (pt B.cb)∧U W V (a1 B (fh ⟨n,me,id,aE,bm,aX,order,cm,workers,room⟩)::L):=by
 obtain⟨⟨h1,h2,h3⟩,⟨h4,h5,h6,h7⟩,h8,h9,fF,mQ⟩:=h;simp only[dE] at *;refine EN func65 ntmps65 rfl rfl λa E=>?_;refine BX 1 E I λb1 a w E I=>?_;change U W w (aa b1 28 [.int .i64 n,.int .i64 me,.int .i64 id,.int .i64 aE,.int .i64 bm,.int .i64 aX,.int .i64 order,.int .i64 cm,.int .i64 workers,.int .i64 room]::_) at I;refine RN 1 E I λa E=>?_;refine cc (M:=λa w=>∃ b8 iy eM ib mR:Nat,Fr a 48 [(1,pt b1),(3,pt mR)]∧U W w (aa mR 72 [.int .i64 n,.int .i64 me,.int .i64 id,.int .i64 aE,.int .i64 bm,.int .i64 aX,.int .i64 order,.int .i64 cm,.int .i64 workers,.int .i64 room,.slice none 0 0,.int .i64 0,.slice (some ⟨b8,0,none⟩) n n,.slice (some ⟨iy,0,none⟩) n n,.slice (some ⟨eM,0,none⟩) n n,.slice (some ⟨ib,0,none⟩) n n,.slice none 0 0,.slice none 0 0,.bool false]::aa b8 3 (List.replicate n (.int .i64 0))::aa iy 3 (List.replicate n (.int .i64 0))::aa eM 313 (rows (λ_:Pe=>[Value.int .i64 0,.int .u32 0]) (List.replicate n (fy 0)))::aa ib 4 (List.replicate n (.bool false))::aa b1 28 [.int .i64 n,.int .i64 me,.int .i64 id,.int .i64 aE,.int .i64 bm,.int .i64 aX,.int .i64 order,.int .i64 cm,.int .i64 workers,.int .i64 room]::L)) ?_ ?_
 ·
  refine bS 0 [2,3,5,6,8,9,11,12] [1,4,7,10,3000,3002,3005,3008,3011,2003,2006,2009,1012,13,1014,15] E I λa w E I hH hC=>?_;refine RH 9 E I hH hC λa E=>?_;refine DN [(3,[2006,2009,1012,13,1014,15]),(6,[2003,2009,1012,13,1014,15]),(9,[2003,2006,1012,13,1014,15]),(12,[2003,2006,1009,13,1014,15])] (by kernel_rfl) rfl ⟨⟨_,rfl,?_⟩,⟨_,rfl,?_⟩,⟨_,rfl,?_⟩,⟨_,rfl,?_⟩,trivial⟩
  all_goals repeat' first
   | (refine RH 0 E I hH hC λa E=>?_;(first | refine qE E rfl I underlying53 Ty.t3 rfl (by omega) (by omega) λb8 a w (E:Fr a 48 ((8,_)::_)) I ho=>?_ | refine qE E rfl I underlying53 Ty.t3 rfl (by omega) (by omega) λiy a w (E:Fr a 48 ((11,_)::_)) I ho=>?_ | refine qE E rfl I underlying67 Ty.t313 rfl (by omega) (by omega) λeM a w E I ho=>?_ | refine qE E rfl I underlying68 Ty.t4 rfl (by omega) (by omega) λib a w E I ho=>?_);replace hC:=hC.trans ho;clear ho;(first | rw[Be _ rfl]at I | rw[aaj]at I))
   | (refine RH 1 E I hH hC λa E=>?_;refine wW E rfl I rfl λmR a w E I ho=>?_;replace hC:=hC.trans ho;clear ho;refine RH 1 E I hH hC λa E=>?_;exact⟨b8,iy,eM,ib,mR,E.ab [1,3],I.sub⟩)
   | (refine RH 0 E I hH hC λa E=>?_;(first | (have q:=(iy,eM);clear q;refine DN [(3,[1012,13,1014,15]),(12,[1003,13,1014,15])] (by kernel_rfl) rfl ⟨⟨_,rfl,?_⟩,⟨_,rfl,?_⟩,trivial⟩) | (have q:=(iy,ib);clear q;refine DN [(3,[1009,13,1014,15]),(9,[1003,13,1014,15])] (by kernel_rfl) rfl ⟨⟨_,rfl,?_⟩,⟨_,rfl,?_⟩,trivial⟩) | (have q:=(eM,ib);clear q;refine DN [(3,[1006,13,1014,15]),(6,[1003,13,1014,15])] (by kernel_rfl) rfl ⟨⟨_,rfl,?_⟩,⟨_,rfl,?_⟩,trivial⟩) | (have q:=(b8,iy);clear q;refine DN [(9,[1012,13,1014,15]),(12,[1009,13,1014,15])] (by kernel_rfl) rfl ⟨⟨_,rfl,?_⟩,⟨_,rfl,?_⟩,trivial⟩) | (have q:=(b8,eM);clear q;refine DN [(6,[1012,13,1014,15]),(12,[1006,13,1014,15])] (by kernel_rfl) rfl ⟨⟨_,rfl,?_⟩,⟨_,rfl,?_⟩,trivial⟩) | (have q:=(b8,ib);clear q;refine DN [(6,[1009,13,1014,15]),(9,[1006,13,1014,15])] (by kernel_rfl) rfl ⟨⟨_,rfl,?_⟩,⟨_,rfl,?_⟩,trivial⟩) | (have q:=iy;clear q;refine DN [(3,[2009,1012,13,1014,15]),(9,[2003,1012,13,1014,15]),(12,[2003,1009,13,1014,15])] (by kernel_rfl) rfl ⟨⟨_,rfl,?_⟩,⟨_,rfl,?_⟩,⟨_,rfl,?_⟩,trivial⟩) | (have q:=eM;clear q;refine DN [(3,[2006,1012,13,1014,15]),(6,[2003,1012,13,1014,15]),(12,[2003,1006,13,1014,15])] (by kernel_rfl) rfl ⟨⟨_,rfl,?_⟩,⟨_,rfl,?_⟩,⟨_,rfl,?_⟩,trivial⟩) | (have q:=ib;clear q;refine DN [(3,[2006,1009,13,1014,15]),(6,[2003,1009,13,1014,15]),(9,[2003,1006,13,1014,15])] (by kernel_rfl) rfl ⟨⟨_,rfl,?_⟩,⟨_,rfl,?_⟩,⟨_,rfl,?_⟩,trivial⟩) | (have q:=b8;clear q;refine DN [(6,[2009,1012,13,1014,15]),(9,[2006,1012,13,1014,15]),(12,[2006,1009,13,1014,15])] (by kernel_rfl) rfl ⟨⟨_,rfl,?_⟩,⟨_,rfl,?_⟩,⟨_,rfl,?_⟩,trivial⟩)))
 clear E;(try clear I);rintro a w ⟨b8,iy,eM,ib,mR,E,I⟩;refine RN 3 E I λa E=>?_;replace I:=I.bO 65 1 none;replace I:=U.iM (f:=ba) I;rw[qm]at I;refine aP (λμ a w=>∃ (i:Nat) (xs:List ed) (adL:Option Addr) (cL:Nat),(μ=n-i∧i≤n∧bj xs=List.replicate i (List.replicate aE 0))∧Fr a 48 [(1,pt b1),(3,pt mR),(4,.int .i64 i)]∧U W w (aa mR 72 (yB n me id aE bm aX order cm workers room b8 iy eM ib adL i cL)::Sl 65 1 adL i cL (xs.map aL)::ah ba xs::aa b8 3 (ints .i64 n (λ_=>0))::aa iy 3 (ints .i64 n (λj=>if j<i then aE else 0))::aa eM 313 (rows (λ_:Pe=>[Value.int .i64 0,.int .u32 0]) (List.replicate n (fy 0)))::aa ib 4 (List.replicate n (.bool false))::aa b1 28 [.int .i64 n,.int .i64 me,.int .i64 id,.int .i64 aE,.int .i64 bm,.int .i64 aX,.int .i64 order,.int .i64 cm,.int .i64 workers,.int .i64 room]::L)) (n) (⟨0,[],none,0,⟨rfl,by omega,rfl⟩,E.ab [1,3,4],(I.sub:U W w (aa mR 72 (yB n me id aE bm aX order cm workers room b8 iy eM ib none 0 0)::Sl 65 1 none 0 0 []::ah ba []::aa b8 3 (ints .i64 n (λ_=>0))::aa iy 3 (ints .i64 n (λ_=>0))::aa eM 313 (rows (λ_:Pe=>[Value.int .i64 0,.int .u32 0]) (List.replicate n (fy 0)))::aa ib 4 (List.replicate n (.bool false))::aa b1 28 [.int .i64 n,.int .i64 me,.int .i64 id,.int .i64 aE,.int .i64 bm,.int .i64 aX,.int .i64 order,.int .i64 cm,.int .i64 workers,.int .i64 room]::L))⟩) ?_;clear E I;rintro μ a w ⟨i,xs,adL,cL,⟨rfl,hi,bd⟩,E,I⟩;refine IF 6 E I (λaj a E=>?_) λaj a E=>?_
 ·
  refine bS 2 [6,7,8,9] [0,1,2,3,5,3004,1006,1007,1008,1009,1010,11,12,1013] E I λa w E I hH hC=>?_;refine RH 7 E I hH hC λa E=>?_;refine qE E rfl I underlying22 Ty.t5 rfl (by omega) (by omega) λjW a w E I ho=>?_;replace hC:=hC.trans ho;clear ho;rw[Be _ rfl,aay]at I;replace I:=I.KF (m:=aE) (sz:=1) (by rw[dB,ke,Nat.mul_one]);refine RH 1 E I hH hC λa E=>?_;refine cp E rfl I underlying66 Ty.t65 rfl rfl rfl rfl (by decide) (by decide) λb35 a w E I ho=>?_;replace hC:=hC.trans ho;clear ho;refine RH 0 E I hH hC λa E=>?_;refine cQ E rfl I underlying66 Ty.t65 rfl rfl I.ai rfl (by simp[Value.oneCell']) (by decide) (by decide) (by omega) λF3 F4 a w E I=>?_;rw[show List.map aL xs++_=List.map aL (xs++[(some (⟨jW,0,none⟩:Addr),aE,List.replicate aE 0)]) from by rw[cX,map_singleton,aL,ke];rfl]at I;refine ST 2 E I (λa w E I=>?_);refine RN 0 E I λa E=>?_;refine bS 0 [6] [0,1,2,4,5,3003,1006,7,1008] E I λa w E I hH hC=>?_;refine RH 8 E I hH hC λa E=>?_;refine ST 0 E I (λa w E I=>?_) (hlt:=(by rw[dm];omega));rw[ints_set,w5 (g:=λj=>if j=i then (aE:Int) else if j<i then (aE:Int) else 0) (g':=λj=>if j<i+1 then (aE:Int) else 0) (λj _=>by
   by_cases h1:j=i
   ·subst h1;simp
   ·by_cases h2:j<i
    ·simp[h1,h2,show j<i+1 from by omega]
    ·simp[h1,h2,show ¬ j<i+1 from by omega])]at I
  refine RN 3 E I λa E=>?_;have c6:=U.jG (f:=ba) (x:=(some (⟨jW,0,none⟩:Addr),aE,List.replicate aE 0)) (by
   show U _ _ (Sl 5 1 (some (⟨jW,0,none⟩:Addr)) (List.replicate aE (0:UInt8)).length aE (bc (List.replicate aE 0))::_);rw[ke];exact I.sub (M:=Sl 5 1 (some ⟨jW,0,none⟩) aE aE (bc (List.replicate aE 0))::ah ba xs::aa mR 72 (yB n me id aE bm aX order cm workers room b8 iy eM ib F3 (i+1) F4)::Sl 65 1 F3 (i+1) F4 ((xs++[(some (⟨jW,0,none⟩:Addr),aE,List.replicate aE 0)]).map aL)::aa b8 3 (ints .i64 n (λ_=>0))::aa iy 3 (ints .i64 n (λj=>if j<i+1 then (aE:Int) else 0))::aa eM 313 (rows (λ_:Pe=>[Value.int .i64 0,.int .u32 0]) (List.replicate n (fy 0)))::aa ib 4 (List.replicate n (.bool false))::aa b1 28 [.int .i64 n,.int .i64 me,.int .i64 id,.int .i64 aE,.int .i64 bm,.int .i64 aX,.int .i64 order,.int .i64 cm,.int .i64 workers,.int .i64 room]::L))
  exact⟨n-(i+1),by omega,i+1,xs++[(some (⟨jW,0,none⟩:Addr),aE,List.replicate aE 0)],F3,F4,⟨rfl,by omega,by rw[bj,cX,← bj,bd,replicate_succ'];rfl⟩,E.ab [1,3,4],c6.sub⟩
 refine RT 3 E I ?_;obtain rfl:i=n:=by omega
 obtain⟨lb,lo,rfl,_⟩:=(I.pick (Sl 65 1 adL i cL (xs.map aL))).bW adL (by omega);rw[w5 (g:=λj=>if j<i then (aE:Int) else 0) (g':=λ_=>(aE:Int)) (λj hj=>by simp[hj])]at I;refine⟨⟨mR,lb,lo,cL,b8,iy,eM,ib⟩,rfl,?_⟩;have gW:(fh ⟨i,me,id,aE,bm,aX,order,cm,workers,room⟩).ls.length=i:=by simp[fh]
 have h9:=I.sub (M:=Sl 65 1 (some ⟨lb,lo,none⟩) i cL (xs.map aL)::ah ba xs::aa mR 72 (yB i me id aE bm aX order cm workers room b8 iy eM ib (some ⟨lb,lo,none⟩) i cL)::aa b8 3 (ints .i64 i (λ_=>0))::aa iy 3 (ints .i64 i (λ_=>(aE:Int)))::aa eM 313 (rows (λ_:Pe=>[Value.int .i64 0,.int .u32 0]) (List.replicate i (fy 0)))::aa ib 4 (List.replicate i (.bool false))::L);have h8:=bN.close (ls:=List.replicate i (List.replicate aE 0)) (by rw[ke];exact h9) bd;replace h8:=U.bO (U.bO h8 100 1 none) 102 3 none;refine U.shut (M:=[_,_,_,_,_,_,_,_]) (A:=a1 _ _) ?_ (λ_ h=>⟨⟨none,0,none,0⟩,h⟩);have gz:(fh ⟨i,me,id,aE,bm,aX,order,cm,workers,room⟩).ps=List.replicate i (fy aE):=by simp[fh]
 rw[cZ,gW,gz,aau,aav,aaw,aax];exact h8.sub (M:=aa mR 72 (yB i me id aE bm aX order cm workers room b8 iy eM ib (some ⟨lb,lo,none⟩) i cL)::bN lb lo cL (List.replicate i (List.replicate aE 0))::aa b8 3 (ints .i64 i (λ_=>0))::aa iy 3 (ints .i64 i (λ_=>(aE:Int)))::aa eM 313 (rows (λ_:Pe=>[Value.int .i64 0,.int .u32 0]) (List.replicate i (fy 0)))::aa ib 4 (List.replicate i (.bool false))::Sl 100 1 none 0 0 []::Sl 102 3 none 0 0 []::L)
end
section
variable {W w:World}{L L':List SP}{n c m lb lo i f cl:Nat}{ad:Option Addr}{ls:List (List UInt8)}{k:Ks}{A:mF}{B:nH}{x:UInt8}
theorem MP {fr m aV cq:Nat}{adq:Option Addr}{q:List UInt8}(I:U W w L)(oC:w.cell? ⟨lb,aV,none⟩=some (.slice adq q.length cq))(hqc:q.length≤cq)(pE:∀ V,U W V L→aQ V adq q.length q)(hl:q.length≤1000)(hf:fr≤1000)(hk:1≤m∧m≤1000) :
   Calls prog 113 #[.pointer (some ⟨lb,aV,none⟩),.int .i64 fr,.int .i64 m] w λr V=>∃ av c',r=.returned (.slice av ((q.drop fr).take m).length c')∧U W V (Sl 5 1 av ((q.drop fr).take m).length c' (bc ((q.drop fr).take m))::L):=by
 refine EN func113 ntmps113 rfl rfl λa E=>?_;refine RN 7 E I λa E=>?_;rw[bq (by omega)]at E;refine RN 4 E I λa E=>?_;refine bC E (cI E rfl (s:=10)) (ae E (oC)) rfl λa E=>?_;refine BY 4 E I (λkP a E=>?_) λkP a E=>?_
 ·
  refine RT 6 E I ?_;have hz:(q.drop fr).take m=[]:=by rw[drop_eq_nil_of_le (by omega),List.take_nil]
  rw[hz];exact⟨none,0,rfl,I.bO _ _ none⟩
 refine RN 3 E I λa E=>?_;rw[bq (by omega)]at E;refine RN 5 E I λa E=>?_;refine SS E (ae E (oC)) λa E=>?_;refine RN 9 E I λa E=>?_;rw[show min (m:Int) ((((q.length-fr:Nat):Int)))=((min m (q.length-fr):Nat):Int) from by omega]at E;refine RN 1 E I λa E=>?_;rw[qK,Nat.sub_zero,Nat.sub_zero]at E;have yC:=((pE _ I).yb (c:=cq) (lo:=fr) (n:=min m (q.length-fr)) (by omega) hqc);have hte:(q.drop fr).take (min m (q.length-fr))=(q.drop fr).take m:=by rw[List.take_eq_take_iff,c8];omega
 rw[hte]at yC;have de:min m (q.length-fr)=((q.drop fr).take m).length:=by rw[ez,c8]
 rw[de]at E yC;replace I:=I.bO 5 1 none;refine gU E rfl I underlying22 Ty.t5 rfl rfl (by decide) (λh0=>yC.get h0) (by rw[dB];omega) (ey _) (by rw[ez,c8];omega) λEn Eo a w E I=>?_;rw[nil_append,Nat.zero_add]at I;rw[Nat.zero_add]at E;refine RT 1 E I ?_;exact⟨_,_,rfl,I⟩
theorem a1.Bh (I:U W w (a1 B k::L)):∃ (A:mF) (D:SP),U W w (aa B.cb 72 (cZ k B A)::D::L)∧∀ (V:World) (L':List SP) (nw:Nat) (cl:Bool),U W V (aa B.cb 72 (cZ { k with now:=nw,cl:=cl } B A)::D::L')→U W V (a1 B { k with now:=nw,cl:=cl }::L'):=by
 obtain⟨A,I⟩:=a1.open I;have h1:U W w ([bN B.lb B.lo B.cL k.ls,aa B.hb 3 (e7 k.ps),aa B.dZ 3 (eU k.ps),aa B.wb 313 (rows e9 k.ps),aa B.xb 4 (e8 k.ps),Sl 100 1 A.ch k.mr.length A.cM (c4 k.mr),Sl 102 3 A.adE k.ev.length A.cE (rows bU k.ev)]++(aa B.cb 72 (cZ k B A)::L)):=I.sub (M:=bN B.lb B.lo B.cL k.ls::aa B.hb 3 (e7 k.ps)::aa B.dZ 3 (eU k.ps)::aa B.wb 313 (rows e9 k.ps)::aa B.xb 4 (e8 k.ps)::Sl 100 1 A.ch k.mr.length A.cM (c4 k.mr)::Sl 102 3 A.adE k.ev.length A.cE (rows bU k.ev)::aa B.cb 72 (cZ k B A)::L);refine⟨A,λh=>cn [bN B.lb B.lo B.cL k.ls,aa B.hb 3 (e7 k.ps),aa B.dZ 3 (eU k.ps),aa B.wb 313 (rows e9 k.ps),aa B.xb 4 (e8 k.ps),Sl 100 1 A.ch k.mr.length A.cM (c4 k.mr),Sl 102 3 A.adE k.ev.length A.cE (rows bU k.ev)] h,?_,λV L' nw cl I=>?_⟩
 ·exact (U.shut (A:=λh=>cn [bN B.lb B.lo B.cL k.ls,aa B.hb 3 (e7 k.ps),aa B.dZ 3 (eU k.ps),aa B.wb 313 (rows e9 k.ps),aa B.xb 4 (e8 k.ps),Sl 100 1 A.ch k.mr.length A.cM (c4 k.mr),Sl 102 3 A.adE k.ev.length A.cE (rows bU k.ev)] h) h1 λ_ h=>h).perm (List.Perm.swap _ _ _)
 ·have h2:U W V (bN B.lb B.lo B.cL k.ls::aa B.hb 3 (e7 k.ps)::aa B.dZ 3 (eU k.ps)::aa B.wb 313 (rows e9 k.ps)::aa B.xb 4 (e8 k.ps)::Sl 100 1 A.ch k.mr.length A.cM (c4 k.mr)::Sl 102 3 A.adE k.ev.length A.cE (rows bU k.ev)::aa B.cb 72 (cZ { k with now:=nw,cl:=cl } B A)::L'):=(I.perm (List.Perm.swap _ _ _)).open (M:=[_,_,_,_,_,_,_]) λ_ h=>h;exact a1.fold h2 B { k with now:=nw,cl:=cl } A
def wC (k:Ks)(i:Nat):List Ml:=(k5 k i).map λj=>(k.me,j,aS (gp k j))
def wD (k:Ks)(i:Nat):List Ml:=(k5 k i).map λj=>(k.me,j,aS (dT k j))
theorem aaA (I:U W w (a1 B k::L))(hk:WC k):Calls prog 74 #[pt B.cb] w λr V=>∃ ad c,r=.returned (.slice ad (bG k).1.length c)∧U W V (ct 60 ad (bG k).1.length c (bG k).1::a1 B (bG k).2::L):=by
 have hn:=hk.n;obtain⟨A,D,I,hD⟩:=a1.Bh I;refine EN func74 ntmps74 rfl rfl λa E=>?_;refine IF 8 E I (λaj a E=>?_) λaj a E=>?_
 ·
  refine RT 2 E I ?_;refine⟨none,0,by rw[bG,al aj];rfl,?_⟩;rw[bG,al aj];exact ct.nil (hD _ _ k.now k.cl I)
 refine RN 5 E I λa E=>?_;have hq:bG k=((bI k).map λi=>(k.me,i,aS (gp k i)),{ k with cl:=true }):=by rw[bG,ag (by rw[aj];decide)]
 replace I:=U.bO (U.iM (f:=b7) I) 60 3 none;refine aP (λμ a w=>∃ (i:Nat) (xs:List Mx) (ad:Option Addr) (c:Nat),(μ=k.n-i∧i≤k.n∧xs.map (·.2.2)=wC k i∧xs.length≤i)∧Fr a 52 [(0,pt B.cb),(3,.slice ad xs.length c),(4,.int .i64 i)]∧U W w (Sl 60 3 ad xs.length c (rows b6 xs)::ah b7 xs::aa B.cb 72 (cZ k B A)::D::L)) (k.n) (⟨0,[],none,0,⟨rfl,by omega,rfl,bk _⟩,E.ab [0,3,4],I⟩) ?_;clear E I;rintro μ a w ⟨i,xs,ad,c,⟨rfl,hi,eG,b0⟩,E,I⟩;refine IF 9 E I (λao a E=>?_) λao a E=>?_
 ·
  have lz:wC k (i+1)=if i=k.me then wC k i else wC k i++[(k.me,i,aS (gp k i))]:=by
   rw[wC,E9];split
   ·rfl
   ·rw[cX];rfl
  refine IF 9 E I (λaz a E=>?_) λaz a E=>?_
  ·
   rw[ag (by omega)]at lz;refine aY 0 (λw0 V=>Rd V B.cb 0 (cZ k B A)) [11,17,18,19] [0,1,2,3,4,6,7,8,9,10,12,13,14,15,16,3005,3011,1017,1018,1019,20,1021,1022,23] E I λa w E I hH=>?_;have hC:=hH.at w (I.ai (b:=B.cb));refine RH 15 E I hH hC λa E=>?_;refine QH E (λw hc=>ae E (hc 1 _ rfl)) hC λa E=>?_;refine QH E (λw hc=>ae E (hc 1 _ rfl)) hC λa E=>?_;refine RH 0 E I hH hC λa E=>?_;refine SS E (ae E (hC 2 _ rfl)) λa E=>?_;refine RH 1 E I hH hC λa E=>?_;refine a6 0 E I (EF (p:=gp k i) (ad:=none) (c:=0) I (by show 0<4294967296;decide) (λV hw=>aQ.nil)) λad2 c2 a w E I=>?_;replace hC:=hH.at w (I.ai (b:=B.cb));refine RH 1 E I hH hC λa E=>?_;refine cp E rfl I underlying37 Ty.t60 rfl rfl rfl rfl (by decide) (by decide) λb46 a w E I ho=>?_;clear ho;refine RN 0 E I λa E=>?_;refine cQ E rfl I underlying37 Ty.t60 rfl rfl I.ai rfl (by simp[Value.oneCell']) (by decide) (by decide) (by omega) λpq rh a w E I=>?_;rw[show rows b6 xs++_=rows b6 (xs++[(ad2,c2,(k.me,i,aS (gp k i)))]) from by rw[ka];rfl,show xs.length+1=(xs++[(ad2,c2,(k.me,i,aS (gp k i)))]).length from by simp]at I;rw[show xs.length+1=(xs++[(ad2,c2,(k.me,i,aS (gp k i)))]).length from by simp]at E;refine RN 1 E I λa E=>?_;refine RN 3 E I λa E=>?_;have c6:=U.jG (f:=b7) (x:=(ad2,c2,(k.me,i,aS (gp k i)))) (I.sub (M:=Sl 5 1 ad2 (aS (gp k i)).length c2 (bc (aS (gp k i)))::ah b7 xs::Sl 60 3 pq (xs++[(ad2,c2,(k.me,i,aS (gp k i)))]).length rh (rows b6 (xs++[(ad2,c2,(k.me,i,aS (gp k i)))]))::aa B.cb 72 (cZ k B A)::D::L));exact⟨k.n-(i+1),by omega,i+1,xs++[(ad2,c2,(k.me,i,aS (gp k i)))],pq,rh,⟨rfl,by omega,by rw[cX,eG,lz];rfl,by rw[aM];simp;omega⟩,E.ab [0,3,4],c6.sub⟩
  rw[al (by omega)]at lz;refine RN 3 E I λa E=>?_;exact⟨k.n-(i+1),by omega,i+1,xs,ad,c,⟨rfl,by omega,by rw[lz,eG],by omega⟩,E.ab [0,3,4],I⟩
 obtain rfl:i=k.n:=by omega
 refine ST 4 E I (λa w E I=>?_);refine RT 3 E I ?_;have gW:xs.length=((bI k).map λi=>(k.me,i,aS (gp k i))).length:=by
  have h1:(xs.map (·.2.2)).length=(wC k k.n).length:=by rw[eG]
  rw[bg]at h1;exact h1
 rw[hq];refine⟨ad,c,by rw[gW],?_⟩;rw[gW]at I;have h5:=hD _ _ k.now true (I.sub (M:=aa B.cb 72 (cZ { k with now:=k.now,cl:=true } B A)::D::Sl 60 3 ad ((bI k).map λi=>(k.me,i,aS (gp k i))).length c (rows b6 xs)::ah b7 xs::L));exact ct.close (xs:=xs) h5.sub eG rfl
theorem aaB {k:Ks}{i:Nat}(h1:∀ j,j<i→j≠k.me→¬ jj k j)(hi:i<k.n)(hm:i≠k.me)(hl:jj k i):(bI k).find? (λi=>decide (jj k i))=some i:=by
 rw[bI,List.find?_filter,List.find?_range_eq_some];refine⟨by simp[hm,hl],by simpa using hi,λj hj=>?_⟩;by_cases uz:j=k.me
 ·simp[uz]
 ·simp[h1 j hj uz]
theorem aaC {k:Ks}(h1:∀ j,j<k.n→j≠k.me→¬ jj k j):(bI k).find? (λi=>decide (jj k i))=none :=
 Lg λj hj=>bq (h1 j (um.1 hj).1 (um.1 hj).2)
set_option maxHeartbeats 2000000 in
theorem aaD (I:U W w (a1 B k::L))(hk:WC k)(oP:k.now≤1000000):Calls prog 73 #[pt B.cb] w λr V=>∃ ad c,r=.returned (.slice ad (bo k).1.length c)∧U W V (ct 60 ad (bo k).1.length c (bo k).1::a1 B (bo k).2::L):=by
 have hn:=hk.n;obtain⟨A0,D,I,hD⟩:=a1.Bh I;refine EN func73 ntmps73 rfl rfl λa E=>?_;refine IF 8 E I (λaj a E=>?_) λaj a E=>?_
 ·
  refine RT 2 E I ?_;refine⟨none,0,by rw[bo,al aj];rfl,?_⟩;rw[bo,al aj];exact ct.nil (hD _ _ k.now k.cl I)
 have ia:bo k=(match (bI { k with now:=k.now+1 }).find? (λi=>decide (jj { k with now:=k.now+1 } i)) with
  | some i=>([],{ ({ k with now:=k.now+1 }:Ks) with ev:=({ k with now:=k.now+1 }:Ks).ev++[(2,i,0)],cl:=true })
  | none=>((bI { k with now:=k.now+1 }).map λi=>(({ k with now:=k.now+1 }:Ks).me,i,aS (dT { k with now:=k.now+1 } i)),{ k with now:=k.now+1 })):=by rw[bo,ag (by rw[aj];decide)];rfl
 refine RN 6 E I λa E=>?_;rw[show ((k.now:Nat):Int)+1=((k.now+1:Nat):Int) from by omega]at E;refine ST 2 E I (λa w E I=>?_);refine RN 0 E I λa E=>?_;replace I:=hD _ _ (k.now+1) k.cl I;clear hD;have eX:WC { k with now:=k.now+1 }:=hk.AE;have pA:=hk.kx;have Fc:({ k with now:=k.now+1 }:Ks).now≤1000001:=by show k.now+1≤_;omega
 have Fe:({ k with now:=k.now+1 }:Ks).ev.length≤9:=pA;have Ff:2≤({ k with now:=k.now+1 }:Ks).n∧({ k with now:=k.now+1 }:Ks).n≤8:=hn;have aaE:({ k with now:=k.now+1 }:Ks).cl=false:=aj;replace I:U W w (a1 B { k with now:=k.now+1 }::L):=I;generalize ({ k with now:=k.now+1 }:Ks)=k1 at I eX ia Fc Fe Ff aaE;obtain⟨A,I⟩:=a1.open I;refine RN 3 E I λa E=>?_;refine aP (λμ a w=>∃ (i:Nat),(μ=k1.n-i∧i≤k1.n∧∀ j,j<i→j≠k1.me→¬ jj k1 j)∧Fr a 154 [(0,pt B.cb),(3,.int .i64 i)]∧U W w (aa B.cb 72 (cZ k1 B A)::bN B.lb B.lo B.cL k1.ls::aa B.hb 3 (e7 k1.ps)::aa B.dZ 3 (eU k1.ps)::aa B.wb 313 (rows e9 k1.ps)::aa B.xb 4 (e8 k1.ps)::Sl 100 1 A.ch k1.mr.length A.cM (c4 k1.mr)::Sl 102 3 A.adE k1.ev.length A.cE (rows bU k1.ev)::L)) (k1.n) (⟨0,⟨rfl,by omega,λj hj=>by omega⟩,E.ab [0,3],I⟩) ?_;clear E I;rintro μ a w ⟨i,⟨rfl,hi,bX⟩,E,I⟩;refine IF 9 E I (λao a E=>?_) λao a E=>?_
 ·
  have cF:i<k1.n:=by omega
  have aG:i<k1.ps.length:=by rw[eX.ps];exact cF
  have ik:=eX.pw cF;have e4:=uu aG;refine bS 2 [15,17,18] [0,1,2,3,4,1005,6,7,8,9,10,12,13,14,16,3011,1015,1017,1018,19,20,21] E I λa w E I hH hC=>?_;have jy:Rd w B.cb 0 (cZ k1 B A):=I.ai (b:=B.cb);have hrh:=I.bz (b:=B.hb) (aak e4);refine RH 5 E I hH hC λa E=>?_;refine SS E (ae E (jy 1 _ rfl)) λa E=>?_;refine RH 2 E I hH hC λa E=>?_;refine E.by (s:=34) (λiB E=>?_) (λiB E=>?_)
  ·
   refine RH 7 E I hH hC λa E=>?_;refine QH E (λw hc=>ae E (hc.cell (jy 11 _ rfl))) hC λa E=>?_;refine RH 0 E I hH hC λa E=>?_;refine bC E (cI E rfl (s:=34)) (ae E (jy 12 _ rfl)) rfl λa E=>?_;refine RH 1 E I hH hC λa E=>?_;refine bC E (cI E rfl (s:=34)) (ae E (hrh)) rfl λa E=>?_;refine RH 3 E I hH hC λa E=>?_;refine IF 0 E I (λaz a E=>?_) λaz a E=>?_
   ·
    have hlt:jj k1 i:=by rw[jj];omega
    rw[aaB bX cF (by omega) hlt]at ia;replace I:=a1.fold I B k1 A;refine CL 3 E I (F0 (kd:=2) (pl:=i) (fr:=0) I (by omega)) λa w E I=>?_;refine RN 1 E I λa E=>?_;obtain⟨A2,Qe,I,hD2⟩:=a1.Bh I;refine ST 3 E I (λa w E I=>?_);refine RN 0 E I λa E=>?_;replace I:=hD2 _ _ k1.now true I;refine RT 2 E I ?_;rw[ia];exact⟨none,0,rfl,ct.nil I⟩
   refine RN 3 E I λa E=>?_;exact⟨k1.n-(i+1),by omega,i+1,⟨rfl,by omega,λj hj uz=>by
    by_cases h:j=i
    ·subst h;rw[jj];omega
    ·exact bX j (by omega) uz⟩,E.ab [0,3],I⟩
  refine RH 14 E I hH hC λa E=>?_;refine RN 4 E I λa E=>?_;exact⟨k1.n-(i+1),by omega,i+1,⟨rfl,by omega,λj hj uz=>by
   by_cases h:j=i
   ·omega
   ·exact bX j (by omega) uz⟩,E.ab [0,3],I⟩
 obtain rfl:i=k1.n:=by omega
 rw[aaC bX]at ia;clear bX;have Lb:=eX.mr;have ej:k1.me<k1.ls.length:=by rw[eX.ls];exact eX.me
 obtain⟨xs,bd,I⟩:=bN.open (I.pick (bN B.lb B.lo B.cL k1.ls));have b0:xs.length=k1.ls.length:=by rw[← bd,gf]
 obtain⟨y,hy⟩:∃ y,xs[k1.me]?=some y:=⟨_,aF (by omega)⟩;have s8:k1.ls.getD k1.me []=y.2.2:=by rw[← bd,s4 hy]
 have jB:y.2.2.length≤1000:=by rw[← s8];exact eX.lr
 have oA:y.2.2.length≤y.2.1:=by
  obtain⟨s7,s5⟩:=a8.1 hy;have h1:=((I.pick (ah ba xs)).fv s7);rw[s5]at h1;have h2:U W w (Sl 5 1 y.1 y.2.2.length y.2.1 (bc y.2.2)::_):=h1;exact (h2.sl y.1).2
 refine RN 5 E I λa E=>?_;replace I:=U.bO (U.iM (f:=b7) I) 60 3 none;refine aP (λμ a w=>∃ (i:Nat) (zs:List Mx) (ad:Option Addr) (c:Nat),(μ=k1.n-i∧i≤k1.n∧zs.map (·.2.2)=wD k1 i∧zs.length≤i)∧Fr a 154 [(0,pt B.cb),(4,.slice ad zs.length c),(5,.int .i64 i)]∧U W w (Sl 60 3 ad zs.length c (rows b6 zs)::ah b7 zs::aa B.cb 72 (cZ k1 B A)::Sl 65 1 (some ⟨B.lb,B.lo,none⟩) k1.ls.length B.cL (xs.map aL)::ah ba xs::aa B.hb 3 (e7 k1.ps)::aa B.dZ 3 (eU k1.ps)::aa B.wb 313 (rows e9 k1.ps)::aa B.xb 4 (e8 k1.ps)::Sl 100 1 A.ch k1.mr.length A.cM (c4 k1.mr)::Sl 102 3 A.adE k1.ev.length A.cE (rows bU k1.ev)::L)) (k1.n) (⟨0,[],none,0,⟨(Nat.sub_zero _).symm,Nat.zero_le _,rfl,bk _⟩,E.ab [0,4,5],(show U W w (Sl 60 3 none ([]:List Mx).length 0 (rows b6 [])::ah b7 []::_) from I).sub⟩) ?_;clear E I;rintro μ a w ⟨i,zs,ad,c,⟨rfl,hi,qt,iW⟩,E,I⟩;refine IF 9 E I (λbh a E=>?_) λbh a E=>?_
 ·
  have lz:wD k1 (i+1)=if i=k1.me then wD k1 i else wD k1 i++[(k1.me,i,aS (dT k1 i))]:=by
   rw[wD,E9];split
   ·rfl
   ·rw[cX];rfl
  have cF:i<k1.n:=by omega
  have aG:i<k1.ps.length:=by rw[eX.ps];exact cF
  have ik:=eX.pw cF;have e4:=uu aG;obtain⟨z,hz⟩:∃ z,xs[i]?=some z:=⟨_,aF (by rw[b0,eX.ls];exact cF)⟩;have hzq:k1.ls.getD i []=z.2.2:=by rw[← bd,s4 hz]
  refine IF 10 E I (λbQ a E=>?_) λbQ a E=>?_
  ·
   rw[al (by omega)]at lz;refine RN 3 E I λa E=>?_;exact⟨k1.n-(i+1),by omega,i+1,zs,ad,c,⟨rfl,by omega,by rw[lz,qt],by omega⟩,E.ab [0,4,5],I⟩
  rw[ag (by omega)]at lz;refine RN 0 E I λa E=>?_;refine cc (M:=λa w=>∃ (cG:Nat) (c1:Option Addr) (dR:Nat),Fr a 154 [(0,pt B.cb),(4,.slice ad zs.length c),(5,.int .i64 i),(6,pt cG)]∧U W w (aa cG 203 [.int .i64 1,.int .i64 k1.me,.int .i64 i,.int .i64 k1.id,.int .i64 (ar k1 i).has,.slice c1 ((y.2.2.drop (ar k1 i).has).take 32).length dR,.int .i64 z.2.2.length,.int .i64 k1.mr.length,.int .u32 0]::Sl 5 1 c1 ((y.2.2.drop (ar k1 i).has).take 32).length dR (bc ((y.2.2.drop (ar k1 i).has).take 32))::Sl 60 3 ad zs.length c (rows b6 zs)::ah b7 zs::aa B.cb 72 (cZ k1 B A)::Sl 65 1 (some ⟨B.lb,B.lo,none⟩) k1.ls.length B.cL (xs.map aL)::ah ba xs::aa B.hb 3 (e7 k1.ps)::aa B.dZ 3 (eU k1.ps)::aa B.wb 313 (rows e9 k1.ps)::aa B.xb 4 (e8 k1.ps)::Sl 100 1 A.ch k1.mr.length A.cM (c4 k1.mr)::Sl 102 3 A.adE k1.ev.length A.cE (rows bU k1.ev)::L)) ?_ ?_
  ·
   refine aY 0 (λw0 V=>Rd V B.cb 0 (cZ k1 B A)∧V.cell? ⟨B.dZ,i,none⟩=some (.int .i64 (ar k1 i).has)∧Rd V B.lb B.lo (xs.map aL)) [10,14,16,17,21,26,27,31,33,34,35,39,41,42,43,44,48,49,51] [0,1,2,3,5,6,7,8,9,11,12,13,15,18,19,20,22,23,24,25,28,29,30,32,36,37,38,40,45,46,47,3004,3010,3014,3016,3017,3021,3026,3027,3031,3033,3034,3039,3041,3042,3043,3044,3048,3049,2035,50,1051,1052] E I λa w E I hH=>?_;have hC:=hH.at w ⟨I.ai (b:=B.cb),I.bz (b:=B.dZ) (wz e4),I.cK B.lb B.lo (by omega)⟩;refine RH 31 E I hH hC λa E=>?_;refine QH E (λw hc=>ae E (hc.1 1 _ rfl)) hC λa E=>?_;refine QH E (λw hc=>ae E (hc.1 2 _ rfl)) hC λa E=>?_;refine QH E (λw hc=>ae E (hc.1 13 _ rfl)) hC λa E=>?_;refine RH 1 E I hH hC λa E=>?_;refine QH E (λw hc=>ae E (hc.2.1)) hC λa E=>?_;refine QH E (λw hc=>ae E (hc.1 10 _ rfl)) hC λa E=>?_;refine QH E (λw hc=>ae E (hc.1 1 _ rfl)) hC λa E=>?_;refine RH 1 E I hH hC λa E=>?_;refine QH E (λw hc=>ae E (hc.1 13 _ rfl)) hC λa E=>?_;refine RH 1 E I hH hC λa E=>?_;refine QH E (λw hc=>ae E (hc.2.1)) hC λa E=>?_;refine QH E (λw hc=>ae E (hc.1 10 _ rfl)) hC λa E=>?_;refine QH E (λw hc=>Hh E underlying66 Ty.t65 (by rw[eX.ls];exact cF)) hC λa E=>?_;rw[Nat.mul_one]at E;refine RH 1 E I hH hC λa E=>?_;refine QH E (λw hc=>ae E (hc.2.2 i (aL z) (by rw[bn,hz];rfl))) hC λa E=>?_;rw[aL]at E;refine RH 1 E I hH hC λa E=>?_;refine QH E (λw hc=>ae E (hc.1 16 _ rfl)) hC λa E=>?_;refine RH 1 E I hH hC λa E=>?_;refine DN [(35,[50,1051,1052]),(51,[1035,50,1052])] (by kernel_rfl) rfl ⟨⟨_,rfl,?_⟩,⟨_,rfl,?_⟩,trivial⟩
   ·
    refine RH 0 E I hH hC λa E=>?_;refine a6 0 E I (MP (q:=y.2.2) (adq:=y.1) (cq:=y.2.1) (m:=32) I (by have h9:=hC.2.2 k1.me (aL y) (by rw[bn,hy];rfl);exact h9) oA (λV hw=>(U.oD (hw.sub (M:=Sl 65 1 (some ⟨B.lb,B.lo,none⟩) k1.ls.length B.cL (xs.map aL)::ah ba xs::[]))).2 y (bJ hy)) jB ik.1 (by decide)) λc1 dR a w E I=>?_;replace hC:=hH.at w ⟨I.ai (b:=B.cb),I.bz (b:=B.dZ) (wz e4),I.cK B.lb B.lo (by omega)⟩;refine RH 1 E I hH hC λa E=>?_;refine eW E rfl I Ty.t203 rfl λcG a w E I ho=>?_;clear ho;replace hC:=hH.at w ⟨I.ai (b:=B.cb),I.bz (b:=B.dZ) (wz e4),I.cK B.lb B.lo (by omega)⟩;refine RH 0 E I hH hC λa E=>?_;refine SA 0 E I λa w E I=>?_;refine RN 0 E I λa E=>?_;exact⟨cG,c1,dR,E.ab [0,4,5,6],I.sub⟩
   refine RH 0 E I hH hC λa E=>?_;refine eW E rfl I Ty.t203 rfl λcG a w E I ho=>?_;clear ho;replace hC:=hH.at w ⟨I.ai (b:=B.cb),I.bz (b:=B.dZ) (wz e4),I.cK B.lb B.lo (by omega)⟩;refine RH 0 E I hH hC λa E=>?_;refine a6 0 E I (MP (q:=y.2.2) (adq:=y.1) (cq:=y.2.1) (m:=32) I (by have h9:=hC.2.2 k1.me (aL y) (by rw[bn,hy];rfl);exact h9) oA (λV hw=>(U.oD (hw.sub (M:=Sl 65 1 (some ⟨B.lb,B.lo,none⟩) k1.ls.length B.cL (xs.map aL)::ah ba xs::[]))).2 y (bJ hy)) jB ik.1 (by decide)) λc1 dR a w E I=>?_;replace hC:=hH.at w ⟨I.ai (b:=B.cb),I.bz (b:=B.dZ) (wz e4),I.cK B.lb B.lo (by omega)⟩;refine RH 1 E I hH hC λa E=>?_;refine SA 0 E I λa w E I=>?_;refine RN 0 E I λa E=>?_;exact⟨cG,c1,dR,E.ab [0,4,5,6],I.sub⟩
  clear E;(try clear I);rintro a w ⟨cG,c1,dR,E,I⟩;refine cc (M:=λa w=>Fr a 154 [(0,pt B.cb),(4,.slice ad zs.length c),(5,.int .i64 i),(6,pt cG)]∧U W w (aa cG 203 [.int .i64 1,.int .i64 k1.me,.int .i64 i,.int .i64 k1.id,.int .i64 (ar k1 i).has,.slice c1 ((y.2.2.drop (ar k1 i).has).take 32).length dR,.int .i64 z.2.2.length,.int .i64 k1.mr.length,.int .u32 (k1.mr.getLastD 0:Nat)]::Sl 5 1 c1 ((y.2.2.drop (ar k1 i).has).take 32).length dR (bc ((y.2.2.drop (ar k1 i).has).take 32))::Sl 60 3 ad zs.length c (rows b6 zs)::ah b7 zs::aa B.cb 72 (cZ k1 B A)::Sl 65 1 (some ⟨B.lb,B.lo,none⟩) k1.ls.length B.cL (xs.map aL)::ah ba xs::aa B.hb 3 (e7 k1.ps)::aa B.dZ 3 (eU k1.ps)::aa B.wb 313 (rows e9 k1.ps)::aa B.xb 4 (e8 k1.ps)::Sl 100 1 A.ch k1.mr.length A.cM (c4 k1.mr)::Sl 102 3 A.adE k1.ev.length A.cE (rows bU k1.ev)::L)) ?_ ?_
  ·
   refine IF 7 E I (λeT a E=>?_) λeT a E=>?_
   ·
    refine bS 0 [7,8,9] [0,1,2,4,5,6,3003,1007,1008,1009,10,1011,12,1013] E I λa w E I hH hC=>?_;obtain⟨E6,E7,Fb,ly⟩:=((I).pick (Sl 100 1 A.ch k1.mr.length A.cM (c4 k1.mr))).bW A.ch (by omega);have jy:w.cell? ⟨B.cb,16,none⟩=some (.slice A.ch k1.mr.length A.cM):=I.bz (b:=B.cb) rfl;rw[Fb]at jy;refine RH 6 E I hH hC λa E=>?_;refine QH E (λw hc=>ae E (hc.cell (jy))) hC λa E=>?_;refine RH 0 E I hH hC λa E=>?_;refine SS E (ae E (jy)) λa E=>?_;refine RH 2 E I hH hC λa E=>?_;rw[show ((k1.mr.length:Nat):Int)-1=((k1.mr.length-1:Nat):Int) from by omega]at E;refine RH 1 E I hH hC λa E=>?_;refine SS E (ae E (ly (k1.mr.length-1) _ (AJ (by omega)))) λa E=>?_;refine RH 1 E I hH hC λa E=>?_;refine ST 0 E I (λa w E I=>?_);refine RN 0 E I λa E=>?_;rw[La (by omega)]at I;exact⟨E.ab [0,4,5,6],I.sub⟩
   refine RN 0 E I λa E=>?_;have h0:k1.mr.getLastD 0=0:=by rw[g5 (l:=k1.mr) (by omega)];rfl
   exact⟨E.ab [0,4,5,6],by rw[h0];exact I⟩
  clear E;(try clear I);rintro a w ⟨E,I⟩;refine RN 0 E I λa E=>?_;have hmp:dL (dT k1 i) c1 dR=[.int .i64 1,.int .i64 k1.me,.int .i64 i,.int .i64 k1.id,.int .i64 (ar k1 i).has,.slice c1 ((y.2.2.drop (ar k1 i).has).take 32).length dR,.int .i64 z.2.2.length,.int .i64 k1.mr.length,.int .u32 (k1.mr.getLastD 0:Nat)]:=by
   rw[← s8,← hzq];rfl
  have aaF:(dT k1 i).ak=(y.2.2.drop (ar k1 i).has).take 32:=by rw[← s8];rfl
  rw[← hmp]at I;refine aY 0 (λw0 V=>Rd V B.cb 0 (cZ k1 B A)∧Rd V cG 0 (dL (dT k1 i) c1 dR)) [7,8] [0,1,2,3,4,6,3005,1007,1008,9,1010,1011,12] E I λa w E I hH=>?_;have hC:=hH.at w ⟨I.ai (b:=B.cb),I.ai (b:=cG)⟩;refine RH 6 E I hH hC λa E=>?_;refine QH E (λw hc=>ae E (hc.1 1 _ rfl)) hC λa E=>?_;refine RH 0 E I hH hC λa E=>?_;refine SS E (bR E underlying203 rfl Ty.t203 (hC.2)) λa E=>?_;refine RH 0 E I hH hC λa E=>?_;refine a6 0 E I (EF (p:=dT k1 i) (ad:=c1) (c:=dR) I (by
   show k1.mr.getLastD 0<4294967296;rw[getLastD_eq_getLast?];cases hl:k1.mr.getLast? with
   | none=>decide
   | some s=>exact eX.rp s (List.mem_of_getLast? hl)) (λV hw=>by
   have h9:=(hw.pick (Sl 5 1 c1 ((y.2.2.drop (ar k1 i).has).take 32).length dR (bc ((y.2.2.drop (ar k1 i).has).take 32)))).cu c1 _ rfl rfl;rw[aaF];exact h9)) λad2 c2 a w E I=>?_
  replace hC:=hH.at w ⟨I.ai (b:=B.cb),I.ai (b:=cG)⟩;refine RH 1 E I hH hC λa E=>?_;refine cp E rfl I underlying37 Ty.t60 rfl rfl rfl rfl (by decide) (by decide) λae9 a w E I ho=>?_;clear ho;refine RN 0 E I λa E=>?_;refine cQ E rfl I underlying37 Ty.t60 rfl rfl I.ai rfl (by simp[Value.oneCell']) (by decide) (by decide) (by omega) λMQ MR a w E I=>?_;rw[show rows b6 zs++_=rows b6 (zs++[(ad2,c2,(k1.me,i,aS (dT k1 i)))]) from by rw[ka];rfl,show zs.length+1=(zs++[(ad2,c2,(k1.me,i,aS (dT k1 i)))]).length from by simp]at I;rw[show zs.length+1=(zs++[(ad2,c2,(k1.me,i,aS (dT k1 i)))]).length from by simp]at E;refine RN 1 E I λa E=>?_;refine RN 3 E I λa E=>?_;have c6:=U.jG (f:=b7) (x:=(ad2,c2,(k1.me,i,aS (dT k1 i)))) (I.sub (M:=Sl 5 1 ad2 (aS (dT k1 i)).length c2 (bc (aS (dT k1 i)))::ah b7 zs::Sl 60 3 MQ (zs++[(ad2,c2,(k1.me,i,aS (dT k1 i)))]).length MR (rows b6 (zs++[(ad2,c2,(k1.me,i,aS (dT k1 i)))]))::aa B.cb 72 (cZ k1 B A)::Sl 65 1 (some ⟨B.lb,B.lo,none⟩) k1.ls.length B.cL (xs.map aL)::ah ba xs::aa B.hb 3 (e7 k1.ps)::aa B.dZ 3 (eU k1.ps)::aa B.wb 313 (rows e9 k1.ps)::aa B.xb 4 (e8 k1.ps)::Sl 100 1 A.ch k1.mr.length A.cM (c4 k1.mr)::Sl 102 3 A.adE k1.ev.length A.cE (rows bU k1.ev)::L));exact⟨k1.n-(i+1),by omega,i+1,zs++[(ad2,c2,(k1.me,i,aS (dT k1 i)))],MQ,MR,⟨rfl,by omega,by rw[cX,qt,lz];rfl,by rw[aM];simp;omega⟩,E.ab [0,4,5],c6.sub⟩
 obtain rfl:i=k1.n:=by omega
 refine RT 3 E I ?_;have gW:zs.length=((bI k1).map λi=>(k1.me,i,aS (dT k1 i))).length:=by
  have h1:(zs.map (·.2.2)).length=(wD k1 k1.n).length:=by rw[qt]
  rw[bg]at h1;exact h1
 rw[ia];refine⟨ad,c,by rw[gW],?_⟩;rw[gW]at I;have h4:=bN.close (xs:=xs) (ls:=k1.ls) (lb:=B.lb) (lo:=B.lo) (c:=B.cL) (W:=W) (w:=w) (L:=Sl 60 3 ad ((bI k1).map λi=>(k1.me,i,aS (dT k1 i))).length c (rows b6 zs)::ah b7 zs::aa B.cb 72 (cZ k1 B A)::aa B.hb 3 (e7 k1.ps)::aa B.dZ 3 (eU k1.ps)::aa B.wb 313 (rows e9 k1.ps)::aa B.xb 4 (e8 k1.ps)::Sl 100 1 A.ch k1.mr.length A.cM (c4 k1.mr)::Sl 102 3 A.adE k1.ev.length A.cE (rows bU k1.ev)::L) I.sub bd;have h5:=(a1.fold h4 B k1 A);exact ct.close (xs:=zs) h5.sub qt rfl
end
section
variable {W w:World}{L R:List SP}{n c lb lo i f cl to:Nat}{ad:Option Addr}{ls:List (List UInt8)}{k:Ks}{A:mF}{B:nH}{bs:List UInt8}{e:jZ}
theorem aaG {a b:Nat}:((max a b:Nat):Int)=max (a:Int) (b:Int):=by omega
theorem aaH {l:List (List UInt8)}(h:l.length=k.ls.length)(ps:List Pe):cZ { k with ls:=l,ps:=ps } B A=cZ k B A:=by simp only[cZ,h]
theorem a1.aaI (I:U W w L)(B:nH)(k:Ks)(A:mF){l:List (List UInt8)}(h:l.length=k.ls.length)[kk:fE L [aa B.cb 72 (cZ k B A),bN B.lb B.lo B.cL l,aa B.hb 3 (e7 k.ps),aa B.dZ 3 (eU k.ps),aa B.wb 313 (rows e9 k.ps),aa B.xb 4 (e8 k.ps),Sl 100 1 A.ch k.mr.length A.cM (c4 k.mr),Sl 102 3 A.adE k.ev.length A.cE (rows bU k.ev)] R]:U W w (a1 B { k with ls:=l }::R):=by
 have h1:=I.perm kk.perm;rw[← aaH (l:=l) h k.ps]at h1;exact U.shut (M:=[_,_,_,_,_,_,_,_]) h1 λ_ h=>⟨A,h⟩
set_option maxHeartbeats 2000000 in
theorem aaJ (I:U W w (a1 B k::L))(hk:WC k)(hh:held k)(hb:bs.length≤65536)(hc:bs.length≤c)(hp:∀ V,U W V L→aQ V ad bs.length bs) :
   Calls prog 155 #[pt B.cb,.slice ad bs.length c] w λr V=>r=.returned (.int .i64 (dD bs k).1)∧U W V (a1 B (dD bs k).2::L):=by
 have hn:=hk.n;obtain⟨A0,I⟩:=a1.open I;refine EN func155 ntmps155 rfl rfl λa E=>?_;refine IF 8 E I (λaj a E=>?_) λaj a E=>?_
 ·
  replace I:=a1.fold I B k A0;refine RT 2 E I ?_;exact⟨by rw[AN aj],by rw[AN aj];exact I.sub⟩
 replace I:=a1.fold I B k A0;refine jJ 2 E I (X0 (I.pick (a1 B k)) hb hc (λV hw=>hp V hw.tail)) ?_;clear E I;rintro e w ⟨p,adP,cP,ok,rfl,MS,Bi,I⟩;refine⟨_,rfl,λa E=>?_⟩;refine AL 3 E I λb5 a w E I=>?_;refine SA 0 E I λa w E I=>?_;refine RN 3 E I λa E=>?_;obtain⟨A,I⟩:=a1.open (I.pick (a1 B k));refine bS 0 [9,19,29] [0,1,2,3,5,6,7,8,3004,1009,10,11,12,13,15,16,17,18,3014,1019,20,21,22,23,25,26,27,28,3024,1029,30,31] E I λa w E I hH hC=>?_;refine RH 3 E I hH hC λa E=>?_;refine E.by (s:=18) (λbA E=>?_) (λbA E=>?_)
 ·
  have dt:ok=false:=by revert bA;cases ok <;> simp
  have dc:eB bs=none:=Bi dt;refine RH 29 E I hH hC λa E=>?_;refine RT 3 E I ?_;rw[Lm aj dc];exact⟨rfl,(a1.fold I B k A).sub⟩
 have dt:ok=true:=by revert bA;cases ok <;> simp
 have pB:eB bs=some p:=MS dt;obtain⟨sS,gz,_⟩:=Eh pB;have Fg:=sS.1;refine RH 10 E I hH hC λa E=>?_;refine E.by (s:=28) (λhV E=>?_) (λhV E=>?_)
 ·
  refine RH 19 E I hH hC λa E=>?_;refine RT 3 E I ?_;rw[we aj pB (.inl hV)];exact⟨rfl,(a1.fold I B k A).sub⟩
 refine RH 10 E I hH hC λa E=>?_;refine E.by (s:=38) (λpj E=>?_) (λpj E=>?_)
 ·
  refine RH 9 E I hH hC λa E=>?_;refine RT 3 E I ?_;rw[we aj pB (.inr (.inl pj))];exact⟨rfl,(a1.fold I B k A).sub⟩
 refine RH 9 E I hH hC λa E=>?_;refine IF 0 E I (λao a E=>?_) λao a E=>?_
 ·
  refine RT 2 E I ?_;rw[we aj pB (.inr (.inr ao))];exact⟨rfl,(a1.fold I B k A).sub⟩
 have bX:¬ (p.to≠k.me∨(k.n:Int)≤p.aZ∨p.id≠k.id):=by
  rintro (h | h | h)
  ·exact h hV
  ·omega
  ·exact h ao
 rw[Lo aj pB bX];clear MS Bi dt;obtain⟨fr,fq⟩:=Int.eq_ofNat_of_zero_le Fg.1;have gZ:fr<k.n:=by omega
 have eS:fr<k.ls.length:=by rw[hk.ls];exact gZ
 have m8:fr<k.ps.length:=by rw[hk.ps];exact gZ
 have Fh:fr≠k.me:=by have:=sS.2.2.1;omega
 have ik:=hk.pw gZ;have jz:p.aZ.toNat=fr:=by omega
 have e4:=uu m8;refine bS 1 [5,9] [0,1,2,4,6,7,8,3003,3005,1009,10,1011] E I λa w E I hH hC=>?_;refine RH 9 E I hH hC λa E=>?_;rw[fq]at E;refine RH 2 E I hH hC λa E=>?_;refine ST 0 E I (λa w E I=>?_) (hlt:=(by rw[e7,bg];exact m8));rw[aan { ar k fr with heard:=k.now } rfl,← FW e4 { ar k fr with heard:=k.now } rfl,← FY e4 { ar k fr with heard:=k.now } rfl rfl,← FX e4 { ar k fr with heard:=k.now } rfl]at I;have ca:=hk.peer (q:={ ar k fr with heard:=k.now }) gZ ⟨ik.1,ik.2.2⟩ (bk _) rfl;have wi:(k.ps.set fr { ar k fr with heard:=k.now })[fr]?=some { ar k fr with heard:=k.now }:=getElem?_set_self m8;replace I:=a1.fold I B { k with ps:=k.ps.set fr { ar k fr with heard:=k.now } } A;refine RN 0 E I λa E=>?_;refine cc (M:=λa w=>∃ k4:Ks,(k4=(if p.kind=2 then { k with ps:=k.ps.set fr { ar k fr with heard:=k.now },ev:=k.ev++[(1,fr,0)],cl:=true } else { k with ls:=k.ls.set fr (dw (k.ls.getD fr []) p.first.toNat p.ak),ps:=k.ps.set fr (fR k.now (aI k) p (ar k fr)) })∧WC k4)∧Fr a 135 [(0,pt B.cb)]∧U W w (a1 B k4::L)) ?_ ?_
 ·
  refine IF 4 E I (λaz a E=>?_) λaz a E=>?_
  ·
   refine RN 4 E I λa E=>?_;rw[fq]at E;refine CL 0 E I (F0 (kd:=1) (pl:=fr) (fr:=0) I (by have:=hk.kx;show k.ev.length≤100;omega)) λa w E I=>?_;refine RN 0 E I λa E=>?_;obtain⟨A2,D,I,hD⟩:=a1.Bh I;refine ST 3 E I (λa w E I=>?_);refine RN 0 E I λa E=>?_;replace I:=hD _ _ k.now true I;exact⟨_,⟨by rw[al az],by have h9:=(hk.yf sS gz (by omega) aj).1;rw[fS,al az,jz]at h9;exact h9⟩,E.ab [0],I.sub⟩
  refine RN 1 E I λa E=>?_;have gS:eK p.first∧eK p.dd∧eK p.frame∧p.ak.length≤32:=by
   rcases sS.2.2.2.2 with h | h
   ·exact h.2
   ·exact absurd h.1 az
  simp only[eK]at gS;obtain⟨fi,wg⟩:=Int.eq_ofNat_of_zero_le gS.1.1;obtain⟨jl,AO⟩:=Int.eq_ofNat_of_zero_le gS.2.1.1;obtain⟨j0,Fi⟩:=Int.eq_ofNat_of_zero_le gS.2.2.1.1;have ym:p.first.toNat=fi:=by omega
  obtain⟨A2,I⟩:=a1.open I;refine bS 0 [5,8,10] [0,1,2,4,7,9,3003,3005,6,3008,1010,1011] E I λa w E I hH hC=>?_;refine RH 8 E I hH hC λa E=>?_;rw[fq]at E;refine RH 2 E I hH hC λa E=>?_;rw[wg]at E;refine RH 1 E I hH hC λa E=>?_;refine a6 0 E I (aat (f:=fi) (bs:=p.ak) (I.pick (bN B.lb B.lo B.cL k.ls)) eS (hk.lS gZ) (by omega) (λV hw=>(hw.pick (Sl 5 1 adP p.ak.length cP (bc p.ak))).cu adP p.ak rfl rfl)) λLq er a w E I=>?_;refine RN 0 E I λa E=>?_;have c6:U W w (a1 B { k with ls:=k.ls.set fr (dw (k.ls.getD fr []) fi p.ak),ps:=k.ps.set fr { ar k fr with heard:=k.now } }::_):=a1.aaI (l:=k.ls.set fr (dw (k.ls.getD fr []) fi p.ak)) I B { k with ps:=k.ps.set fr { ar k fr with heard:=k.now } } A2 (bu ..);replace I:=c6;clear c6;have l7:=ca.line (i:=fr) (l:=dw (k.ls.getD fr []) fi p.ak) (rk (hk.lS gZ)).2;have gL:aI ({ k with ls:=k.ls.set fr (dw (k.ls.getD fr []) fi p.ak),ps:=k.ps.set fr { ar k fr with heard:=k.now } }:Ks)=aI k:=by
   show ((k.ls.set fr _).getD k.me []).length=_;rw[Lj Fh];rfl
  refine cc (M:=λa w=>∃ hh:Nat,hh=(if (ar k fr).has<jl∧jl≤aI k then jl else (ar k fr).has)∧Fr a 135 [(0,pt B.cb),(5,pt b5)]∧U W w (a1 B { k with ls:=k.ls.set fr (dw (k.ls.getD fr []) fi p.ak),ps:=k.ps.set fr { ar k fr with heard:=k.now,has:=hh } }::aa b5 203 (dL p adP cP)::L)) ?_ ?_
  ·
   refine aY 1 (λw0 V=>Rd V b5 0 (dL p adP cP)) [3] [0,2,3001,1003,4] E I λa w E I hH=>?_;have hC:=hH.at w (I.ai (b:=b5));refine RH 2 E I hH hC λa E=>?_;refine QH E (λw hc=>ae E (hc 6 _ rfl)) hC λa E=>?_;rw[AO]at E;refine RH 0 E I hH hC λa E=>?_;refine CL 0 E I (rF I l7) λa w E I=>?_;replace hC:=hH.at w (I.ai (b:=b5));rw[gL]at E;refine RH 1 E I hH hC λa E=>?_;refine IF 0 E I (λbh a E=>?_) λbh a E=>?_
   ·
    refine RN 0 E I λa E=>?_;obtain⟨A3,I⟩:=a1.open I;have w6:(eU (k.ps.set fr { ar k fr with heard:=k.now }))[fr]?=some (Value.int .i64 (ar k fr).has):=by
     have h:=wz wi;exact h
    refine bS 0 [5,9,11,12,13,15,16] [0,1,2,4,6,7,8,10,14,3003,3005,3009,3011,3012,3013,1015,1016,17,1018] E I λa w E I hH hC=>?_;refine RH 11 E I hH hC λa E=>?_;rw[fq]at E;refine RH 2 E I hH hC λa E=>?_;rw[fq]at E;refine RH 1 E I hH hC λa E=>?_;refine QH E (λw hc=>ae E (hc.cell (I.bz (b:=B.dZ) w6))) hC λa E=>?_;refine RH 1 E I hH hC λa E=>?_;rw[AO]at E;refine RH 2 E I hH hC λa E=>?_;refine ST 0 E I (λa w E I=>?_) (hlt:=(by rw[eU,bg,bu];exact m8));rw[aao { ar k fr with heard:=k.now,has:=max (ar k fr).has jl } aaG,← FV wi { ar k fr with heard:=k.now,has:=max (ar k fr).has jl } rfl,← FY wi { ar k fr with heard:=k.now,has:=max (ar k fr).has jl } rfl rfl,← FX wi { ar k fr with heard:=k.now,has:=max (ar k fr).has jl } rfl,set_set]at I;replace I:=a1.fold I B { k with ls:=k.ls.set fr (dw (k.ls.getD fr []) fi p.ak),ps:=k.ps.set fr { ar k fr with heard:=k.now,has:=max (ar k fr).has jl } } A3;refine RN 0 E I λa E=>?_;exact⟨max (ar k fr).has jl,by split <;> omega,E.ab [0,5],I.sub⟩
   refine RN 0 E I λa E=>?_;exact⟨_,by rw[ag (by omega)],E.ab [0,5],I.sub⟩
  clear E;(try clear I);rintro a w ⟨hh,yl,E,I⟩;refine bS 1 [9,11,12,13,14] [0,1001,2,3,4,6,7,8,10,3005,3009,1011,1012,1013,1014,15,16] E I λa w E I hH hC=>?_;have wj:(k.ps.set fr { ar k fr with heard:=k.now,has:=hh })[fr]?=some { ar k fr with heard:=k.now,has:=hh }:=getElem?_set_self m8;have Fj:p.dd.toNat=jl:=by omega
  have Fk:p.frame.toNat=j0:=by omega
  have hP:fR k.now (aI k) p (ar k fr)=(if 0<p.frame∧((ar k fr).frame:Int)≤p.frame then { ar k fr with heard:=k.now,has:=hh,frame:=j0,sum:=p.sum } else { ar k fr with heard:=k.now,has:=hh }):=by
   rw[fR,Fj,Fk,yl]
  have uw:hh≤1000:=by rw[yl];split <;> omega
  obtain⟨F5,I⟩:=a1.open I;have fe:=jk Bf (I.ai (b:=B.wb)) wj;rw[Nat.zero_add]at fe;replace hH:=Hd.gv I;refine RH 4 E I hH hC λa E=>?_;refine E.by (s:=107) (λbF E=>?_) (λbF E=>?_)
  ·
   refine RH 8 E I hH hC λa E=>?_;rw[fq]at E;refine RH 2 E I hH hC λa E=>?_;refine bC E (cI E rfl (s:=107)) (ae E (fe 0 (.int .i64 (ar k fr).frame) rfl)) rfl λa E=>?_;refine RH 2 E I hH hC λa E=>?_;refine IF 0 E I (λbQ a E=>?_) λbQ a E=>?_
   ·
    refine bS 0 [5,7,9,10] [0,1,2,4,6,8,3003,3005,3007,1009,1010,11,1012] E I λa w E I hH hC=>?_;refine RH 8 E I hH hC λa E=>?_;rw[fq]at E;refine RH 1 E I hH hC λa E=>?_;rw[Fi]at E;refine RH 3 E I hH hC λa E=>?_;refine qy E rfl I Ty.t313 (by simp[Value.oneCell']) (by rw[iY Bf,bu];show fr*2+2≤_;omega) λa w E I=>?_;rw[show cD (rows e9 (k.ps.set fr { ar k fr with heard:=k.now,has:=hh })) (fr*2) [Value.int .i64 j0,Value.int .u32 p.sum]=rows e9 ((k.ps.set fr { ar k fr with heard:=k.now,has:=hh }).set fr { ar k fr with heard:=k.now,has:=hh,frame:=j0,sum:=p.sum }) from HM Bf _ { ar k fr with heard:=k.now,has:=hh,frame:=j0,sum:=p.sum } (by rw[bu];exact m8),← FV wj { ar k fr with heard:=k.now,has:=hh,frame:=j0,sum:=p.sum } rfl,← FW wj { ar k fr with heard:=k.now,has:=hh,frame:=j0,sum:=p.sum } rfl,← FX wj { ar k fr with heard:=k.now,has:=hh,frame:=j0,sum:=p.sum } rfl,set_set]at I;replace I:=a1.fold I B { k with ls:=k.ls.set fr (dw (k.ls.getD fr []) fi p.ak),ps:=k.ps.set fr { ar k fr with heard:=k.now,has:=hh,frame:=j0,sum:=p.sum } } F5;refine RN 0 E I λa E=>?_;exact⟨_,⟨by rw[ag az,ym,hP,al (by omega)],(hk.peer (q:={ ar k fr with heard:=k.now,has:=hh,frame:=j0,sum:=p.sum }) gZ ⟨uw,by show j0≤1000;omega,gz⟩ (bk _) rfl).line (rk (hk.lS gZ)).2⟩,E.ab [0],I.sub⟩
   refine RN 0 E I λa E=>?_;exact⟨_,⟨by rw[ag az,ym,hP,ag (by omega)],(hk.peer (q:={ ar k fr with heard:=k.now,has:=hh }) gZ ⟨uw,ik.2.2⟩ (bk _) rfl).line (rk (hk.lS gZ)).2⟩,E.ab [0],(a1.fold I B { k with ls:=k.ls.set fr (dw (k.ls.getD fr []) fi p.ak),ps:=k.ps.set fr { ar k fr with heard:=k.now,has:=hh } } F5).sub⟩
  refine RH 13 E I hH hC λa E=>?_;refine RN 1 E I λa E=>?_;exact⟨_,⟨by rw[ag az,ym,hP,ag (by omega)],(hk.peer (q:={ ar k fr with heard:=k.now,has:=hh }) gZ ⟨uw,ik.2.2⟩ (bk _) rfl).line (rk (hk.lS gZ)).2⟩,E.ab [0],(a1.fold I B { k with ls:=k.ls.set fr (dw (k.ls.getD fr []) fi p.ak),ps:=k.ps.set fr { ar k fr with heard:=k.now,has:=hh } } F5).sub⟩
 clear E;(try clear I);rintro a w ⟨k4,⟨og,hkw⟩,E,I⟩;refine CL 2 E I (MK I hkw) λa w E I=>?_;refine RT 2 E I ?_;refine⟨rfl,?_⟩;have hz:kZ k4=fS k p:=by
  by_cases h2:p.kind=2
  ·rw[og,al h2,fS,al h2,jz];refine held.kZ (hh.of rfl (bu ..) λi hi=>?_);by_cases h:i=fr
   ·subst h;rw[show ar { k with ps:=k.ps.set i { ar k i with heard:=k.now },ev:=k.ev++[(1,i,0)],cl:=true } i={ ar k i with heard:=k.now } from by rw[ar,bl,getElem?_set_self hi];rfl];exact⟨rfl,rfl,rfl⟩
   ·rw[show ar { k with ps:=k.ps.set fr { ar k fr with heard:=k.now },ev:=k.ev++[(1,fr,0)],cl:=true } i=ar k i from by rw[ar,bl,getElem?_set_ne (Ne.symm h),ar,bl]];exact⟨rfl,rfl,rfl⟩
  ·rw[og,ag h2,fS,ag h2,jz]
 rw[hz]at I;exact I
end
end
section
def cy:Pr:=⟨⟨#[115,117,109]⟩,[⟨1,30,1,0⟩,⟨11,1,0,0⟩,⟨5,2,2,31⟩,⟨3,2,2,1⟩,⟨3,0,0,30⟩,⟨1,29,8,0⟩,⟨7,28,0,29⟩,⟨10,28,9,0⟩,⟨9,1,0,0⟩,⟨1,0,0,0⟩,⟨15,31,0,0⟩,⟨13,31,2,0⟩]⟩
theorem F6 {s:ByteArray}{i b:Nat}(hb:jU s i=b)(h:b<128):Utf8.decode s i=(b,1):=by
 simp only[jU]at hb;simp[Utf8.decode,hb,h]
theorem aaK:ef cy.title 0=[(115,1),(117,1),(109,1)]:=by
 have h1:cy.title.size=3:=rfl;have h2:Utf8.decode cy.title 0=(115,1):=F6 (b:=115) rfl (by decide);have h3:Utf8.decode cy.title 1=(117,1):=F6 (b:=117) rfl (by decide);have h4:Utf8.decode cy.title 2=(109,1):=F6 (b:=109) rfl (by decide);have r3:ef cy.title 3=[]:=qR (by omega);have r2:ef cy.title 2=[(109,1)]:=by rw[qQ (by omega),ec,al (by omega),h4];exact congrArg _ r3
 have r1:ef cy.title 1=[(117,1),(109,1)]:=by rw[qQ (by omega),ec,al (by omega),h3];exact congrArg _ r2
 rw[qQ (by omega),ec,al (by omega),h2];exact congrArg _ r1
theorem qv:db cy:=by
 refine⟨⟨?_,by decide,by decide,?_⟩,?_⟩
 ·rw[o2,aaK];decide
 ·intro o ho;simp[cy]at ho;rcases ho with rfl | rfl | rfl | rfl | rfl | rfl | rfl | rfl | rfl | rfl | rfl | rfl <;> simp[qS,du]
 ·intro o ho;simp[cy]at ho;rcases ho with rfl | rfl | rfl | rfl | rfl | rfl | rfl | rfl | rfl | rfl | rfl | rfl <;> simp[eZ,eY,cy]
section
variable {W w:World}{L:List SP}{n c:Nat}{ad:Option Addr}
theorem Bj (I:U W w L):Calls prog 25 #[] w λe V=>∃ ad,e=.returned (.agg (bw cy ad 12).toArray)∧U W V (ay W cy ad 12::L):=by
 refine EN func25 ntmps25 rfl rfl λa E=>?_;refine AL 1 E I λzm a w E I=>?_;refine RN 13 E I λa E=>?_;refine cp E rfl I underlying43 Ty.t114 rfl rfl rfl rfl (by decide) (by decide) λBk a w E I ho=>?_;clear ho;refine SA 1 E I λa w E I=>?_;refine RT 0 E I ?_;refine⟨some ⟨Bk,0,none⟩,rfl,?_⟩;have h1:U W w (aa Bk 114 ([]++rows dP cy.ops++[])::_):=I.jD Bk;have h2:=U.iL (n:=12) (c:=12) (sz:=4) h1 rfl (bk _) (Nat.zero_le _);have h3:U W w (ay W cy (some ⟨Bk,0,none⟩) 12::_):=h2.Dc;exact h3.sub
set_option maxHeartbeats 2000000 in
end
section
variable {W w:World}{L:List SP}{m cP:Nat}{adP:Option Addr}{p:Pr}
theorem yD {fr:Int}{g:Nat→Int}{aq:Option Addr}{cO:Nat}{P:List (List UInt8)}{zs:List ed}(I:U W w (ay W p aq cO::L))(hm:P.length=m)(a7:db p)(aC:p.title.size≤1000000000)(hg:dQ g)(hP:P.length≤65536∧∀ b∈P,b.length≤1099511627776)(hz:zs.map (·.2.2)=P)(hf:-1099511627776≤fr∧fr≤1099511627776)(hp:∀ V,U W V L→ix V adP zs) :
   Calls prog 116 #[.agg (bw p aq cO).toArray,.agg (ints .i32 32 g).toArray,.int .i64 fr,.slice adP m cP] w λe V=>e=.returned (.agg (ints .i32 32 (foldI p fr g P)).toArray)∧dQ (foldI p fr g P)∧U W V (ay W p aq cO::L):=by
 subst hm;exact WJ I a7 aC hg hP hz hf hp
end
def jn (P O:List UInt8)(k:Nat):List (List UInt8):=(List.range k).map (bL [P,O])
end
end Go.Proofs.YteoldcfapaiobaaGreat
