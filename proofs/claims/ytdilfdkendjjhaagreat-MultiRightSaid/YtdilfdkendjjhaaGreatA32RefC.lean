/- The document's player without its game: how it lies in memory; quintainref21.within, May, New, Head, Front, event, held, Mark, Told. -/
import Derived.Test.YtdilfdkendjjhaaGreatA24Core
import Derived.Test.YtdilfdkendjjhaaGreatA29MulM
import Derived.Test.YtdilfdkendjjhaaGreatA03Run
namespace Go.Proofs.YtdilfdkendjjhaaGreat
open Go.RowKit
set_option linter.unusedVariables false
set_option linter.unusedSimpArgs false
set_option maxRecDepth 10000
set_option synthInstance.maxSize 4000
set_option synthInstance.maxHeartbeats 400000
section
theorem made1 (z:Value)(h:z.cells=#[z])(n:Nat):(madeCells z.cells (n*1)).toList=List.replicate n z:=by
 apply List.ext_getElem?
 intro i
 rw[madeCells,Array.getElem?_toList,Array.getElem?_map,Array.getElem?_range,h,List.getElem?_replicate]
 by_cases hi:i<n
 · simp[hi,Nat.mod_one]
 · simp[hi]
theorem made2 (n:Nat):(madeCells (Value.agg #[.int .i64 0,.int .u32 0]).cells (n*2)).toList=rows (λ_:Pe=>[Value.int .i64 0,.int .u32 0]) (List.replicate n (pe0 0)):=by
 have hl:∀ m:Nat,(madeCells (Value.agg #[.int .i64 0,.int .u32 0]).cells m).toList=(List.range m).map λi=>if i%2=0 then Value.int .i64 0 else .int .u32 0:=by
   intro m
   apply List.ext_getElem?
   intro i
   rw[madeCells,Array.getElem?_toList,Array.getElem?_map,Array.getElem?_range,List.getElem?_map]
   by_cases hi:i<m
   · rcases Nat.mod_two_eq_zero_or_one i with h | h <;> simp[hi,Value.cells,h]
   · simp[hi]
 rw[hl]
 induction n with
 | zero=>rfl
 | succ n ih =>
   rw[Nat.succ_mul,List.replicate_succ',rows_app,← ih,List.range_succ,List.range_succ]
   simp only[List.map_append,List.append_assoc]
   congr 1
   have h1:n*2%2=0:=by omega
   have h2:¬ (n*2+1)%2=0:=by omega
   simp[h1,h2,rows]
def RLn (lb lo c:Nat)(ls:List (List UInt8)):SP:=λh=>∃ xs:List BBx,prx xs=ls∧sepL [Sl 128 1 (some ⟨lb,lo,none⟩) ls.length c (xs.map bbv),All bbo xs] h
structure RcB where
 cb:Nat
 lb:Nat
 lo:Nat
 cL:Nat
 hb:Nat
 ab:Nat
 wb:Nat
 xb:Nat
structure RcA where
 adM:Option Addr
 cM:Nat
 adE:Option Addr
 cE:Nat
abbrev rcC (k:Ks)(B:RcB)(A:RcA):List Value:=[.int .i64 k.n,.int .i64 k.me,.int .i64 k.id,.int .i64 k.delay,.int .i64 k.window,.int .i64 k.guess,.int .i64 k.order,.int .i64 k.branches,.int .i64 k.workers,.int .i64 k.room,
 .slice (some ⟨B.lb,B.lo,none⟩) k.ls.length B.cL,.int .i64 k.now,.slice (some ⟨B.hb,0,none⟩) k.n k.n,.slice (some ⟨B.ab,0,none⟩) k.n k.n,.slice (some ⟨B.wb,0,none⟩) k.n k.n,.slice (some ⟨B.xb,0,none⟩) k.n k.n,.slice A.adM k.mr.length A.cM,.slice A.adE k.ev.length A.cE,.bool k.cl]
def heC (l:List Pe):List Value:=l.map λp=>Value.int .i64 (p.heard:Int)
def haC (l:List Pe):List Value:=l.map λp=>Value.int .i64 (p.has:Int)
def apC (l:List Pe):List Value:=l.map λp=>Value.bool p.apart
abbrev wdC (p:Pe):List Value:=[.int .i64 p.frame,.int .u32 p.sum]
theorem wdC_len (p:Pe):(wdC p).length=2:=rfl
def RefS (B:RcB)(k:Ks):SP:=λh=>∃ A:RcA,sepL [blk B.cb 83 (rcC k B A),RLn B.lb B.lo B.cL k.ls,blk B.hb 3 (heC k.ps),blk B.ab 3 (haC k.ps),blk B.wb 244 (rows wdC k.ps),blk B.xb 4 (apC k.ps),Sl 68 1 A.adM k.mr.length A.cM (mrC k.mr),Sl 223 3 A.adE k.ev.length A.cE (rows rawC k.ev)] h
section
variable {W w:World}{L R:List SP}{c m lb lo i:Nat}{ad:Option Addr}{ls:List (List UInt8)}{k:Ks}{A:RcA}{B:RcB}
theorem RLn.open (hs:St W w (RLn lb lo c ls::L)):∃ xs:List BBx,prx xs=ls∧St W w (Sl 128 1 (some ⟨lb,lo,none⟩) ls.length c (xs.map bbv)::All bbo xs::L):=by
 obtain⟨xs,h1,hs⟩:=hs.exi (ι:=List BBx) (p:=λxs=>prx xs=ls) (B:=λxs h=>sepL [Sl 128 1 (some ⟨lb,lo,none⟩) ls.length c (xs.map bbv),All bbo xs] h) λ_ ⟨xs,h1,h2⟩=>⟨xs,h1,h2⟩
 exact⟨xs,h1,hs.open (M:=[_,_]) λ_ h=>h⟩
theorem RLn.close {xs:List BBx}(hs:St W w (Sl 128 1 (some ⟨lb,lo,none⟩) ls.length c (xs.map bbv)::All bbo xs::L))(h:prx xs=ls):St W w (RLn lb lo c ls::L) :=
 St.shut (M:=[_,_]) hs λ_ h'=>⟨xs,h,h'⟩
theorem St.rdXe {xs:List BBx}{el:TypeId}{m:Nat}(hs:St W w (Sl el 1 ad m c (xs.map bbv)::All bbo xs::L)):RdX w ad xs:=by
 have hl:=(hs.sl ad).1
 rw[List.length_map,Nat.mul_one]at hl
 refine⟨λh0=>?_,λx hx=>?_⟩
 · obtain⟨b,off,h1,h2⟩:=hs.slRd ad (by omega)
   exact⟨b,off,h1,h2⟩
 · obtain⟨i,hi,rfl⟩:=List.getElem_of_mem hx
   have h2:=(hs.tail).allOut hi
   exact St.rdB (L:=bbo xs[i]::_) h2 _ _ (k:=(PickSl.head:PickSl (Sl 5 1 xs[i].1 xs[i].2.2.length xs[i].2.1 (bc xs[i].2.2)::_) xs[i].1 _ _ _ _ _ _)) rfl rfl
theorem RefS.open (hs:St W w (RefS B k::L)):∃ A:RcA,St W w (blk B.cb 83 (rcC k B A)::RLn B.lb B.lo B.cL k.ls::blk B.hb 3 (heC k.ps)::blk B.ab 3 (haC k.ps)::blk B.wb 244 (rows wdC k.ps)::blk B.xb 4 (apC k.ps)::Sl 68 1 A.adM k.mr.length A.cM (mrC k.mr)::Sl 223 3 A.adE k.ev.length A.cE (rows rawC k.ev)::L):=by
 obtain⟨A,_,hs⟩:=hs.exi (ι:=RcA) (p:=λ_=>True) (B:=λA h=>sepL [blk B.cb 83 (rcC k B A),RLn B.lb B.lo B.cL k.ls,blk B.hb 3 (heC k.ps),blk B.ab 3 (haC k.ps),blk B.wb 244 (rows wdC k.ps),blk B.xb 4 (apC k.ps),Sl 68 1 A.adM k.mr.length A.cM (mrC k.mr),Sl 223 3 A.adE k.ev.length A.cE (rows rawC k.ev)] h) λ_ ⟨A,h⟩=>⟨A,trivial,h⟩
 exact⟨A,hs.open (M:=[_,_,_,_,_,_,_,_]) λ_ h=>h⟩
theorem RefS.fold (hs:St W w L)(B:RcB)(k:Ks)(A:RcA)[kk:Arr L [blk B.cb 83 (rcC k B A),RLn B.lb B.lo B.cL k.ls,blk B.hb 3 (heC k.ps),blk B.ab 3 (haC k.ps),blk B.wb 244 (rows wdC k.ps),blk B.xb 4 (apC k.ps),Sl 68 1 A.adM k.mr.length A.cM (mrC k.mr),Sl 223 3 A.adE k.ev.length A.cE (rows rawC k.ev)] R]:St W w (RefS B k::R) :=
 St.shut (M:=[_,_,_,_,_,_,_,_]) (hs.perm kk.perm) λ_ h=>⟨A,h⟩
end
theorem haC_at {l:List Pe}{i:Nat}{p:Pe}(h:l[i]?=some p):(haC l)[i]?=some (.int .i64 p.has):=by rw[haC,List.getElem?_map,h];rfl
theorem apC_at {l:List Pe}{i:Nat}{p:Pe}(h:l[i]?=some p):(apC l)[i]?=some (.bool p.apart):=by rw[apC,List.getElem?_map,h];rfl
theorem map_set1 {α β:Type}(f:α→β){l:List α}{i:Nat}{x:α}{v:β}(h:f x=v):(l.map f).set i v=(l.set i x).map f:=by rw[← h,map_set]
theorem map_keep {β:Type}(f:Pe→β){l:List Pe}{i:Nat}{p q:Pe}(h:l[i]?=some p)(hf:f q=f p):(l.set i q).map f=l.map f:=by
 apply List.ext_getElem?
 intro j
 rw[List.getElem?_map,List.getElem?_map,List.getElem?_set]
 by_cases hj:i=j
 · subst hj
   have hi:=(List.getElem?_eq_some_iff.1 h).1
   rw[if_pos rfl,if_pos hi,h]
   simp[hf]
 · rw[if_neg hj]
theorem rows_keep (f:Pe→List Value){l:List Pe}{i:Nat}{p q:Pe}(h:l[i]?=some p)(hf:f q=f p):rows f (l.set i q)=rows f l:=by
 rw[rows,rows,List.flatMap_def,List.flatMap_def,map_keep f h hf]
theorem heC_keep {l:List Pe}{i:Nat}{p:Pe}(h:l[i]?=some p)(q:Pe)(hf:q.heard=p.heard):heC (l.set i q)=heC l:=map_keep _ h (by rw[hf])
theorem haC_keep {l:List Pe}{i:Nat}{p:Pe}(h:l[i]?=some p)(q:Pe)(hf:q.has=p.has):haC (l.set i q)=haC l:=map_keep _ h (by rw[hf])
theorem apC_keep {l:List Pe}{i:Nat}{p:Pe}(h:l[i]?=some p)(q:Pe)(hf:q.apart=p.apart):apC (l.set i q)=apC l:=map_keep _ h (by rw[hf])
theorem wdC_keep {l:List Pe}{i:Nat}{p:Pe}(h:l[i]?=some p)(q:Pe)(hf:q.frame=p.frame)(hs:q.sum=p.sum):rows wdC (l.set i q)=rows wdC l:=rows_keep _ h (by rw[wdC,wdC,hf,hs])
theorem heC_set {l:List Pe}{i:Nat}(q:Pe){v:Int}(h:(q.heard:Int)=v):(heC l).set i (.int .i64 v)=heC (l.set i q):=map_set1 _ (by rw[h])
theorem haC_set {l:List Pe}{i:Nat}(q:Pe){v:Int}(h:(q.has:Int)=v):(haC l).set i (.int .i64 v)=haC (l.set i q):=map_set1 _ (by rw[h])
section
variable {W w:World}{L:List SP}{n lb lo i f cl:Nat}{ls:List (List UInt8)}{k:Ks}{A:RcA}{B:RcB}{x:UInt8}
theorem ref_head (hs:St W w (RefS B k::L))(hk:WC k):Calls Tryz.prog 38 #[pt B.cb] w λr w'=>r=.returned (.int .i64 (headK k))∧St W w' (RefS B k::L):=by
 have hme:k.me<k.ls.length:=by rw[hk.ls];exact hk.me
 obtain⟨A,hs⟩:=RefS.open hs
 refine EN Tryz.func38 Tryz.ntmps38 rfl rfl λa ha=>?_
 refine DWO 3 [8] [0,1,2,4,5,6,7,3003,1008,9,10,1011,12,13] ha hs λa w ha hs hH hC=>?_
 obtain⟨xs,hxs,hs⟩:=RLn.open (hs.pick (RLn B.lb B.lo B.cL k.ls))
 have hxl:xs.length=k.ls.length:=by rw[← hxs,prx_len]
 obtain⟨bl,ol,y,hbe,hy,hcy,hry⟩:=(St.rdXe hs).at (i:=k.me) (by omega)
 cases hbe
 have hyl:headK k=y.2.2.length:=by
   show (k.ls.getD k.me []).length=_
   rw[← hxs,prx_get hy]
 replace hH:=Hd.old hs
 refine RH 11 ha hs hH hC λa ha=>?_
 refine SS ha (ld1 ha (hcy)) λa ha=>?_
 rw[bbv]at ha
 refine RH 2 ha hs hH hC λa ha=>?_
 refine RT 0 ha hs ?_
 refine⟨by rw[hyl],?_⟩
 exact (RefS.fold (RLn.close hs hxs) B k A).sub
theorem ref_frontC (hs:St W w (RefS B k::L))(hk:WC k):Calls Tryz.prog 64 #[pt B.cb] w λr w'=>r=.returned (.int .i64 (frontK k))∧St W w' (RefS B k::L):=by
 have hn:=hk.n
 have hls:=hk.ls
 obtain⟨A,hs⟩:=RefS.open hs
 refine EN Tryz.func64 Tryz.ntmps64 rfl rfl λa ha=>?_
 refine RN 7 ha hs λa ha=>?_
 obtain⟨xs,hxs,hs⟩:=RLn.open (hs.pick (RLn B.lb B.lo B.cL k.ls))
 have hxl:xs.length=k.ls.length:=by rw[← hxs,prx_len]
 rw[← hxl]at ha
 refine CL 0 ha hs (ref_front (xs:=xs) hs (by omega) (by omega) (λw' hw=>St.rdXe hw)) λa w ha hs=>?_
 refine RT 1 ha hs ?_
 refine⟨by rw[hxs];rfl,?_⟩
 exact (RefS.fold (RLn.close hs hxs) B k A).sub
theorem ref_event {kd pl fr:Nat}(hs:St W w (RefS B k::L))(hl:k.ev.length≤100):Calls Tryz.prog 72 #[pt B.cb,.int .i64 kd,.int .i64 pl,.int .i64 fr] w λr w'=>r=.returned (.tuple #[])∧St W w' (RefS B { k with ev:=k.ev++[(kd,pl,fr)] }::L):=by
 obtain⟨A,hs⟩:=RefS.open hs
 refine EN Tryz.func72 Tryz.ntmps72 rfl rfl λa ha=>?_
 refine RN 9 ha hs λa ha=>?_
 refine st_buildSlice ha rfl hs Tryz.underlying81 Ty.t223 rfl rfl rfl rfl (by decide) (by decide) λb17 a w ha hs ho=>?_
 clear ho
 refine RN 0 ha hs λa ha=>?_
 refine st_append ha rfl hs Tryz.underlying81 Ty.t223 rfl rfl hs.rdAll rfl (rawC_one (kd,pl,fr)) (by decide) (by decide) (by omega) λad18 c18 a w ha hs=>?_
 rw[show rows rawC k.ev++_=rows rawC (k.ev++[(kd,pl,fr)]) from by rw[rows_app];rfl,show k.ev.length+1=(k.ev++[(kd,pl,fr)]).length from by simp]at hs
 rw[show k.ev.length+1=(k.ev++[(kd,pl,fr)]).length from by simp]at ha
 refine ST 2 ha hs (λa w ha hs=>?_)
 refine RT 0 ha hs ?_
 exact⟨rfl,(RefS.fold hs B { k with ev:=k.ev++[(kd,pl,fr)] } { A with adE:=ad18,cE:=c18 }).sub⟩
theorem ref_held (hs:St W w (RefS B k::L))(hk:WC k):Calls Tryz.prog 157 #[pt B.cb] w λr w'=>r=.returned (.tuple #[])∧St W w' (RefS B (holdK k)::L):=by
 have hpl:k.ps.length=k.n:=hk.ps
 have hn:=hk.n
 refine EN Tryz.func157 Tryz.ntmps157 rfl rfl λa ha=>?_
 refine RN 2 ha hs λa ha=>?_
 refine wp_loop_ghost (λμ a w=>∃ (i:Nat),(μ=k.n-i∧i≤k.n)∧Fr a 68 [(0,pt B.cb),(2,.int .i64 i)]∧St W w (RefS B (holdN k i)::L)) (k.n) (⟨0,⟨rfl,by omega⟩,ha.keep [0,2],hs⟩) ?_
 clear ha hs
 rintro μ a w ⟨i,⟨rfl,hi⟩,ha,hs⟩
 have hkk:=hk.holdN (i:=i) hi
 have hkl:=holdN_len k i
 have hkn:(holdN k i).n=k.n:=by obtain⟨ps,ev,h1,_⟩:=holdN_eq k i;rw[h1]
 have hnx:holdN k (i+1)=hold1 (holdN k i) i:=rfl
 rw[hold1]at hnx
 generalize hge:holdN k i=kk at hs hkk hkl hnx hkn
 obtain⟨A,hs⟩:=RefS.open hs
 refine IF 9 ha hs (λhc0 a ha=>?_) λhc0 a ha=>?_
 ·
  have hil:i<kk.ps.length:=by omega
  have hpt:=hkk.pet (i:=i) (by omega)
  have hat:=peK_at hil
  have hrp:=rows_part wdC_len (hs.rdAll (b:=B.wb)) hat
  rw[Nat.zero_add]at hrp
  refine RN 8 ha hs λa ha=>?_
  refine SS ha (ex_loadN ha Tryz.underlying244 rfl Ty.t244 (hrp)) λa ha=>?_
  refine AL 0 ha hs λb3 a w ha hs=>?_
  refine SA 0 ha hs λa w ha hs=>?_
  refine DWO 1 [19,20,29,30,34] [0,1,2,4,1003,5,1006,7,8,9,1010,11,12,13,14,16,17,18,3015,1019,1020,21,22,23,24,25,26,28,33,3027,3029,3030,31,3032,1034,35,36] ha hs λa w ha hs hH hC=>?_
  have hrc:Rd w B.cb 0 (rcC kk B A):=hs.rdAll (b:=B.cb)
  have hrw:Rd w b3 0 (wdC (peK kk i)):=hs.rdAll (b:=b3)
  have hra:=hs.rd1 (b:=B.xb) (apC_at hat)
  refine RH 4 ha hs hH hC λa ha=>?_
  refine SS ha (ld1 ha (hrc 15 _ rfl)) λa ha=>?_
  refine RH 1 ha hs hH hC λa ha=>?_
  refine SS ha (ld1 ha (hra)) λa ha=>?_
  refine RH 2 ha hs hH hC λa ha=>?_
  refine ha.by (s:=28) (λhg8 ha=>?_) (λhg8 ha=>?_)
  ·
   refine RH 1 ha hs hH hC λa ha=>?_
   refine st_set ha (wgT ha rfl (s:=28)) (ld1 ha (hrw 0 _ rfl)) rfl λa ha=>?_
   refine RH 3 ha hs hH hC λa ha=>?_
   refine ha.by (s:=33) (λhg13 ha=>?_) (λhg13 ha=>?_)
   ·
    refine RH 4 ha hs hH hC λa ha=>?_
    refine QH ha (λw hc=>ld1 ha (hc.cell (hrw 0 _ rfl))) hC λa ha=>?_
    refine RH 0 ha hs hH hC λa ha=>?_
    refine st_set ha (wgT ha rfl (s:=33)) (ld1 ha (hrc 16 _ rfl)) rfl λa ha=>?_
    refine RH 4 ha hs hH hC λa ha=>?_
    refine ha.by (s:=43) (λhg23 ha=>?_) (λhg23 ha=>?_)
    ·
     have hml:(peK kk i).frame-1<kk.mr.length:=by omega
     obtain⟨bm,om,hme,hrm⟩:=(hs.pick (Sl 68 1 A.adM kk.mr.length A.cM (mrC kk.mr))).slRd A.adM (by omega)
     have hrc2:=hrc 16 _ rfl
     rw[hme]at hrc2
     refine RH 5 ha hs hH hC λa ha=>?_
     refine QH ha (λw hc=>ld1 ha (hc.cell (hrc2))) hC λa ha=>?_
     refine QH ha (λw hc=>ld1 ha (hc.cell (hrw 0 _ rfl))) hC λa ha=>?_
     refine RH 1 ha hs hH hC λa ha=>?_
     rw[show (((peK kk i).frame:Nat):Int)-1=(((peK kk i).frame-1:Nat):Int) from by omega]at ha
     refine RH 1 ha hs hH hC λa ha=>?_
     refine QH ha (λw hc=>ld1 ha (hc.cell (hrm ((peK kk i).frame-1) _ (mrC_get hml)))) hC λa ha=>?_
     refine RH 0 ha hs hH hC λa ha=>?_
     refine st_set ha (wgT ha rfl (s:=43)) (ld1 ha (hrw 1 _ rfl)) rfl λa ha=>?_
     refine RH 2 ha hs hH hC λa ha=>?_
     refine IF 0 ha hs (λhc1 a ha=>?_) λhc1 a ha=>?_
     ·
      refine RN 1 ha hs λa ha=>?_
      rw[if_pos ⟨hg8,by omega,by omega,by omega⟩]at hnx
      refine ST 6 ha hs (λa w ha hs=>?_) (hlt:=(by rw[apC,List.length_map];exact hil))
      rw[show (apC kk.ps).set i (.bool true)=apC (kk.ps.set i { peK kk i with apart:=true }) from map_set1 _ rfl,← heC_keep hat { peK kk i with apart:=true } rfl,← haC_keep hat { peK kk i with apart:=true } rfl,← wdC_keep hat { peK kk i with apart:=true } rfl rfl]at hs
      replace hs:=RefS.fold hs B { kk with ps:=kk.ps.set i { peK kk i with apart:=true } } A
      refine CL 4 ha hs (ref_event (kd:=3) (pl:=i) (fr:=(peK kk i).frame) hs (by have:=hkk.evl;show kk.ev.length≤100;omega)) λa w ha hs=>?_
      refine RN 3 ha hs λa ha=>?_
      exact⟨k.n-(i+1),by omega,i+1,⟨rfl,by omega⟩,ha.keep [0,2],by rw[hnx];exact hs.sub⟩
     refine RN 3 ha hs λa ha=>?_
     rw[if_neg (λh=>by have:=h.2.2.2;omega)]at hnx
     exact⟨k.n-(i+1),by omega,i+1,⟨rfl,by omega⟩,ha.keep [0,2],by rw[hnx];exact (RefS.fold hs B kk A).sub⟩
    refine RH 13 ha hs hH hC λa ha=>?_
    refine RN 4 ha hs λa ha=>?_
    rw[if_neg (λh=>by have:=h.2.2.1;omega)]at hnx
    exact⟨k.n-(i+1),by omega,i+1,⟨rfl,by omega⟩,ha.keep [0,2],by rw[hnx];exact (RefS.fold hs B kk A).sub⟩
   refine RH 23 ha hs hH hC λa ha=>?_
   refine RN 4 ha hs λa ha=>?_
   rw[if_neg (λh=>by have:=h.2.1;omega)]at hnx
   exact⟨k.n-(i+1),by omega,i+1,⟨rfl,by omega⟩,ha.keep [0,2],by rw[hnx];exact (RefS.fold hs B kk A).sub⟩
  refine RH 28 ha hs hH hC λa ha=>?_
  refine RN 4 ha hs λa ha=>?_
  rw[if_neg (λh=>by have:=h.1;rw[hg8]at this;cases this)]at hnx
  exact⟨k.n-(i+1),by omega,i+1,⟨rfl,by omega⟩,ha.keep [0,2],by rw[hnx];exact (RefS.fold hs B kk A).sub⟩
 refine RT 0 ha hs ?_
 obtain rfl:i=k.n:=by omega
 refine⟨rfl,?_⟩
 rw[holdK,hpl,hge]
 exact (RefS.fold hs B kk A).sub
theorem ref_mark {s:Nat}(hs:St W w (RefS B k::L))(hk:WC k)(hl:k.mr.length<1000)(hss:s<4294967296):Calls Tryz.prog 134 #[pt B.cb,.int .u32 s] w λr w'=>r=.returned (.tuple #[])∧St W w' (RefS B (markK k s)::L):=by
 have hkm : WC { k with mr := k.mr ++ [s] } := { hk with
     mr:=by show (k.mr++[s]).length≤1000;rw[List.length_append,List.length_singleton];omega
     mrs:=λx hx=>by
       rcases List.mem_append.1 hx with hx | hx
       · exact hk.mrs x hx
       · rw[List.mem_singleton]at hx;rw[hx];exact hss }
 obtain⟨A,hs⟩:=RefS.open hs
 refine EN Tryz.func134 Tryz.ntmps134 rfl rfl λa ha=>?_
 refine RN 8 ha hs λa ha=>?_
 rw[decide_eq_true (by omega)]at ha
 refine RN 7 ha hs λa ha=>?_
 refine st_buildSlice ha rfl hs Tryz.underlying80 Ty.t68 rfl rfl rfl rfl (by decide) (by decide) λb16 a w ha hs ho=>?_
 clear ho
 refine RN 0 ha hs λa ha=>?_
 refine st_append ha rfl hs Tryz.underlying80 Ty.t68 rfl rfl hs.rdAll rfl (by simp[Value.oneCell']) (by decide) (by decide) (by omega) λad17 c17 a w ha hs=>?_
 rw[show mrC k.mr++_=mrC (k.mr++[s]) from by rw[mrC,mrC,List.map_append];rfl,show k.mr.length+1=(k.mr++[s]).length from by simp]at hs
 rw[show k.mr.length+1=(k.mr++[s]).length from by simp]at ha
 refine ST 2 ha hs (λa w ha hs=>?_)
 refine RN 0 ha hs λa ha=>?_
 replace hs:=RefS.fold hs B { k with mr:=k.mr++[s] } { A with adM:=ad17,cM:=c17 }
 refine CL 1 ha hs (ref_held hs hkm) λa w ha hs=>?_
 refine RT 0 ha hs ?_
 exact⟨rfl,by rw[markK,if_pos hl];exact hs.sub⟩
theorem ref_press (hs:St W w (RefS B k::L))(hk:WC k):Calls Tryz.prog 61 #[pt B.cb,.int .u8 (x.toNat:Nat)] w λr w'=>r=.returned (.int .i64 (pressK x k).1)∧St W w' (RefS B (pressK x k).2::L):=by
 have hme:k.me<k.ls.length:=by rw[hk.ls];exact hk.me
 have hhd:=hk.headt
 have hfr:=hk.frontt
 obtain⟨A0,hs⟩:=RefS.open hs
 refine EN Tryz.func61 Tryz.ntmps61 rfl rfl λa ha=>?_
 refine IF 9 ha hs (λhc0 a ha=>?_) λhc0 a ha=>?_
 ·
  replace hs:=RefS.fold hs B k A0
  refine RT 2 ha hs ?_
  exact⟨by rw[pressK,if_pos hc0],by rw[pressK,if_pos hc0];exact hs⟩
 have hcl:¬ k.cl=true:=by rw[hc0];decide
 replace hs:=RefS.fold hs B k A0
 refine CL 2 ha hs (ref_head hs hk) λa w ha hs=>?_
 refine IF 2 ha hs (λhc1 a ha=>?_) λhc1 a ha=>?_
 ·
  refine RT 2 ha hs ?_
  exact⟨by rw[pressK,if_neg hcl,if_pos (by omega)],by rw[pressK,if_neg hcl,if_pos (by omega)];exact hs⟩
 refine DWC 1 (λw0 w'=>w'.cell? ⟨B.cb,4,none⟩=some (.int .i64 k.window)) [1,3,4] [0,2,5,6,7,8,3009,1001,1003,1004,10,11] ha hs λa w ha hs hH=>?_
 have hC:w.cell? ⟨B.cb,4,none⟩=some (.int .i64 k.window):=by
   obtain⟨A1,hs⟩:=RefS.open hs
   exact hs.rd1 (b:=B.cb) rfl
 refine RH 6 ha hs hH hC λa ha=>?_
 refine QH ha (λw hc=>ld1 ha (hc)) hC λa ha=>?_
 refine RH 0 ha hs hH hC λa ha=>?_
 refine CL 0 ha hs (ref_head hs hk) λa w ha hs=>?_
 replace hC:=hH.at w (by obtain⟨A1,hs⟩:=RefS.open hs;exact hs.rd1 (b:=B.cb) rfl)
 refine RH 0 ha hs hH hC λa ha=>?_
 refine CL 0 ha hs (ref_frontC hs hk) λa w ha hs=>?_
 replace hC:=hH.at w (by obtain⟨A1,hs⟩:=RefS.open hs;exact hs.rd1 (b:=B.cb) rfl)
 refine RH 3 ha hs hH hC λa ha=>?_
 refine IF 0 ha hs (λhc2 a ha=>?_) λhc2 a ha=>?_
 ·
  refine RT 2 ha hs ?_
  exact⟨by rw[pressK,if_neg hcl,if_neg (by omega),if_pos (by omega)],by rw[pressK,if_neg hcl,if_neg (by omega),if_pos (by omega)];exact hs⟩
 refine RN 1 ha hs λa ha=>?_
 obtain⟨A,hs⟩:=RefS.open hs
 have hpk:pressK x k=(0,{ k with ls:=k.ls.set k.me (k.ls.getD k.me []++[x]) }):=by rw[pressK,if_neg hcl,if_neg (by omega),if_neg (by omega)]
 rw[hpk]
 obtain⟨xs,hxs,hs⟩:=RLn.open (hs.pick (RLn B.lb B.lo B.cL k.ls))
 have hxl:xs.length=k.ls.length:=by rw[← hxs,prx_len]
 obtain⟨y,hy⟩:∃ y,xs[k.me]?=some y:=⟨_,List.getElem?_eq_getElem (by omega)⟩
 obtain⟨hyi,hye⟩:=List.getElem?_eq_some_iff.1 hy
 have hyl:k.ls.getD k.me []=y.2.2:=by rw[← hxs,prx_get hy]
 refine DWO 0 [8] [0,1,2,4,5,6,7,3003,1008,9,10] ha hs λa w ha hs hH hC=>?_
 refine RH 11 ha hs hH hC λa ha=>?_
 refine RN 5 ha hs λa ha=>?_
 refine SS ha (ld1 ha ((hs.slRdAt B.lb B.lo (by omega)) k.me (bbv y) (by rw[List.getElem?_map,hy];rfl))) λa ha=>?_
 rw[bbv]at ha
 replace hs:=(hs.pick (All bbo xs)).allOut hyi
 rw[hye]at hs
 have hs0:St W w (Sl 5 1 y.1 y.2.2.length y.2.1 (bc y.2.2)::_):=hs
 clear hs
 have hs:=hs0
 clear hs0
 have hhl:y.2.2.length≤1000:=by rw[← hyl];exact hhd
 refine RN 1 ha hs λa ha=>?_
 refine st_buildSlice ha rfl hs Tryz.underlying22 Ty.t5 rfl rfl rfl rfl (by decide) (by decide) λb43 a w ha hs ho=>?_
 clear ho
 refine RN 0 ha hs λa ha=>?_
 refine st_append ha rfl hs Tryz.underlying22 Ty.t5 rfl rfl hs.rdAll rfl (bc_one [x]) (by decide) (by decide) (by omega) λad44 c44 a w ha hs=>?_
 rw[show bc y.2.2++_=bc (y.2.2++[x]) from (bc_app _ [_]).symm,show y.2.2.length+1=(y.2.2++[x]).length from by simp]at hs
 rw[show y.2.2.length+1=(y.2.2++[x]).length from by simp]at ha
 refine RN 2 ha hs λa ha=>?_
 refine st_storeS (off:=B.lo) (k:=k.me) ha rfl hs Ty.t22 rfl (by omega) (by rw[List.length_map];exact hyi) λa w ha hs=>?_
 rw[show (xs.map bbv).set k.me (.slice ad44 (y.2.2++[x]).length c44)=(xs.set k.me (ad44,c44,y.2.2++[x])).map bbv from map_set1 _ rfl]at hs
 have h2:=hs.arr (M:=[Sl 5 1 ad44 (y.2.2++[x]).length c44 (bc (y.2.2++[x])),All bbo (xs.eraseIdx k.me)])
 simp only[List.cons_append,List.nil_append]at h2
 have h3:=St.allPut (f:=bbo) (x:=(ad44,c44,y.2.2++[x])) hyi h2
 have hls:(k.ls.set k.me (k.ls.getD k.me []++[x])).length=k.ls.length:=List.length_set
 have hpr:prx (xs.set k.me (ad44,c44,y.2.2++[x]))=k.ls.set k.me (k.ls.getD k.me []++[x]):=by rw[prx,map_set,← prx,hxs,hyl]
 have h4:=h3.arr (M:=[Sl 128 1 (some ⟨B.lb,B.lo,none⟩) k.ls.length B.cL ((xs.set k.me (ad44,c44,y.2.2++[x])).map bbv),All bbo (xs.set k.me (ad44,c44,y.2.2++[x]))])
 simp only[List.cons_append,List.nil_append]at h4
 rw[show k.ls.length=(k.ls.set k.me (k.ls.getD k.me []++[x])).length from hls.symm]at h4
 have h5:=RLn.close (xs:=xs.set k.me (ad44,c44,y.2.2++[x])) h4 hpr
 clear hs
 have hs:=h5
 rw[show rcC k B A=rcC { k with ls:=k.ls.set k.me (k.ls.getD k.me []++[x]) } B A from by simp only[rcC,List.length_set]]at hs
 refine RT 2 ha hs ?_
 exact⟨rfl,(RefS.fold hs B { k with ls:=k.ls.set k.me (k.ls.getD k.me []++[x]) } A).sub⟩
end
section
variable {W w:World}{L R:List SP}{n c m lb lo i f cl:Nat}{ad:Option Addr}{ls:List (List UInt8)}{k:Ks}{A:RcA}{B:RcB}{x:UInt8}{bs:List UInt8}
theorem RLn.out {ls:List (List UInt8)}(hs:St W w (RLn lb lo c ls::L))(hi:i<ls.length):∃ (xs:List BBx) (y:BBx),prx xs=ls∧xs[i]?=some y∧y.2.2=ls.getD i [] ∧
   St W w (Sl 5 1 y.1 y.2.2.length y.2.1 (bc y.2.2)::Sl 128 1 (some ⟨lb,lo,none⟩) ls.length c (xs.map bbv)::All bbo (xs.eraseIdx i)::L):=by
 obtain⟨xs,hxs,hs⟩:=RLn.open hs
 have hxl:xs.length=ls.length:=by rw[← hxs,prx_len]
 have hy:xs[i]?=some xs[i]:=List.getElem?_eq_getElem (by omega)
 refine⟨xs,xs[i],hxs,hy,by have:=prx_get hy;rw[hxs]at this;exact this.symm,?_⟩
 have h1:=(hs.pick (All bbo xs)).allOut (i:=i) (by omega)
 exact St.sub (M:=bbo xs[i]::Sl 128 1 (some ⟨lb,lo,none⟩) ls.length c (xs.map bbv)::All bbo (xs.eraseIdx i)::L) h1
theorem RLn.put {xs:List BBx}{q:List UInt8}(hs:St W w L)(hxs:prx xs=ls)(hi:i<ls.length)[kk:Arr L [Sl 5 1 ad q.length cl (bc q),Sl 128 1 (some ⟨lb,lo,none⟩) ls.length c ((xs.map bbv).set i (.slice ad q.length cl)),All bbo (xs.eraseIdx i)] R]:St W w (RLn lb lo c (ls.set i q)::R):=by
 have hxl:xs.length=ls.length:=by rw[← hxs,prx_len]
 have h1:St W w (bbo (ad,cl,q)::Sl 128 1 (some ⟨lb,lo,none⟩) ls.length c ((xs.map bbv).set i (.slice ad q.length cl))::All bbo (xs.eraseIdx i)::R):=hs.perm kk.perm
 rw[show (xs.map bbv).set i (.slice ad q.length cl)=(xs.set i (ad,cl,q)).map bbv from map_set1 _ rfl]at h1
 have h2:=St.allPut (f:=bbo) (x:=(ad,cl,q)) (l:=xs) (i:=i) (by omega) (h1.sub (M:=bbo (ad,cl,q)::All bbo (xs.eraseIdx i)::Sl 128 1 (some ⟨lb,lo,none⟩) ls.length c ((xs.set i (ad,cl,q)).map bbv)::R))
 refine RLn.close (xs:=xs.set i (ad,cl,q)) ?_ (by rw[prx,map_set,← prx,hxs])
 rw[List.length_set]
 exact h2.perm (List.Perm.swap _ _ _)
theorem RLn.hd (hs:St W w (RLn lb lo c ls::L))(hi:i<ls.length):∃ ad c',w.cell? ⟨lb,lo+i,none⟩=some (.slice ad (ls.getD i []).length c'):=by
 obtain⟨xs,y,h1,h2,h3,h4⟩:=RLn.out hs hi
 rw[← h3]
 exact⟨_,_,(h4.tail.slRdAt lb lo (by omega)) i (bbv y) (by rw[List.getElem?_map,h2];rfl)⟩
theorem ref_put {f:Nat}(hs:St W w (RLn lb lo c ls::L))(hi:i<ls.length)(hl:(ls.getD i []).length≤1000)(hb:bs.length≤65536)(hp:∀ w',St W w' L→RdB w' ad bs.length bs) :
   Calls Tryz.prog 156 #[.pointer (some ⟨lb,lo+i,none⟩),.int .i64 f,.slice ad bs.length cl] w λr w'=>∃ n er:Int,r=.returned (.tuple #[.int .i64 n,.int .i64 er])∧St W w' (RLn lb lo c (ls.set i (putLn (ls.getD i []) f bs))::L):=by
 obtain⟨l0,hl0⟩:∃ l0,l0=ls.getD i []:=⟨_,rfl⟩
 rw[← hl0]
 rw[← hl0]at hl
 have hls0:ls.set i l0=ls:=by rw[hl0];exact set_sameQ
 refine EN Tryz.func156 Tryz.ntmps156 rfl rfl λa ha=>?_
 refine RN 7 ha hs λa ha=>?_
 rw[decide_eq_false (by omega)]at ha
 refine RN 3 ha hs λa ha=>?_
 obtain⟨adh,ch,hch⟩:=RLn.hd hs hi
 rw[← hl0]at hch
 refine RN 4 ha hs λa ha=>?_
 refine SS ha (ld1 ha (hch)) λa ha=>?_
 refine IF 2 ha hs (λhc1 a ha=>?_) λhc1 a ha=>?_
 ·
  refine RT 3 ha hs ?_
  exact⟨_,_,rfl,by rw[putLn,if_pos (by omega),hls0];exact hs⟩
 refine RN 5 ha hs λa ha=>?_
 have hfl:f≤l0.length:=by omega
 refine wp_loop_ghost (λμ a w=>∃ (j:Nat) (q:List UInt8),(μ=bs.length-j∧j≤bs.length∧q=l0++(bs.drop (l0.length-f)).take (j-(l0.length-f))∧q.length=l0.length+(j-(l0.length-f))∧q.length≤1000)∧Fr a 57 [(0,.pointer (some ⟨lb,lo+i,none⟩)),(1,.int .i64 f),(2,.slice ad bs.length cl),(8,.int .i64 (j-(l0.length-f):Nat)),(9,.int .i64 j)]∧St W w (RLn lb lo c (ls.set i q)::L)) (bs.length) (⟨0,l0,⟨rfl,by omega,by rw[Nat.zero_sub,List.take_zero,List.append_nil],by omega,hl⟩,by rw[Nat.zero_sub];exact ha.keep [0,1,2,8,9],by rw[hls0];exact hs⟩) ?_
 clear ha hs
 rintro μ a w ⟨j,q,⟨rfl,hj,hq,hql,hq1⟩,ha,hs⟩
 refine IF 6 ha hs (λhc2 a ha=>?_) λhc2 a ha=>?_
 ·
  have hi2:i<(ls.set i q).length:=by rw[List.length_set];exact hi
  have hgd:(ls.set i q).getD i []=q:=by rw[List.getD_eq_getElem?_getD,List.getElem?_set_self hi];rfl
  obtain⟨adq,cq,hcy⟩:=RLn.hd hs hi2
  rw[hgd]at hcy
  have hjb:j<bs.length:=by omega
  have hpg:=(hp _ hs.tail).get (by omega)
  refine RN 7 ha hs λa ha=>?_
  refine SS ha (ld1 ha (hcy)) λa ha=>?_
  refine IF 4 ha hs (λhc3 a ha=>?_) λhc3 a ha=>?_
  ·
   refine RN 3 ha hs λa ha=>?_
   exact⟨bs.length-(j+1),by omega,j+1,q,⟨rfl,by omega,by rw[hq,show j-(l0.length-f)=0 from by omega,show j+1-(l0.length-f)=0 from by omega],by omega,hq1⟩,by rw[show j+1-(l0.length-f)=j-(l0.length-f) from by omega];exact ha.keep [0,1,2,8,9],hs⟩
  refine RN 5 ha hs λa ha=>?_
  refine SS ha (ld1 ha (hcy)) λa ha=>?_
  refine IF 2 ha hs (λhc4 a ha=>?_) λhc4 a ha=>?_
  ·
   refine RT 4 ha hs ?_
   exact⟨_,_,rfl,by rw[putLn,if_neg (by omega),show 1000-l0.length=j-(l0.length-f) from by omega,← hq];exact hs⟩
  refine DWO 1 [8,9] [0,1,2,3,5,6,7,3004,1008,1009,1010,11,12,1013] ha hs λa w ha hs hH hC=>?_
  obtain⟨bb,oo,rfl,_⟩:=hpg
  obtain⟨xs,y,hxs,hy,hyq,hs⟩:=RLn.out hs hi2
  rw[hgd]at hyq
  rw[hyq]at hs
  have hcw:=(hs.tail.slRdAt lb lo (by omega)) i (bbv y) (by rw[List.getElem?_map,hy];rfl)
  rw[bbv,hyq]at hcw
  have hrb:=(hp _ hs.tail.tail.tail).rd (by omega)
  have hxi:i<xs.length:=(List.getElem?_eq_some_iff.1 hy).1
  replace hH:=Hd.old hs
  refine RH 7 ha hs hH hC λa ha=>?_
  refine QH ha (λw hc=>ld1 ha (hc.cell (hcw))) hC λa ha=>?_
  refine RH 0 ha hs hH hC λa ha=>?_
  refine SS ha (ld1 ha (hrb j _ (bc_at hjb))) λa ha=>?_
  refine RH 0 ha hs hH hC λa ha=>?_
  refine st_buildSlice ha rfl hs Tryz.underlying22 Ty.t5 rfl rfl rfl rfl (by decide) (by decide) λb50 a w ha hs ho=>?_
  replace hC:=hC.trans ho
  clear ho
  refine RH 0 ha hs hH hC λa ha=>?_
  refine st_append ha rfl hs Tryz.underlying22 Ty.t5 rfl rfl hs.rdAll rfl (bc_one [bs[j]]) (by decide) (by decide) (by omega) λad51 c51 a w ha hs=>?_
  rw[show bc q++_=bc (q++[bs[j]]) from (bc_app _ [_]).symm,show q.length+1=(q++[bs[j]]).length from by simp]at hs
  rw[show q.length+1=(q++[bs[j]]).length from by simp]at ha
  refine RN 2 ha hs λa ha=>?_
  refine st_storeS (off:=lo) (k:=i) ha rfl hs Ty.t22 rfl (by omega) (by rw[List.length_map];exact hxi) λa w ha hs=>?_
  refine RN 6 ha hs λa ha=>?_
  have h9:=RLn.put (q:=q++[bs[j]]) (ad:=ad51) (cl:=c51) (lb:=lb) (lo:=lo) (c:=c) hs hxs hi2
  rw[List.set_set]at h9
  exact⟨bs.length-(j+1),by omega,j+1,q++[bs[j]],⟨rfl,by omega,by rw[putLn_add hfl hjb (by omega) (by omega),← hq],by rw[List.length_append,List.length_singleton];omega,by rw[List.length_append,List.length_singleton];omega⟩,by rw[show ((j+1-(l0.length-f):Nat):Int)=((j-(l0.length-f):Nat):Int)+1 from by omega];exact ha.keep [0,1,2,8,9],h9.sub⟩
 refine RT 4 ha hs ?_
 obtain rfl:j=bs.length:=by omega
 refine⟨_,_,rfl,?_⟩
 rw[putLn,if_neg (by omega),List.take_of_length_le (by rw[List.length_drop];omega)]
 rw[hq,List.take_of_length_le (by rw[List.length_drop];omega)]at hs
 exact hs
abbrev rc0 (n me:Nat)(id:Int)(delay window:Nat)(guess order branches workers room:Int)(b8 b11 b14 b17:Nat)(ad:Option Addr)(i c:Nat):List Value:=[.int .i64 n,.int .i64 me,.int .i64 id,.int .i64 delay,.int .i64 window,.int .i64 guess,.int .i64 order,.int .i64 branches,.int .i64 workers,.int .i64 room,.slice ad i c,.int .i64 0,.slice (some ⟨b8,0,none⟩) n n,.slice (some ⟨b11,0,none⟩) n n,.slice (some ⟨b14,0,none⟩) n n,.slice (some ⟨b17,0,none⟩) n n,.slice none 0 0,.slice none 0 0,.bool false]
theorem heC_new (n d:Nat):heC (List.replicate n (pe0 d))=ints .i64 n (λ_=>0):=by rw[heC,List.map_replicate];exact rep_ints _ _ _
theorem haC_new (n d:Nat):haC (List.replicate n (pe0 d))=ints .i64 n (λ_=>d):=by rw[haC,List.map_replicate];exact rep_ints _ _ _
theorem apC_new (n d:Nat):apC (List.replicate n (pe0 d))=List.replicate n (.bool false):=by rw[apC,List.map_replicate];rfl
theorem wdC_new (n d:Nat):rows wdC (List.replicate n (pe0 d))=rows (λ_:Pe=>[Value.int .i64 0,.int .u32 0]) (List.replicate n (pe0 0)):=by
 induction n with
 | zero=>rfl
 | succ n ih=>rw[List.replicate_succ,List.replicate_succ,rows_cons,rows_cons,ih];rfl
theorem bc_zero (d:Nat):List.replicate d (Value.int .u8 0)=bc (List.replicate d 0):=by rw[bc,List.map_replicate];rfl
theorem ref_new {n me delay window:Nat}{id guess order branches workers room:Int}(hs:St W w L)(h:mayCf ⟨n,me,id,delay,window,guess,order,branches,workers,room⟩) :
   Calls Tryz.prog 59 #[.agg (cfC ⟨n,me,id,delay,window,guess,order,branches,workers,room⟩).toArray] w λr w'=>∃ B:RcB,r=.returned (pt B.cb)∧St W w' (RefS B (newK ⟨n,me,id,delay,window,guess,order,branches,workers,room⟩)::L):=by
 obtain⟨⟨h1,h2,h3⟩,⟨h4,h5,h6,h7⟩,h8,h9,h10,h11⟩:=h
 simp only[inI] at *
 refine EN Tryz.func59 Tryz.ntmps59 rfl rfl λa ha=>?_
 refine BX 1 ha hs λb1 a w ha hs=>?_
 change St W w (blk b1 27 [.int .i64 n,.int .i64 me,.int .i64 id,.int .i64 delay,.int .i64 window,.int .i64 guess,.int .i64 order,.int .i64 branches,.int .i64 workers,.int .i64 room]::_) at hs
 refine RN 1 ha hs λa ha=>?_
 refine wp_seq_cut (M:=λa w=>∃ b8 b11 b14 b17 b19:Nat,Fr a 48 [(1,pt b1),(3,pt b19)]∧St W w (blk b19 83 [.int .i64 n,.int .i64 me,.int .i64 id,.int .i64 delay,.int .i64 window,.int .i64 guess,.int .i64 order,.int .i64 branches,.int .i64 workers,.int .i64 room,.slice none 0 0,.int .i64 0,.slice (some ⟨b8,0,none⟩) n n,.slice (some ⟨b11,0,none⟩) n n,.slice (some ⟨b14,0,none⟩) n n,.slice (some ⟨b17,0,none⟩) n n,.slice none 0 0,.slice none 0 0,.bool false]::blk b8 3 (List.replicate n (.int .i64 0))::blk b11 3 (List.replicate n (.int .i64 0))::blk b14 244 (rows (λ_:Pe=>[Value.int .i64 0,.int .u32 0]) (List.replicate n (pe0 0)))::blk b17 4 (List.replicate n (.bool false))::blk b1 27 [.int .i64 n,.int .i64 me,.int .i64 id,.int .i64 delay,.int .i64 window,.int .i64 guess,.int .i64 order,.int .i64 branches,.int .i64 workers,.int .i64 room]::L)) ?_ ?_
 ·
  refine DWO 0 [2,3,5,6,8,9,11,12] [1,4,7,10,3000,3002,3005,3008,3011,2003,2006,2009,1012,13,1014,15] ha hs λa w ha hs hH hC=>?_
  refine RH 9 ha hs hH hC λa ha=>?_
  refine DN [(3,[2006,2009,1012,13,1014,15]),(6,[2003,2009,1012,13,1014,15]),(9,[2003,2006,1012,13,1014,15]),(12,[2003,2006,1009,13,1014,15])] (by kernel_rfl) rfl ⟨⟨_,rfl,?_⟩,⟨_,rfl,?_⟩,⟨_,rfl,?_⟩,⟨_,rfl,?_⟩,trivial⟩
  ·
   refine RH 0 ha hs hH hC λa ha=>?_
   refine st_makeSlice ha rfl hs Tryz.underlying52 Ty.t3 rfl (by omega) (by omega) λb8 a w ha hs ho=>?_
   replace hC:=hC.trans ho
   clear ho
   rw[made1 _ rfl]at hs
   refine RH 0 ha hs hH hC λa ha=>?_
   refine DN [(6,[2009,1012,13,1014,15]),(9,[2006,1012,13,1014,15]),(12,[2006,1009,13,1014,15])] (by kernel_rfl) rfl ⟨⟨_,rfl,?_⟩,⟨_,rfl,?_⟩,⟨_,rfl,?_⟩,trivial⟩
   ·
    refine RH 0 ha hs hH hC λa ha=>?_
    refine st_makeSlice ha rfl hs Tryz.underlying52 Ty.t3 rfl (by omega) (by omega) λb11 a w ha hs ho=>?_
    replace hC:=hC.trans ho
    clear ho
    rw[made1 _ rfl]at hs
    refine RH 0 ha hs hH hC λa ha=>?_
    refine DN [(9,[1012,13,1014,15]),(12,[1009,13,1014,15])] (by kernel_rfl) rfl ⟨⟨_,rfl,?_⟩,⟨_,rfl,?_⟩,trivial⟩
    ·
     refine RH 0 ha hs hH hC λa ha=>?_
     refine st_makeSlice ha rfl hs Tryz.underlying78 Ty.t244 rfl (by omega) (by omega) λb14 a w ha hs ho=>?_
     replace hC:=hC.trans ho
     clear ho
     rw[made2]at hs
     refine RH 0 ha hs hH hC λa ha=>?_
     refine st_makeSlice ha rfl hs Tryz.underlying79 Ty.t4 rfl (by omega) (by omega) λb17 a w ha hs ho=>?_
     replace hC:=hC.trans ho
     clear ho
     rw[made1 _ rfl]at hs
     refine RH 1 ha hs hH hC λa ha=>?_
     refine st_box ha rfl hs rfl λb19 a w ha hs ho=>?_
     replace hC:=hC.trans ho
     clear ho
     refine RH 1 ha hs hH hC λa ha=>?_
     exact⟨b8,b11,b14,b17,b19,ha.keep [1,3],hs.sub⟩
    refine RH 0 ha hs hH hC λa ha=>?_
    refine st_makeSlice ha rfl hs Tryz.underlying79 Ty.t4 rfl (by omega) (by omega) λb17 a w ha hs ho=>?_
    replace hC:=hC.trans ho
    clear ho
    rw[made1 _ rfl]at hs
    refine RH 0 ha hs hH hC λa ha=>?_
    refine st_makeSlice ha rfl hs Tryz.underlying78 Ty.t244 rfl (by omega) (by omega) λb14 a w ha hs ho=>?_
    replace hC:=hC.trans ho
    clear ho
    rw[made2]at hs
    refine RH 1 ha hs hH hC λa ha=>?_
    refine st_box ha rfl hs rfl λb19 a w ha hs ho=>?_
    replace hC:=hC.trans ho
    clear ho
    refine RH 1 ha hs hH hC λa ha=>?_
    exact⟨b8,b11,b14,b17,b19,ha.keep [1,3],hs.sub⟩
   ·
    refine RH 0 ha hs hH hC λa ha=>?_
    refine st_makeSlice ha rfl hs Tryz.underlying78 Ty.t244 rfl (by omega) (by omega) λb14 a w ha hs ho=>?_
    replace hC:=hC.trans ho
    clear ho
    rw[made2]at hs
    refine RH 0 ha hs hH hC λa ha=>?_
    refine DN [(6,[1012,13,1014,15]),(12,[1006,13,1014,15])] (by kernel_rfl) rfl ⟨⟨_,rfl,?_⟩,⟨_,rfl,?_⟩,trivial⟩
    ·
     refine RH 0 ha hs hH hC λa ha=>?_
     refine st_makeSlice ha rfl hs Tryz.underlying52 Ty.t3 rfl (by omega) (by omega) λb11 a w ha hs ho=>?_
     replace hC:=hC.trans ho
     clear ho
     rw[made1 _ rfl]at hs
     refine RH 0 ha hs hH hC λa ha=>?_
     refine st_makeSlice ha rfl hs Tryz.underlying79 Ty.t4 rfl (by omega) (by omega) λb17 a w ha hs ho=>?_
     replace hC:=hC.trans ho
     clear ho
     rw[made1 _ rfl]at hs
     refine RH 1 ha hs hH hC λa ha=>?_
     refine st_box ha rfl hs rfl λb19 a w ha hs ho=>?_
     replace hC:=hC.trans ho
     clear ho
     refine RH 1 ha hs hH hC λa ha=>?_
     exact⟨b8,b11,b14,b17,b19,ha.keep [1,3],hs.sub⟩
    refine RH 0 ha hs hH hC λa ha=>?_
    refine st_makeSlice ha rfl hs Tryz.underlying79 Ty.t4 rfl (by omega) (by omega) λb17 a w ha hs ho=>?_
    replace hC:=hC.trans ho
    clear ho
    rw[made1 _ rfl]at hs
    refine RH 0 ha hs hH hC λa ha=>?_
    refine st_makeSlice ha rfl hs Tryz.underlying52 Ty.t3 rfl (by omega) (by omega) λb11 a w ha hs ho=>?_
    replace hC:=hC.trans ho
    clear ho
    rw[made1 _ rfl]at hs
    refine RH 1 ha hs hH hC λa ha=>?_
    refine st_box ha rfl hs rfl λb19 a w ha hs ho=>?_
    replace hC:=hC.trans ho
    clear ho
    refine RH 1 ha hs hH hC λa ha=>?_
    exact⟨b8,b11,b14,b17,b19,ha.keep [1,3],hs.sub⟩
   refine RH 0 ha hs hH hC λa ha=>?_
   refine st_makeSlice ha rfl hs Tryz.underlying79 Ty.t4 rfl (by omega) (by omega) λb17 a w ha hs ho=>?_
   replace hC:=hC.trans ho
   clear ho
   rw[made1 _ rfl]at hs
   refine RH 0 ha hs hH hC λa ha=>?_
   refine DN [(6,[1009,13,1014,15]),(9,[1006,13,1014,15])] (by kernel_rfl) rfl ⟨⟨_,rfl,?_⟩,⟨_,rfl,?_⟩,trivial⟩
   ·
    refine RH 0 ha hs hH hC λa ha=>?_
    refine st_makeSlice ha rfl hs Tryz.underlying52 Ty.t3 rfl (by omega) (by omega) λb11 a w ha hs ho=>?_
    replace hC:=hC.trans ho
    clear ho
    rw[made1 _ rfl]at hs
    refine RH 0 ha hs hH hC λa ha=>?_
    refine st_makeSlice ha rfl hs Tryz.underlying78 Ty.t244 rfl (by omega) (by omega) λb14 a w ha hs ho=>?_
    replace hC:=hC.trans ho
    clear ho
    rw[made2]at hs
    refine RH 1 ha hs hH hC λa ha=>?_
    refine st_box ha rfl hs rfl λb19 a w ha hs ho=>?_
    replace hC:=hC.trans ho
    clear ho
    refine RH 1 ha hs hH hC λa ha=>?_
    exact⟨b8,b11,b14,b17,b19,ha.keep [1,3],hs.sub⟩
   refine RH 0 ha hs hH hC λa ha=>?_
   refine st_makeSlice ha rfl hs Tryz.underlying78 Ty.t244 rfl (by omega) (by omega) λb14 a w ha hs ho=>?_
   replace hC:=hC.trans ho
   clear ho
   rw[made2]at hs
   refine RH 0 ha hs hH hC λa ha=>?_
   refine st_makeSlice ha rfl hs Tryz.underlying52 Ty.t3 rfl (by omega) (by omega) λb11 a w ha hs ho=>?_
   replace hC:=hC.trans ho
   clear ho
   rw[made1 _ rfl]at hs
   refine RH 1 ha hs hH hC λa ha=>?_
   refine st_box ha rfl hs rfl λb19 a w ha hs ho=>?_
   replace hC:=hC.trans ho
   clear ho
   refine RH 1 ha hs hH hC λa ha=>?_
   exact⟨b8,b11,b14,b17,b19,ha.keep [1,3],hs.sub⟩
  ·
   refine RH 0 ha hs hH hC λa ha=>?_
   refine st_makeSlice ha rfl hs Tryz.underlying52 Ty.t3 rfl (by omega) (by omega) λb11 a w ha hs ho=>?_
   replace hC:=hC.trans ho
   clear ho
   rw[made1 _ rfl]at hs
   refine RH 0 ha hs hH hC λa ha=>?_
   refine DN [(3,[2009,1012,13,1014,15]),(9,[2003,1012,13,1014,15]),(12,[2003,1009,13,1014,15])] (by kernel_rfl) rfl ⟨⟨_,rfl,?_⟩,⟨_,rfl,?_⟩,⟨_,rfl,?_⟩,trivial⟩
   ·
    refine RH 0 ha hs hH hC λa ha=>?_
    refine st_makeSlice ha rfl hs Tryz.underlying52 Ty.t3 rfl (by omega) (by omega) λb8 a w ha hs ho=>?_
    replace hC:=hC.trans ho
    clear ho
    rw[made1 _ rfl]at hs
    refine RH 0 ha hs hH hC λa ha=>?_
    refine DN [(9,[1012,13,1014,15]),(12,[1009,13,1014,15])] (by kernel_rfl) rfl ⟨⟨_,rfl,?_⟩,⟨_,rfl,?_⟩,trivial⟩
    ·
     refine RH 0 ha hs hH hC λa ha=>?_
     refine st_makeSlice ha rfl hs Tryz.underlying78 Ty.t244 rfl (by omega) (by omega) λb14 a w ha hs ho=>?_
     replace hC:=hC.trans ho
     clear ho
     rw[made2]at hs
     refine RH 0 ha hs hH hC λa ha=>?_
     refine st_makeSlice ha rfl hs Tryz.underlying79 Ty.t4 rfl (by omega) (by omega) λb17 a w ha hs ho=>?_
     replace hC:=hC.trans ho
     clear ho
     rw[made1 _ rfl]at hs
     refine RH 1 ha hs hH hC λa ha=>?_
     refine st_box ha rfl hs rfl λb19 a w ha hs ho=>?_
     replace hC:=hC.trans ho
     clear ho
     refine RH 1 ha hs hH hC λa ha=>?_
     exact⟨b8,b11,b14,b17,b19,ha.keep [1,3],hs.sub⟩
    refine RH 0 ha hs hH hC λa ha=>?_
    refine st_makeSlice ha rfl hs Tryz.underlying79 Ty.t4 rfl (by omega) (by omega) λb17 a w ha hs ho=>?_
    replace hC:=hC.trans ho
    clear ho
    rw[made1 _ rfl]at hs
    refine RH 0 ha hs hH hC λa ha=>?_
    refine st_makeSlice ha rfl hs Tryz.underlying78 Ty.t244 rfl (by omega) (by omega) λb14 a w ha hs ho=>?_
    replace hC:=hC.trans ho
    clear ho
    rw[made2]at hs
    refine RH 1 ha hs hH hC λa ha=>?_
    refine st_box ha rfl hs rfl λb19 a w ha hs ho=>?_
    replace hC:=hC.trans ho
    clear ho
    refine RH 1 ha hs hH hC λa ha=>?_
    exact⟨b8,b11,b14,b17,b19,ha.keep [1,3],hs.sub⟩
   ·
    refine RH 0 ha hs hH hC λa ha=>?_
    refine st_makeSlice ha rfl hs Tryz.underlying78 Ty.t244 rfl (by omega) (by omega) λb14 a w ha hs ho=>?_
    replace hC:=hC.trans ho
    clear ho
    rw[made2]at hs
    refine RH 0 ha hs hH hC λa ha=>?_
    refine DN [(3,[1012,13,1014,15]),(12,[1003,13,1014,15])] (by kernel_rfl) rfl ⟨⟨_,rfl,?_⟩,⟨_,rfl,?_⟩,trivial⟩
    ·
     refine RH 0 ha hs hH hC λa ha=>?_
     refine st_makeSlice ha rfl hs Tryz.underlying52 Ty.t3 rfl (by omega) (by omega) λb8 a w ha hs ho=>?_
     replace hC:=hC.trans ho
     clear ho
     rw[made1 _ rfl]at hs
     refine RH 0 ha hs hH hC λa ha=>?_
     refine st_makeSlice ha rfl hs Tryz.underlying79 Ty.t4 rfl (by omega) (by omega) λb17 a w ha hs ho=>?_
     replace hC:=hC.trans ho
     clear ho
     rw[made1 _ rfl]at hs
     refine RH 1 ha hs hH hC λa ha=>?_
     refine st_box ha rfl hs rfl λb19 a w ha hs ho=>?_
     replace hC:=hC.trans ho
     clear ho
     refine RH 1 ha hs hH hC λa ha=>?_
     exact⟨b8,b11,b14,b17,b19,ha.keep [1,3],hs.sub⟩
    refine RH 0 ha hs hH hC λa ha=>?_
    refine st_makeSlice ha rfl hs Tryz.underlying79 Ty.t4 rfl (by omega) (by omega) λb17 a w ha hs ho=>?_
    replace hC:=hC.trans ho
    clear ho
    rw[made1 _ rfl]at hs
    refine RH 0 ha hs hH hC λa ha=>?_
    refine st_makeSlice ha rfl hs Tryz.underlying52 Ty.t3 rfl (by omega) (by omega) λb8 a w ha hs ho=>?_
    replace hC:=hC.trans ho
    clear ho
    rw[made1 _ rfl]at hs
    refine RH 1 ha hs hH hC λa ha=>?_
    refine st_box ha rfl hs rfl λb19 a w ha hs ho=>?_
    replace hC:=hC.trans ho
    clear ho
    refine RH 1 ha hs hH hC λa ha=>?_
    exact⟨b8,b11,b14,b17,b19,ha.keep [1,3],hs.sub⟩
   refine RH 0 ha hs hH hC λa ha=>?_
   refine st_makeSlice ha rfl hs Tryz.underlying79 Ty.t4 rfl (by omega) (by omega) λb17 a w ha hs ho=>?_
   replace hC:=hC.trans ho
   clear ho
   rw[made1 _ rfl]at hs
   refine RH 0 ha hs hH hC λa ha=>?_
   refine DN [(3,[1009,13,1014,15]),(9,[1003,13,1014,15])] (by kernel_rfl) rfl ⟨⟨_,rfl,?_⟩,⟨_,rfl,?_⟩,trivial⟩
   ·
    refine RH 0 ha hs hH hC λa ha=>?_
    refine st_makeSlice ha rfl hs Tryz.underlying52 Ty.t3 rfl (by omega) (by omega) λb8 a w ha hs ho=>?_
    replace hC:=hC.trans ho
    clear ho
    rw[made1 _ rfl]at hs
    refine RH 0 ha hs hH hC λa ha=>?_
    refine st_makeSlice ha rfl hs Tryz.underlying78 Ty.t244 rfl (by omega) (by omega) λb14 a w ha hs ho=>?_
    replace hC:=hC.trans ho
    clear ho
    rw[made2]at hs
    refine RH 1 ha hs hH hC λa ha=>?_
    refine st_box ha rfl hs rfl λb19 a w ha hs ho=>?_
    replace hC:=hC.trans ho
    clear ho
    refine RH 1 ha hs hH hC λa ha=>?_
    exact⟨b8,b11,b14,b17,b19,ha.keep [1,3],hs.sub⟩
   refine RH 0 ha hs hH hC λa ha=>?_
   refine st_makeSlice ha rfl hs Tryz.underlying78 Ty.t244 rfl (by omega) (by omega) λb14 a w ha hs ho=>?_
   replace hC:=hC.trans ho
   clear ho
   rw[made2]at hs
   refine RH 0 ha hs hH hC λa ha=>?_
   refine st_makeSlice ha rfl hs Tryz.underlying52 Ty.t3 rfl (by omega) (by omega) λb8 a w ha hs ho=>?_
   replace hC:=hC.trans ho
   clear ho
   rw[made1 _ rfl]at hs
   refine RH 1 ha hs hH hC λa ha=>?_
   refine st_box ha rfl hs rfl λb19 a w ha hs ho=>?_
   replace hC:=hC.trans ho
   clear ho
   refine RH 1 ha hs hH hC λa ha=>?_
   exact⟨b8,b11,b14,b17,b19,ha.keep [1,3],hs.sub⟩
  ·
   refine RH 0 ha hs hH hC λa ha=>?_
   refine st_makeSlice ha rfl hs Tryz.underlying78 Ty.t244 rfl (by omega) (by omega) λb14 a w ha hs ho=>?_
   replace hC:=hC.trans ho
   clear ho
   rw[made2]at hs
   refine RH 0 ha hs hH hC λa ha=>?_
   refine DN [(3,[2006,1012,13,1014,15]),(6,[2003,1012,13,1014,15]),(12,[2003,1006,13,1014,15])] (by kernel_rfl) rfl ⟨⟨_,rfl,?_⟩,⟨_,rfl,?_⟩,⟨_,rfl,?_⟩,trivial⟩
   ·
    refine RH 0 ha hs hH hC λa ha=>?_
    refine st_makeSlice ha rfl hs Tryz.underlying52 Ty.t3 rfl (by omega) (by omega) λb8 a w ha hs ho=>?_
    replace hC:=hC.trans ho
    clear ho
    rw[made1 _ rfl]at hs
    refine RH 0 ha hs hH hC λa ha=>?_
    refine DN [(6,[1012,13,1014,15]),(12,[1006,13,1014,15])] (by kernel_rfl) rfl ⟨⟨_,rfl,?_⟩,⟨_,rfl,?_⟩,trivial⟩
    ·
     refine RH 0 ha hs hH hC λa ha=>?_
     refine st_makeSlice ha rfl hs Tryz.underlying52 Ty.t3 rfl (by omega) (by omega) λb11 a w ha hs ho=>?_
     replace hC:=hC.trans ho
     clear ho
     rw[made1 _ rfl]at hs
     refine RH 0 ha hs hH hC λa ha=>?_
     refine st_makeSlice ha rfl hs Tryz.underlying79 Ty.t4 rfl (by omega) (by omega) λb17 a w ha hs ho=>?_
     replace hC:=hC.trans ho
     clear ho
     rw[made1 _ rfl]at hs
     refine RH 1 ha hs hH hC λa ha=>?_
     refine st_box ha rfl hs rfl λb19 a w ha hs ho=>?_
     replace hC:=hC.trans ho
     clear ho
     refine RH 1 ha hs hH hC λa ha=>?_
     exact⟨b8,b11,b14,b17,b19,ha.keep [1,3],hs.sub⟩
    refine RH 0 ha hs hH hC λa ha=>?_
    refine st_makeSlice ha rfl hs Tryz.underlying79 Ty.t4 rfl (by omega) (by omega) λb17 a w ha hs ho=>?_
    replace hC:=hC.trans ho
    clear ho
    rw[made1 _ rfl]at hs
    refine RH 0 ha hs hH hC λa ha=>?_
    refine st_makeSlice ha rfl hs Tryz.underlying52 Ty.t3 rfl (by omega) (by omega) λb11 a w ha hs ho=>?_
    replace hC:=hC.trans ho
    clear ho
    rw[made1 _ rfl]at hs
    refine RH 1 ha hs hH hC λa ha=>?_
    refine st_box ha rfl hs rfl λb19 a w ha hs ho=>?_
    replace hC:=hC.trans ho
    clear ho
    refine RH 1 ha hs hH hC λa ha=>?_
    exact⟨b8,b11,b14,b17,b19,ha.keep [1,3],hs.sub⟩
   ·
    refine RH 0 ha hs hH hC λa ha=>?_
    refine st_makeSlice ha rfl hs Tryz.underlying52 Ty.t3 rfl (by omega) (by omega) λb11 a w ha hs ho=>?_
    replace hC:=hC.trans ho
    clear ho
    rw[made1 _ rfl]at hs
    refine RH 0 ha hs hH hC λa ha=>?_
    refine DN [(3,[1012,13,1014,15]),(12,[1003,13,1014,15])] (by kernel_rfl) rfl ⟨⟨_,rfl,?_⟩,⟨_,rfl,?_⟩,trivial⟩
    ·
     refine RH 0 ha hs hH hC λa ha=>?_
     refine st_makeSlice ha rfl hs Tryz.underlying52 Ty.t3 rfl (by omega) (by omega) λb8 a w ha hs ho=>?_
     replace hC:=hC.trans ho
     clear ho
     rw[made1 _ rfl]at hs
     refine RH 0 ha hs hH hC λa ha=>?_
     refine st_makeSlice ha rfl hs Tryz.underlying79 Ty.t4 rfl (by omega) (by omega) λb17 a w ha hs ho=>?_
     replace hC:=hC.trans ho
     clear ho
     rw[made1 _ rfl]at hs
     refine RH 1 ha hs hH hC λa ha=>?_
     refine st_box ha rfl hs rfl λb19 a w ha hs ho=>?_
     replace hC:=hC.trans ho
     clear ho
     refine RH 1 ha hs hH hC λa ha=>?_
     exact⟨b8,b11,b14,b17,b19,ha.keep [1,3],hs.sub⟩
    refine RH 0 ha hs hH hC λa ha=>?_
    refine st_makeSlice ha rfl hs Tryz.underlying79 Ty.t4 rfl (by omega) (by omega) λb17 a w ha hs ho=>?_
    replace hC:=hC.trans ho
    clear ho
    rw[made1 _ rfl]at hs
    refine RH 0 ha hs hH hC λa ha=>?_
    refine st_makeSlice ha rfl hs Tryz.underlying52 Ty.t3 rfl (by omega) (by omega) λb8 a w ha hs ho=>?_
    replace hC:=hC.trans ho
    clear ho
    rw[made1 _ rfl]at hs
    refine RH 1 ha hs hH hC λa ha=>?_
    refine st_box ha rfl hs rfl λb19 a w ha hs ho=>?_
    replace hC:=hC.trans ho
    clear ho
    refine RH 1 ha hs hH hC λa ha=>?_
    exact⟨b8,b11,b14,b17,b19,ha.keep [1,3],hs.sub⟩
   refine RH 0 ha hs hH hC λa ha=>?_
   refine st_makeSlice ha rfl hs Tryz.underlying79 Ty.t4 rfl (by omega) (by omega) λb17 a w ha hs ho=>?_
   replace hC:=hC.trans ho
   clear ho
   rw[made1 _ rfl]at hs
   refine RH 0 ha hs hH hC λa ha=>?_
   refine DN [(3,[1006,13,1014,15]),(6,[1003,13,1014,15])] (by kernel_rfl) rfl ⟨⟨_,rfl,?_⟩,⟨_,rfl,?_⟩,trivial⟩
   ·
    refine RH 0 ha hs hH hC λa ha=>?_
    refine st_makeSlice ha rfl hs Tryz.underlying52 Ty.t3 rfl (by omega) (by omega) λb8 a w ha hs ho=>?_
    replace hC:=hC.trans ho
    clear ho
    rw[made1 _ rfl]at hs
    refine RH 0 ha hs hH hC λa ha=>?_
    refine st_makeSlice ha rfl hs Tryz.underlying52 Ty.t3 rfl (by omega) (by omega) λb11 a w ha hs ho=>?_
    replace hC:=hC.trans ho
    clear ho
    rw[made1 _ rfl]at hs
    refine RH 1 ha hs hH hC λa ha=>?_
    refine st_box ha rfl hs rfl λb19 a w ha hs ho=>?_
    replace hC:=hC.trans ho
    clear ho
    refine RH 1 ha hs hH hC λa ha=>?_
    exact⟨b8,b11,b14,b17,b19,ha.keep [1,3],hs.sub⟩
   refine RH 0 ha hs hH hC λa ha=>?_
   refine st_makeSlice ha rfl hs Tryz.underlying52 Ty.t3 rfl (by omega) (by omega) λb11 a w ha hs ho=>?_
   replace hC:=hC.trans ho
   clear ho
   rw[made1 _ rfl]at hs
   refine RH 0 ha hs hH hC λa ha=>?_
   refine st_makeSlice ha rfl hs Tryz.underlying52 Ty.t3 rfl (by omega) (by omega) λb8 a w ha hs ho=>?_
   replace hC:=hC.trans ho
   clear ho
   rw[made1 _ rfl]at hs
   refine RH 1 ha hs hH hC λa ha=>?_
   refine st_box ha rfl hs rfl λb19 a w ha hs ho=>?_
   replace hC:=hC.trans ho
   clear ho
   refine RH 1 ha hs hH hC λa ha=>?_
   exact⟨b8,b11,b14,b17,b19,ha.keep [1,3],hs.sub⟩
  refine RH 0 ha hs hH hC λa ha=>?_
  refine st_makeSlice ha rfl hs Tryz.underlying79 Ty.t4 rfl (by omega) (by omega) λb17 a w ha hs ho=>?_
  replace hC:=hC.trans ho
  clear ho
  rw[made1 _ rfl]at hs
  refine RH 0 ha hs hH hC λa ha=>?_
  refine DN [(3,[2006,1009,13,1014,15]),(6,[2003,1009,13,1014,15]),(9,[2003,1006,13,1014,15])] (by kernel_rfl) rfl ⟨⟨_,rfl,?_⟩,⟨_,rfl,?_⟩,⟨_,rfl,?_⟩,trivial⟩
  ·
   refine RH 0 ha hs hH hC λa ha=>?_
   refine st_makeSlice ha rfl hs Tryz.underlying52 Ty.t3 rfl (by omega) (by omega) λb8 a w ha hs ho=>?_
   replace hC:=hC.trans ho
   clear ho
   rw[made1 _ rfl]at hs
   refine RH 0 ha hs hH hC λa ha=>?_
   refine DN [(6,[1009,13,1014,15]),(9,[1006,13,1014,15])] (by kernel_rfl) rfl ⟨⟨_,rfl,?_⟩,⟨_,rfl,?_⟩,trivial⟩
   ·
    refine RH 0 ha hs hH hC λa ha=>?_
    refine st_makeSlice ha rfl hs Tryz.underlying52 Ty.t3 rfl (by omega) (by omega) λb11 a w ha hs ho=>?_
    replace hC:=hC.trans ho
    clear ho
    rw[made1 _ rfl]at hs
    refine RH 0 ha hs hH hC λa ha=>?_
    refine st_makeSlice ha rfl hs Tryz.underlying78 Ty.t244 rfl (by omega) (by omega) λb14 a w ha hs ho=>?_
    replace hC:=hC.trans ho
    clear ho
    rw[made2]at hs
    refine RH 1 ha hs hH hC λa ha=>?_
    refine st_box ha rfl hs rfl λb19 a w ha hs ho=>?_
    replace hC:=hC.trans ho
    clear ho
    refine RH 1 ha hs hH hC λa ha=>?_
    exact⟨b8,b11,b14,b17,b19,ha.keep [1,3],hs.sub⟩
   refine RH 0 ha hs hH hC λa ha=>?_
   refine st_makeSlice ha rfl hs Tryz.underlying78 Ty.t244 rfl (by omega) (by omega) λb14 a w ha hs ho=>?_
   replace hC:=hC.trans ho
   clear ho
   rw[made2]at hs
   refine RH 0 ha hs hH hC λa ha=>?_
   refine st_makeSlice ha rfl hs Tryz.underlying52 Ty.t3 rfl (by omega) (by omega) λb11 a w ha hs ho=>?_
   replace hC:=hC.trans ho
   clear ho
   rw[made1 _ rfl]at hs
   refine RH 1 ha hs hH hC λa ha=>?_
   refine st_box ha rfl hs rfl λb19 a w ha hs ho=>?_
   replace hC:=hC.trans ho
   clear ho
   refine RH 1 ha hs hH hC λa ha=>?_
   exact⟨b8,b11,b14,b17,b19,ha.keep [1,3],hs.sub⟩
  ·
   refine RH 0 ha hs hH hC λa ha=>?_
   refine st_makeSlice ha rfl hs Tryz.underlying52 Ty.t3 rfl (by omega) (by omega) λb11 a w ha hs ho=>?_
   replace hC:=hC.trans ho
   clear ho
   rw[made1 _ rfl]at hs
   refine RH 0 ha hs hH hC λa ha=>?_
   refine DN [(3,[1009,13,1014,15]),(9,[1003,13,1014,15])] (by kernel_rfl) rfl ⟨⟨_,rfl,?_⟩,⟨_,rfl,?_⟩,trivial⟩
   ·
    refine RH 0 ha hs hH hC λa ha=>?_
    refine st_makeSlice ha rfl hs Tryz.underlying52 Ty.t3 rfl (by omega) (by omega) λb8 a w ha hs ho=>?_
    replace hC:=hC.trans ho
    clear ho
    rw[made1 _ rfl]at hs
    refine RH 0 ha hs hH hC λa ha=>?_
    refine st_makeSlice ha rfl hs Tryz.underlying78 Ty.t244 rfl (by omega) (by omega) λb14 a w ha hs ho=>?_
    replace hC:=hC.trans ho
    clear ho
    rw[made2]at hs
    refine RH 1 ha hs hH hC λa ha=>?_
    refine st_box ha rfl hs rfl λb19 a w ha hs ho=>?_
    replace hC:=hC.trans ho
    clear ho
    refine RH 1 ha hs hH hC λa ha=>?_
    exact⟨b8,b11,b14,b17,b19,ha.keep [1,3],hs.sub⟩
   refine RH 0 ha hs hH hC λa ha=>?_
   refine st_makeSlice ha rfl hs Tryz.underlying78 Ty.t244 rfl (by omega) (by omega) λb14 a w ha hs ho=>?_
   replace hC:=hC.trans ho
   clear ho
   rw[made2]at hs
   refine RH 0 ha hs hH hC λa ha=>?_
   refine st_makeSlice ha rfl hs Tryz.underlying52 Ty.t3 rfl (by omega) (by omega) λb8 a w ha hs ho=>?_
   replace hC:=hC.trans ho
   clear ho
   rw[made1 _ rfl]at hs
   refine RH 1 ha hs hH hC λa ha=>?_
   refine st_box ha rfl hs rfl λb19 a w ha hs ho=>?_
   replace hC:=hC.trans ho
   clear ho
   refine RH 1 ha hs hH hC λa ha=>?_
   exact⟨b8,b11,b14,b17,b19,ha.keep [1,3],hs.sub⟩
  refine RH 0 ha hs hH hC λa ha=>?_
  refine st_makeSlice ha rfl hs Tryz.underlying78 Ty.t244 rfl (by omega) (by omega) λb14 a w ha hs ho=>?_
  replace hC:=hC.trans ho
  clear ho
  rw[made2]at hs
  refine RH 0 ha hs hH hC λa ha=>?_
  refine DN [(3,[1006,13,1014,15]),(6,[1003,13,1014,15])] (by kernel_rfl) rfl ⟨⟨_,rfl,?_⟩,⟨_,rfl,?_⟩,trivial⟩
  ·
   refine RH 0 ha hs hH hC λa ha=>?_
   refine st_makeSlice ha rfl hs Tryz.underlying52 Ty.t3 rfl (by omega) (by omega) λb8 a w ha hs ho=>?_
   replace hC:=hC.trans ho
   clear ho
   rw[made1 _ rfl]at hs
   refine RH 0 ha hs hH hC λa ha=>?_
   refine st_makeSlice ha rfl hs Tryz.underlying52 Ty.t3 rfl (by omega) (by omega) λb11 a w ha hs ho=>?_
   replace hC:=hC.trans ho
   clear ho
   rw[made1 _ rfl]at hs
   refine RH 1 ha hs hH hC λa ha=>?_
   refine st_box ha rfl hs rfl λb19 a w ha hs ho=>?_
   replace hC:=hC.trans ho
   clear ho
   refine RH 1 ha hs hH hC λa ha=>?_
   exact⟨b8,b11,b14,b17,b19,ha.keep [1,3],hs.sub⟩
  refine RH 0 ha hs hH hC λa ha=>?_
  refine st_makeSlice ha rfl hs Tryz.underlying52 Ty.t3 rfl (by omega) (by omega) λb11 a w ha hs ho=>?_
  replace hC:=hC.trans ho
  clear ho
  rw[made1 _ rfl]at hs
  refine RH 0 ha hs hH hC λa ha=>?_
  refine st_makeSlice ha rfl hs Tryz.underlying52 Ty.t3 rfl (by omega) (by omega) λb8 a w ha hs ho=>?_
  replace hC:=hC.trans ho
  clear ho
  rw[made1 _ rfl]at hs
  refine RH 1 ha hs hH hC λa ha=>?_
  refine st_box ha rfl hs rfl λb19 a w ha hs ho=>?_
  replace hC:=hC.trans ho
  clear ho
  refine RH 1 ha hs hH hC λa ha=>?_
  exact⟨b8,b11,b14,b17,b19,ha.keep [1,3],hs.sub⟩
 clear ha;(try clear hs)
 rintro a w ⟨b8,b11,b14,b17,b19,ha,hs⟩
 refine RN 3 ha hs λa ha=>?_
 replace hs:=hs.sl0 128 1 none
 replace hs:=St.allNil (f:=bbo) hs
 rw[rep_ints]at hs
 refine wp_loop_ghost (λμ a w=>∃ (i:Nat) (xs:List BBx) (adL:Option Addr) (cL:Nat),(μ=n-i∧i≤n∧prx xs=List.replicate i (List.replicate delay 0))∧Fr a 48 [(1,pt b1),(3,pt b19),(4,.int .i64 i)]∧St W w (blk b19 83 (rc0 n me id delay window guess order branches workers room b8 b11 b14 b17 adL i cL)::Sl 128 1 adL i cL (xs.map bbv)::All bbo xs::blk b8 3 (ints .i64 n (λ_=>0))::blk b11 3 (ints .i64 n (λj=>if j<i then delay else 0))::blk b14 244 (rows (λ_:Pe=>[Value.int .i64 0,.int .u32 0]) (List.replicate n (pe0 0)))::blk b17 4 (List.replicate n (.bool false))::blk b1 27 [.int .i64 n,.int .i64 me,.int .i64 id,.int .i64 delay,.int .i64 window,.int .i64 guess,.int .i64 order,.int .i64 branches,.int .i64 workers,.int .i64 room]::L)) (n) (⟨0,[],none,0,⟨rfl,by omega,rfl⟩,ha.keep [1,3,4],(hs.sub:St W w (blk b19 83 (rc0 n me id delay window guess order branches workers room b8 b11 b14 b17 none 0 0)::Sl 128 1 none 0 0 []::All bbo []::blk b8 3 (ints .i64 n (λ_=>0))::blk b11 3 (ints .i64 n (λ_=>0))::blk b14 244 (rows (λ_:Pe=>[Value.int .i64 0,.int .u32 0]) (List.replicate n (pe0 0)))::blk b17 4 (List.replicate n (.bool false))::blk b1 27 [.int .i64 n,.int .i64 me,.int .i64 id,.int .i64 delay,.int .i64 window,.int .i64 guess,.int .i64 order,.int .i64 branches,.int .i64 workers,.int .i64 room]::L))⟩) ?_
 clear ha hs
 rintro μ a w ⟨i,xs,adL,cL,⟨rfl,hi,hxs⟩,ha,hs⟩
 refine IF 6 ha hs (λhc0 a ha=>?_) λhc0 a ha=>?_
 ·
  refine DWO 2 [6,7,8,9] [0,1,2,3,5,3004,1006,1007,1008,1009,1010,11,12,1013] ha hs λa w ha hs hH hC=>?_
  refine RH 7 ha hs hH hC λa ha=>?_
  refine st_makeSlice ha rfl hs Tryz.underlying22 Ty.t5 rfl (by omega) (by omega) λb33 a w ha hs ho=>?_
  replace hC:=hC.trans ho
  clear ho
  rw[made1 _ rfl,bc_zero]at hs
  replace hs:=hs.slWhole (m:=delay) (sz:=1) (by rw[bc_len,List.length_replicate,Nat.mul_one])
  refine RH 1 ha hs hH hC λa ha=>?_
  refine st_buildSlice ha rfl hs Tryz.underlying77 Ty.t128 rfl rfl rfl rfl (by decide) (by decide) λb35 a w ha hs ho=>?_
  replace hC:=hC.trans ho
  clear ho
  refine RH 0 ha hs hH hC λa ha=>?_
  refine st_append ha rfl hs Tryz.underlying77 Ty.t128 rfl rfl hs.rdAll rfl (by simp[Value.oneCell']) (by decide) (by decide) (by omega) λad36 c36 a w ha hs=>?_
  rw[show List.map bbv xs++_=List.map bbv (xs++[(some (⟨b33,0,none⟩:Addr),delay,List.replicate delay 0)]) from by rw[List.map_append,List.map_singleton,bbv,List.length_replicate];rfl]at hs
  refine ST 2 ha hs (λa w ha hs=>?_)
  refine RN 0 ha hs λa ha=>?_
  refine DWO 0 [6] [0,1,2,4,5,3003,1006,7,1008] ha hs λa w ha hs hH hC=>?_
  refine RH 8 ha hs hH hC λa ha=>?_
  refine ST 0 ha hs (λa w ha hs=>?_) (hlt:=(by rw[ints_len];omega))
  rw[ints_set,ints_congr (g:=λj=>if j=i then (delay:Int) else if j<i then (delay:Int) else 0) (g':=λj=>if j<i+1 then (delay:Int) else 0) (λj _=>by
    by_cases h1:j=i
    · subst h1;simp
    · by_cases h2:j<i
      · simp[h1,h2,show j<i+1 from by omega]
      · simp[h1,h2,show ¬ j<i+1 from by omega])]at hs
  refine RN 3 ha hs λa ha=>?_
  have hs2:=St.allPush (f:=bbo) (x:=(some (⟨b33,0,none⟩:Addr),delay,List.replicate delay 0)) (by
    show St _ _ (Sl 5 1 (some (⟨b33,0,none⟩:Addr)) (List.replicate delay (0:UInt8)).length delay (bc (List.replicate delay 0))::_)
    rw[List.length_replicate]
    exact hs.sub (M:=Sl 5 1 (some ⟨b33,0,none⟩) delay delay (bc (List.replicate delay 0))::All bbo xs::blk b19 83 (rc0 n me id delay window guess order branches workers room b8 b11 b14 b17 ad36 (i+1) c36)::Sl 128 1 ad36 (i+1) c36 ((xs++[(some (⟨b33,0,none⟩:Addr),delay,List.replicate delay 0)]).map bbv)::blk b8 3 (ints .i64 n (λ_=>0))::blk b11 3 (ints .i64 n (λj=>if j<i+1 then (delay:Int) else 0))::blk b14 244 (rows (λ_:Pe=>[Value.int .i64 0,.int .u32 0]) (List.replicate n (pe0 0)))::blk b17 4 (List.replicate n (.bool false))::blk b1 27 [.int .i64 n,.int .i64 me,.int .i64 id,.int .i64 delay,.int .i64 window,.int .i64 guess,.int .i64 order,.int .i64 branches,.int .i64 workers,.int .i64 room]::L))
  exact⟨n-(i+1),by omega,i+1,xs++[(some (⟨b33,0,none⟩:Addr),delay,List.replicate delay 0)],ad36,c36,⟨rfl,by omega,by rw[prx,List.map_append,← prx,hxs,List.replicate_succ'];rfl⟩,ha.keep [1,3,4],hs2.sub⟩
 refine RT 3 ha hs ?_
 obtain rfl:i=n:=by omega
 obtain⟨lb,lo,rfl,_⟩:=(hs.pick (Sl 128 1 adL i cL (xs.map bbv))).slRd adL (by omega)
 rw[ints_congr (g:=λj=>if j<i then (delay:Int) else 0) (g':=λ_=>(delay:Int)) (λj hj=>by simp[hj])]at hs
 refine⟨⟨b19,lb,lo,cL,b8,b11,b14,b17⟩,rfl,?_⟩
 have hll:(newK ⟨i,me,id,delay,window,guess,order,branches,workers,room⟩).ls.length=i:=by simp[newK]
 have h9:=hs.sub (M:=Sl 128 1 (some ⟨lb,lo,none⟩) i cL (xs.map bbv)::All bbo xs::blk b19 83 (rc0 i me id delay window guess order branches workers room b8 b11 b14 b17 (some ⟨lb,lo,none⟩) i cL)::blk b8 3 (ints .i64 i (λ_=>0))::blk b11 3 (ints .i64 i (λ_=>(delay:Int)))::blk b14 244 (rows (λ_:Pe=>[Value.int .i64 0,.int .u32 0]) (List.replicate i (pe0 0)))::blk b17 4 (List.replicate i (.bool false))::L)
 have h8:=RLn.close (ls:=List.replicate i (List.replicate delay 0)) (by rw[List.length_replicate];exact h9) hxs
 replace h8:=St.sl0 (St.sl0 h8 68 1 none) 223 3 none
 refine St.shut (M:=[_,_,_,_,_,_,_,_]) (A:=RefS _ _) ?_ (λ_ h=>⟨⟨none,0,none,0⟩,h⟩)
 have hps:(newK ⟨i,me,id,delay,window,guess,order,branches,workers,room⟩).ps=List.replicate i (pe0 delay):=by simp[newK]
 rw[rcC,hll,hps,heC_new,haC_new,apC_new,wdC_new]
 exact h8.sub (M:=blk b19 83 (rc0 i me id delay window guess order branches workers room b8 b11 b14 b17 (some ⟨lb,lo,none⟩) i cL)::RLn lb lo cL (List.replicate i (List.replicate delay 0))::blk b8 3 (ints .i64 i (λ_=>0))::blk b11 3 (ints .i64 i (λ_=>(delay:Int)))::blk b14 244 (rows (λ_:Pe=>[Value.int .i64 0,.int .u32 0]) (List.replicate i (pe0 0)))::blk b17 4 (List.replicate i (.bool false))::Sl 68 1 none 0 0 []::Sl 223 3 none 0 0 []::L)
end
section
variable {W w:World}{L L':List SP}{lb lo cl:Nat}{ls:List (List UInt8)}{k:Ks}{A:RcA}{B:RcB}
theorem RefS.cbX (hs:St W w (RefS B k::L)):∃ (A:RcA) (D:SP),St W w (blk B.cb 83 (rcC k B A)::D::L)∧∀ (w':World) (L':List SP) (nw:Nat) (cl:Bool),St W w' (blk B.cb 83 (rcC { k with now:=nw,cl:=cl } B A)::D::L')→St W w' (RefS B { k with now:=nw,cl:=cl }::L'):=by
 obtain⟨A,hs⟩:=RefS.open hs
 have h1:St W w ([RLn B.lb B.lo B.cL k.ls,blk B.hb 3 (heC k.ps),blk B.ab 3 (haC k.ps),blk B.wb 244 (rows wdC k.ps),blk B.xb 4 (apC k.ps),Sl 68 1 A.adM k.mr.length A.cM (mrC k.mr),Sl 223 3 A.adE k.ev.length A.cE (rows rawC k.ev)]++(blk B.cb 83 (rcC k B A)::L)):=hs.sub (M:=RLn B.lb B.lo B.cL k.ls::blk B.hb 3 (heC k.ps)::blk B.ab 3 (haC k.ps)::blk B.wb 244 (rows wdC k.ps)::blk B.xb 4 (apC k.ps)::Sl 68 1 A.adM k.mr.length A.cM (mrC k.mr)::Sl 223 3 A.adE k.ev.length A.cE (rows rawC k.ev)::blk B.cb 83 (rcC k B A)::L)
 refine⟨A,λh=>sepL [RLn B.lb B.lo B.cL k.ls,blk B.hb 3 (heC k.ps),blk B.ab 3 (haC k.ps),blk B.wb 244 (rows wdC k.ps),blk B.xb 4 (apC k.ps),Sl 68 1 A.adM k.mr.length A.cM (mrC k.mr),Sl 223 3 A.adE k.ev.length A.cE (rows rawC k.ev)] h,?_,λw' L' nw cl hs=>?_⟩
 · exact (St.shut (A:=λh=>sepL [RLn B.lb B.lo B.cL k.ls,blk B.hb 3 (heC k.ps),blk B.ab 3 (haC k.ps),blk B.wb 244 (rows wdC k.ps),blk B.xb 4 (apC k.ps),Sl 68 1 A.adM k.mr.length A.cM (mrC k.mr),Sl 223 3 A.adE k.ev.length A.cE (rows rawC k.ev)] h) h1 λ_ h=>h).perm (List.Perm.swap _ _ _)
 · have h2:St W w' (RLn B.lb B.lo B.cL k.ls::blk B.hb 3 (heC k.ps)::blk B.ab 3 (haC k.ps)::blk B.wb 244 (rows wdC k.ps)::blk B.xb 4 (apC k.ps)::Sl 68 1 A.adM k.mr.length A.cM (mrC k.mr)::Sl 223 3 A.adE k.ev.length A.cE (rows rawC k.ev)::blk B.cb 83 (rcC { k with now:=nw,cl:=cl } B A)::L'):=(hs.perm (List.Perm.swap _ _ _)).open (M:=[_,_,_,_,_,_,_]) λ_ h=>h
   exact RefS.fold h2 B { k with now:=nw,cl:=cl } A
end
section
variable {W w:World}{L R:List SP}{n c lb lo i f cl to:Nat}{ad:Option Addr}{ls:List (List UInt8)}{k:Ks}{A:RcA}{B:RcB}{bs:List UInt8}{e:Evt}
theorem max_int {a b:Nat}:((max a b:Nat):Int)=max (a:Int) (b:Int):=by omega
theorem rcC_ls {l:List (List UInt8)}(h:l.length=k.ls.length)(ps:List Pe):rcC { k with ls:=l,ps:=ps } B A=rcC k B A:=by simp only[rcC,h]
theorem RefS.foldL (hs:St W w L)(B:RcB)(k:Ks)(A:RcA){l:List (List UInt8)}(h:l.length=k.ls.length)[kk:Arr L [blk B.cb 83 (rcC k B A),RLn B.lb B.lo B.cL l,blk B.hb 3 (heC k.ps),blk B.ab 3 (haC k.ps),blk B.wb 244 (rows wdC k.ps),blk B.xb 4 (apC k.ps),Sl 68 1 A.adM k.mr.length A.cM (mrC k.mr),Sl 223 3 A.adE k.ev.length A.cE (rows rawC k.ev)] R]:St W w (RefS B { k with ls:=l }::R):=by
 have h1:=hs.perm kk.perm
 rw[← rcC_ls (l:=l) h k.ps]at h1
 exact St.shut (M:=[_,_,_,_,_,_,_,_]) h1 λ_ h=>⟨A,h⟩
set_option maxHeartbeats 2000000 in
theorem ref_receive (hs:St W w (RefS B k::L))(hk:WC k)(hh:held k)(hb:bs.length≤65536)(hc:bs.length≤c)(hp:∀ w',St W w' L→RdB w' ad bs.length bs) :
   Calls Tryz.prog 93 #[pt B.cb,.slice ad bs.length c] w λr w'=>r=.returned (.int .i64 (recvK bs k).1)∧St W w' (RefS B (recvK bs k).2::L):=by
 have hn:=hk.n
 obtain⟨A0,hs⟩:=RefS.open hs
 refine EN Tryz.func93 Tryz.ntmps93 rfl rfl λa ha=>?_
 refine IF 8 ha hs (λhc0 a ha=>?_) λhc0 a ha=>?_
 ·
  replace hs:=RefS.fold hs B k A0
  refine RT 2 ha hs ?_
  exact⟨by rw[recv_cl hc0],by rw[recv_cl hc0];exact hs.sub⟩
 replace hs:=RefS.fold hs B k A0
 refine CLX 2 ha hs (refUnpacket_spec (hs.pick (RefS B k)) hb hc (λw' hw=>hp w' hw.tail)) ?_
 clear ha hs
 rintro e w ⟨p,adP,cP,ok,rfl,hdt,hdf,hs⟩
 refine⟨_,rfl,λa ha=>?_⟩
 refine AL 3 ha hs λb5 a w ha hs=>?_
 refine SA 0 ha hs λa w ha hs=>?_
 refine RN 3 ha hs λa ha=>?_
 obtain⟨A,hs⟩:=RefS.open (hs.pick (RefS B k))
 refine DWO 0 [9,19,29] [0,1,2,3,5,6,7,8,3004,1009,10,11,12,13,15,16,17,18,3014,1019,20,21,22,23,25,26,27,28,3024,1029,30,31] ha hs λa w ha hs hH hC=>?_
 refine RH 3 ha hs hH hC λa ha=>?_
 refine ha.by (s:=18) (λhg2 ha=>?_) (λhg2 ha=>?_)
 ·
  have hok:ok=false:=by revert hg2;cases ok <;> simp
  have hdn:decO bs=none:=hdf hok
  refine RH 29 ha hs hH hC λa ha=>?_
  refine RT 3 ha hs ?_
  rw[recv_none hc0 hdn];exact⟨rfl,(RefS.fold hs B k A).sub⟩
 have hok:ok=true:=by revert hg2;cases ok <;> simp
 have hds:decO bs=some p:=hdt hok
 obtain⟨hmay,hps,_⟩:=decO_is hds
 have hfr0:=hmay.1
 refine RH 10 ha hs hH hC λa ha=>?_
 refine ha.by (s:=28) (λhg12 ha=>?_) (λhg12 ha=>?_)
 ·
  refine RH 19 ha hs hH hC λa ha=>?_
  refine RT 3 ha hs ?_
  rw[recv_other hc0 hds (.inl hg12)];exact⟨rfl,(RefS.fold hs B k A).sub⟩
 refine RH 10 ha hs hH hC λa ha=>?_
 refine ha.by (s:=38) (λhg22 ha=>?_) (λhg22 ha=>?_)
 ·
  refine RH 9 ha hs hH hC λa ha=>?_
  refine RT 3 ha hs ?_
  rw[recv_other hc0 hds (.inr (.inl hg22))];exact⟨rfl,(RefS.fold hs B k A).sub⟩
 refine RH 9 ha hs hH hC λa ha=>?_
 refine IF 0 ha hs (λhc1 a ha=>?_) λhc1 a ha=>?_
 ·
  refine RT 2 ha hs ?_
  rw[recv_other hc0 hds (.inr (.inr hc1))];exact⟨rfl,(RefS.fold hs B k A).sub⟩
 have hno:¬ (p.to≠k.me∨(k.n:Int)≤p.from'∨p.id≠k.id):=by
   rintro (h | h | h)
   · exact h hg12
   · omega
   · exact h hc1
 rw[recv_yes hc0 hds hno]
 clear hdt hdf hok
 obtain⟨fr,hfr⟩:=Int.eq_ofNat_of_zero_le hfr0.1
 have hfn:fr<k.n:=by omega
 have hfl:fr<k.ls.length:=by rw[hk.ls];exact hfn
 have hfp:fr<k.ps.length:=by rw[hk.ps];exact hfn
 have hfm:fr≠k.me:=by have:=hmay.2.2.1;omega
 have hpt:=hk.pet hfn
 have hft:p.from'.toNat=fr:=by omega
 have hat:=peK_at hfp
 refine DWO 1 [5,9] [0,1,2,4,6,7,8,3003,3005,1009,10,1011] ha hs λa w ha hs hH hC=>?_
 refine RH 9 ha hs hH hC λa ha=>?_
 rw[hfr]at ha
 refine RH 2 ha hs hH hC λa ha=>?_
 refine ST 0 ha hs (λa w ha hs=>?_) (hlt:=(by rw[heC,List.length_map];exact hfp))
 rw[heC_set { peK k fr with heard:=k.now } rfl,← haC_keep hat { peK k fr with heard:=k.now } rfl,← wdC_keep hat { peK k fr with heard:=k.now } rfl rfl,← apC_keep hat { peK k fr with heard:=k.now } rfl]at hs
 have hk2:=hk.peer (q:={ peK k fr with heard:=k.now }) hfn ⟨hpt.1,hpt.2.2⟩ (Nat.le_refl _) rfl
 have hpe3:(k.ps.set fr { peK k fr with heard:=k.now })[fr]?=some { peK k fr with heard:=k.now }:=List.getElem?_set_self hfp
 replace hs:=RefS.fold hs B { k with ps:=k.ps.set fr { peK k fr with heard:=k.now } } A
 refine RN 0 ha hs λa ha=>?_
 refine wp_seq_cut (M:=λa w=>∃ k4:Ks,(k4=(if p.kind=2 then { k with ps:=k.ps.set fr { peK k fr with heard:=k.now },ev:=k.ev++[(1,fr,0)],cl:=true } else { k with ls:=k.ls.set fr (putLn (k.ls.getD fr []) p.first.toNat p.press),ps:=k.ps.set fr (hearP k.now (headK k) p (peK k fr)) })∧WC k4)∧Fr a 135 [(0,pt B.cb)]∧St W w (RefS B k4::L)) ?_ ?_
 ·
  refine IF 4 ha hs (λhc2 a ha=>?_) λhc2 a ha=>?_
  ·
   refine RN 4 ha hs λa ha=>?_
   rw[hfr]at ha
   refine CL 0 ha hs (ref_event (kd:=1) (pl:=fr) (fr:=0) hs (by have:=hk.evl;show k.ev.length≤100;omega)) λa w ha hs=>?_
   refine RN 0 ha hs λa ha=>?_
   obtain⟨A2,D,hs,hD⟩:=RefS.cbX hs
   refine ST 3 ha hs (λa w ha hs=>?_)
   refine RN 0 ha hs λa ha=>?_
   replace hs:=hD _ _ k.now true hs
   exact⟨_,⟨by rw[if_pos hc2],by have h9:=(hk.hear hmay hps (by omega) hc0).1;rw[hearK,if_pos hc2,hft]at h9;exact h9⟩,ha.keep [0],hs.sub⟩
  refine RN 1 ha hs λa ha=>?_
  have hk1:frP p.first∧frP p.ack∧frP p.frame∧p.press.length≤32:=by
    rcases hmay.2.2.2.2 with h | h
    · exact h.2
    · exact absurd h.1 hc2
  simp only[frP]at hk1
  obtain⟨fi,hfi⟩:=Int.eq_ofNat_of_zero_le hk1.1.1
  obtain⟨ak,hak⟩:=Int.eq_ofNat_of_zero_le hk1.2.1.1
  obtain⟨fm,hfm2⟩:=Int.eq_ofNat_of_zero_le hk1.2.2.1.1
  have hfi2:p.first.toNat=fi:=by omega
  obtain⟨A2,hs⟩:=RefS.open hs
  refine DWO 0 [5,8,10] [0,1,2,4,7,9,3003,3005,6,3008,1010,1011] ha hs λa w ha hs hH hC=>?_
  refine RH 8 ha hs hH hC λa ha=>?_
  rw[hfr]at ha
  refine RH 2 ha hs hH hC λa ha=>?_
  rw[hfi]at ha
  refine RH 1 ha hs hH hC λa ha=>?_
  refine CL2 0 ha hs (ref_put (f:=fi) (bs:=p.press) (hs.pick (RLn B.lb B.lo B.cL k.ls)) hfl (hk.lnt hfn) (by omega) (λw' hw=>(hw.pick (Sl 5 1 adP p.press.length cP (bc p.press))).rdB adP p.press rfl rfl)) λnn er a w ha hs=>?_
  refine RN 0 ha hs λa ha=>?_
  have hs2:St W w (RefS B { k with ls:=k.ls.set fr (putLn (k.ls.getD fr []) fi p.press),ps:=k.ps.set fr { peK k fr with heard:=k.now } }::_):=RefS.foldL (l:=k.ls.set fr (putLn (k.ls.getD fr []) fi p.press)) hs B { k with ps:=k.ps.set fr { peK k fr with heard:=k.now } } A2 (List.length_set ..)
  replace hs:=hs2
  clear hs2
  have hk3:=hk2.line (i:=fr) (l:=putLn (k.ls.getD fr []) fi p.press) (putLn_len (hk.lnt hfn)).2
  have hhd:headK ({ k with ls:=k.ls.set fr (putLn (k.ls.getD fr []) fi p.press),ps:=k.ps.set fr { peK k fr with heard:=k.now } }:Ks)=headK k:=by
    show ((k.ls.set fr _).getD k.me []).length=_
    rw[getD_ne hfm];rfl
  refine wp_seq_cut (M:=λa w=>∃ hh:Nat,hh=(if (peK k fr).has<ak∧ak≤headK k then ak else (peK k fr).has)∧Fr a 135 [(0,pt B.cb),(5,pt b5)]∧St W w (RefS B { k with ls:=k.ls.set fr (putLn (k.ls.getD fr []) fi p.press),ps:=k.ps.set fr { peK k fr with heard:=k.now,has:=hh } }::blk b5 70 (pkC p adP cP)::L)) ?_ ?_
  ·
   refine DWC 1 (λw0 w'=>Rd w' b5 0 (pkC p adP cP)) [3] [0,2,3001,1003,4] ha hs λa w ha hs hH=>?_
   have hC:=hH.at w (hs.rdAll (b:=b5))
   refine RH 2 ha hs hH hC λa ha=>?_
   refine QH ha (λw hc=>ld1 ha (hc 6 _ rfl)) hC λa ha=>?_
   rw[hak]at ha
   refine RH 0 ha hs hH hC λa ha=>?_
   refine CL 0 ha hs (ref_head hs hk3) λa w ha hs=>?_
   replace hC:=hH.at w (hs.rdAll (b:=b5))
   rw[hhd]at ha
   refine RH 1 ha hs hH hC λa ha=>?_
   refine IF 0 ha hs (λhc3 a ha=>?_) λhc3 a ha=>?_
   ·
    refine RN 0 ha hs λa ha=>?_
    obtain⟨A3,hs⟩:=RefS.open hs
    have hpa:(haC (k.ps.set fr { peK k fr with heard:=k.now }))[fr]?=some (Value.int .i64 (peK k fr).has):=by
      have h:=haC_at hpe3
      exact h
    refine DWO 0 [5,9,11,12,13,15,16] [0,1,2,4,6,7,8,10,14,3003,3005,3009,3011,3012,3013,1015,1016,17,1018] ha hs λa w ha hs hH hC=>?_
    refine RH 11 ha hs hH hC λa ha=>?_
    rw[hfr]at ha
    refine RH 2 ha hs hH hC λa ha=>?_
    rw[hfr]at ha
    refine RH 1 ha hs hH hC λa ha=>?_
    refine QH ha (λw hc=>ld1 ha (hc.cell (hs.rd1 (b:=B.ab) hpa))) hC λa ha=>?_
    refine RH 1 ha hs hH hC λa ha=>?_
    rw[hak]at ha
    refine RH 2 ha hs hH hC λa ha=>?_
    refine ST 0 ha hs (λa w ha hs=>?_) (hlt:=(by rw[haC,List.length_map,List.length_set];exact hfp))
    rw[haC_set { peK k fr with heard:=k.now,has:=max (peK k fr).has ak } max_int,← heC_keep hpe3 { peK k fr with heard:=k.now,has:=max (peK k fr).has ak } rfl,← wdC_keep hpe3 { peK k fr with heard:=k.now,has:=max (peK k fr).has ak } rfl rfl,← apC_keep hpe3 { peK k fr with heard:=k.now,has:=max (peK k fr).has ak } rfl,List.set_set]at hs
    replace hs:=RefS.fold hs B { k with ls:=k.ls.set fr (putLn (k.ls.getD fr []) fi p.press),ps:=k.ps.set fr { peK k fr with heard:=k.now,has:=max (peK k fr).has ak } } A3
    refine RN 0 ha hs λa ha=>?_
    exact⟨max (peK k fr).has ak,by split <;> omega,ha.keep [0,5],hs.sub⟩
   refine RN 0 ha hs λa ha=>?_
   exact⟨_,by rw[if_neg (by omega)],ha.keep [0,5],hs.sub⟩
  clear ha;(try clear hs)
  rintro a w ⟨hh,hhe,ha,hs⟩
  refine DWO 1 [9,11,12,13,14] [0,1001,2,3,4,6,7,8,10,3005,3009,1011,1012,1013,1014,15,16] ha hs λa w ha hs hH hC=>?_
  have hpe4:(k.ps.set fr { peK k fr with heard:=k.now,has:=hh })[fr]?=some { peK k fr with heard:=k.now,has:=hh }:=List.getElem?_set_self hfp
  have hak2:p.ack.toNat=ak:=by omega
  have hfm3:p.frame.toNat=fm:=by omega
  have hP:hearP k.now (headK k) p (peK k fr)=(if 0<p.frame∧((peK k fr).frame:Int)≤p.frame then { peK k fr with heard:=k.now,has:=hh,frame:=fm,sum:=p.sum } else { peK k fr with heard:=k.now,has:=hh }):=by
    rw[hearP,hak2,hfm3,hhe]
  have hhb:hh≤1000:=by rw[hhe];split <;> omega
  obtain⟨A4,hs⟩:=RefS.open hs
  have hrp:=rows_part wdC_len (hs.rdAll (b:=B.wb)) hpe4
  rw[Nat.zero_add]at hrp
  replace hH:=Hd.old hs
  refine RH 4 ha hs hH hC λa ha=>?_
  refine ha.by (s:=107) (λhg3 ha=>?_) (λhg3 ha=>?_)
  ·
   refine RH 8 ha hs hH hC λa ha=>?_
   rw[hfr]at ha
   refine RH 2 ha hs hH hC λa ha=>?_
   refine st_set ha (wgT ha rfl (s:=107)) (ld1 ha (hrp 0 (.int .i64 (peK k fr).frame) rfl)) rfl λa ha=>?_
   refine RH 2 ha hs hH hC λa ha=>?_
   refine IF 0 ha hs (λhc4 a ha=>?_) λhc4 a ha=>?_
   ·
    refine DWO 0 [5,7,9,10] [0,1,2,4,6,8,3003,3005,3007,1009,1010,11,1012] ha hs λa w ha hs hH hC=>?_
    refine RH 8 ha hs hH hC λa ha=>?_
    rw[hfr]at ha
    refine RH 1 ha hs hH hC λa ha=>?_
    rw[hfm2]at ha
    refine RH 3 ha hs hH hC λa ha=>?_
    refine st_storeN ha rfl hs Ty.t244 (by simp[Value.oneCell']) (by rw[rows_len wdC_len,List.length_set];show fr*2+2≤_;omega) λa w ha hs=>?_
    rw[show splice (rows wdC (k.ps.set fr { peK k fr with heard:=k.now,has:=hh })) (fr*2) [Value.int .i64 fm,Value.int .u32 p.sum]=rows wdC ((k.ps.set fr { peK k fr with heard:=k.now,has:=hh }).set fr { peK k fr with heard:=k.now,has:=hh,frame:=fm,sum:=p.sum }) from rows_set wdC_len _ { peK k fr with heard:=k.now,has:=hh,frame:=fm,sum:=p.sum } (by rw[List.length_set];exact hfp),← heC_keep hpe4 { peK k fr with heard:=k.now,has:=hh,frame:=fm,sum:=p.sum } rfl,← haC_keep hpe4 { peK k fr with heard:=k.now,has:=hh,frame:=fm,sum:=p.sum } rfl,← apC_keep hpe4 { peK k fr with heard:=k.now,has:=hh,frame:=fm,sum:=p.sum } rfl,List.set_set]at hs
    replace hs:=RefS.fold hs B { k with ls:=k.ls.set fr (putLn (k.ls.getD fr []) fi p.press),ps:=k.ps.set fr { peK k fr with heard:=k.now,has:=hh,frame:=fm,sum:=p.sum } } A4
    refine RN 0 ha hs λa ha=>?_
    exact⟨_,⟨by rw[if_neg hc2,hfi2,hP,if_pos (by omega)],(hk.peer (q:={ peK k fr with heard:=k.now,has:=hh,frame:=fm,sum:=p.sum }) hfn ⟨hhb,by show fm≤1000;omega,hps⟩ (Nat.le_refl _) rfl).line (putLn_len (hk.lnt hfn)).2⟩,ha.keep [0],hs.sub⟩
   refine RN 0 ha hs λa ha=>?_
   exact⟨_,⟨by rw[if_neg hc2,hfi2,hP,if_neg (by omega)],(hk.peer (q:={ peK k fr with heard:=k.now,has:=hh }) hfn ⟨hhb,hpt.2.2⟩ (Nat.le_refl _) rfl).line (putLn_len (hk.lnt hfn)).2⟩,ha.keep [0],(RefS.fold hs B { k with ls:=k.ls.set fr (putLn (k.ls.getD fr []) fi p.press),ps:=k.ps.set fr { peK k fr with heard:=k.now,has:=hh } } A4).sub⟩
  refine RH 13 ha hs hH hC λa ha=>?_
  refine RN 1 ha hs λa ha=>?_
  exact⟨_,⟨by rw[if_neg hc2,hfi2,hP,if_neg (by omega)],(hk.peer (q:={ peK k fr with heard:=k.now,has:=hh }) hfn ⟨hhb,hpt.2.2⟩ (Nat.le_refl _) rfl).line (putLn_len (hk.lnt hfn)).2⟩,ha.keep [0],(RefS.fold hs B { k with ls:=k.ls.set fr (putLn (k.ls.getD fr []) fi p.press),ps:=k.ps.set fr { peK k fr with heard:=k.now,has:=hh } } A4).sub⟩
 clear ha;(try clear hs)
 rintro a w ⟨k4,⟨hk4,hkw⟩,ha,hs⟩
 refine CL 2 ha hs (ref_held hs hkw) λa w ha hs=>?_
 refine RT 2 ha hs ?_
 refine⟨rfl,?_⟩
 have hz:holdK k4=hearK k p:=by
   by_cases h2:p.kind=2
   · rw[hk4,if_pos h2,hearK,if_pos h2,hft]
     refine held.holdK (hh.of rfl (List.length_set ..) λi hi=>?_)
     by_cases h:i=fr
     · subst h
       rw[show peK { k with ps:=k.ps.set i { peK k i with heard:=k.now },ev:=k.ev++[(1,i,0)],cl:=true } i={ peK k i with heard:=k.now } from by rw[peK,List.getD_eq_getElem?_getD,List.getElem?_set_self hi];rfl]
       exact⟨rfl,rfl,rfl⟩
     · rw[show peK { k with ps:=k.ps.set fr { peK k fr with heard:=k.now },ev:=k.ev++[(1,fr,0)],cl:=true } i=peK k i from by rw[peK,List.getD_eq_getElem?_getD,List.getElem?_set_ne (Ne.symm h),peK,List.getD_eq_getElem?_getD]]
       exact⟨rfl,rfl,rfl⟩
   · rw[hk4,if_neg h2,hearK,if_neg h2,hft]
 rw[hz]at hs
 exact hs
end
end
end Go.Proofs.YtdilfdkendjjhaaGreat
