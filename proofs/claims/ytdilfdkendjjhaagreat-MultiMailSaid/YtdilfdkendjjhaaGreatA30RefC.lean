/- The document's player without its game: how it lies in memory; quintainref21.within, May, New, Head, Front, event, held, Mark, Told. -/
import Derived.Test.YtdilfdkendjjhaaGreatA23Core
import Derived.Test.YtdilfdkendjjhaaGreatA27MulM
import Derived.Test.YtdilfdkendjjhaaGreatA03Run
namespace Go.Proofs.YtdilfdkendjjhaaGreat
open Go.RowKit
set_option linter.unusedVariables false
set_option linter.unusedSimpArgs false
set_option maxRecDepth 10000
set_option synthInstance.maxSize 4000
set_option synthInstance.maxHeartbeats 400000
section
theorem made1 (z:Value)(h:z.cells=#[z])(n:Nat):(madeCells z.cells (n*1)).toList=List.replicate n z:=by
 apply List.ext_getElem?
 intro i
 rw[madeCells,Array.getElem?_toList,Array.getElem?_map,Array.getElem?_range,h,List.getElem?_replicate]
 by_cases hi:i<n
 · simp[hi,Nat.mod_one]
 · simp[hi]
theorem made2 (n:Nat):(madeCells (Value.agg #[.int .i64 0,.int .u32 0]).cells (n*2)).toList=rows (λ_:Pe=>[Value.int .i64 0,.int .u32 0]) (List.replicate n (pe0 0)):=by
 have hl:∀ m:Nat,(madeCells (Value.agg #[.int .i64 0,.int .u32 0]).cells m).toList=(List.range m).map λi=>if i%2=0 then Value.int .i64 0 else .int .u32 0:=by
   intro m
   apply List.ext_getElem?
   intro i
   rw[madeCells,Array.getElem?_toList,Array.getElem?_map,Array.getElem?_range,List.getElem?_map]
   by_cases hi:i<m
   · rcases Nat.mod_two_eq_zero_or_one i with h | h <;> simp[hi,Value.cells,h]
   · simp[hi]
 rw[hl]
 induction n with
 | zero=>rfl
 | succ n ih =>
   rw[Nat.succ_mul,List.replicate_succ',rows_app,← ih,List.range_succ,List.range_succ]
   simp only[List.map_append,List.append_assoc]
   congr 1
   have h1:n*2%2=0:=by omega
   have h2:¬ (n*2+1)%2=0:=by omega
   simp[h1,h2,rows]
def RLn (lb lo c:Nat)(ls:List (List UInt8)):SP:=λh=>∃ xs:List BBx,prx xs=ls∧sepL [Sl 128 1 (some ⟨lb,lo,none⟩) ls.length c (xs.map bbv),All bbo xs] h
structure RcB where
 cb:Nat
 lb:Nat
 lo:Nat
 cL:Nat
 hb:Nat
 ab:Nat
 wb:Nat
 xb:Nat
structure RcA where
 adM:Option Addr
 cM:Nat
 adE:Option Addr
 cE:Nat
abbrev rcC (k:Ks)(B:RcB)(A:RcA):List Value:=[.int .i64 k.n,.int .i64 k.me,.int .i64 k.id,.int .i64 k.delay,.int .i64 k.window,.int .i64 k.guess,.int .i64 k.order,.int .i64 k.branches,.int .i64 k.workers,.int .i64 k.room,
 .slice (some ⟨B.lb,B.lo,none⟩) k.ls.length B.cL,.int .i64 k.now,.slice (some ⟨B.hb,0,none⟩) k.n k.n,.slice (some ⟨B.ab,0,none⟩) k.n k.n,.slice (some ⟨B.wb,0,none⟩) k.n k.n,.slice (some ⟨B.xb,0,none⟩) k.n k.n,.slice A.adM k.mr.length A.cM,.slice A.adE k.ev.length A.cE,.bool k.cl]
def heC (l:List Pe):List Value:=l.map λp=>Value.int .i64 (p.heard:Int)
def haC (l:List Pe):List Value:=l.map λp=>Value.int .i64 (p.has:Int)
def apC (l:List Pe):List Value:=l.map λp=>Value.bool p.apart
abbrev wdC (p:Pe):List Value:=[.int .i64 p.frame,.int .u32 p.sum]
theorem wdC_len (p:Pe):(wdC p).length=2:=rfl
def RefS (B:RcB)(k:Ks):SP:=λh=>∃ A:RcA,sepL [blk B.cb 83 (rcC k B A),RLn B.lb B.lo B.cL k.ls,blk B.hb 3 (heC k.ps),blk B.ab 3 (haC k.ps),blk B.wb 244 (rows wdC k.ps),blk B.xb 4 (apC k.ps),Sl 68 1 A.adM k.mr.length A.cM (mrC k.mr),Sl 223 3 A.adE k.ev.length A.cE (rows rawC k.ev)] h
section
variable {W w:World}{L R:List SP}{c m lb lo i:Nat}{ad:Option Addr}{ls:List (List UInt8)}{k:Ks}{A:RcA}{B:RcB}
theorem RLn.open (hs:St W w (RLn lb lo c ls::L)):∃ xs:List BBx,prx xs=ls∧St W w (Sl 128 1 (some ⟨lb,lo,none⟩) ls.length c (xs.map bbv)::All bbo xs::L):=by
 obtain⟨xs,h1,hs⟩:=hs.exi (ι:=List BBx) (p:=λxs=>prx xs=ls) (B:=λxs h=>sepL [Sl 128 1 (some ⟨lb,lo,none⟩) ls.length c (xs.map bbv),All bbo xs] h) λ_ ⟨xs,h1,h2⟩=>⟨xs,h1,h2⟩
 exact⟨xs,h1,hs.open (M:=[_,_]) λ_ h=>h⟩
theorem RLn.close {xs:List BBx}(hs:St W w (Sl 128 1 (some ⟨lb,lo,none⟩) ls.length c (xs.map bbv)::All bbo xs::L))(h:prx xs=ls):St W w (RLn lb lo c ls::L) :=
 St.shut (M:=[_,_]) hs λ_ h'=>⟨xs,h,h'⟩
theorem St.rdXe {xs:List BBx}{el:TypeId}{m:Nat}(hs:St W w (Sl el 1 ad m c (xs.map bbv)::All bbo xs::L)):RdX w ad xs:=by
 have hl:=(hs.sl ad).1
 rw[List.length_map,Nat.mul_one]at hl
 refine⟨λh0=>?_,λx hx=>?_⟩
 · obtain⟨b,off,h1,h2⟩:=hs.slRd ad (by omega)
   exact⟨b,off,h1,h2⟩
 · obtain⟨i,hi,rfl⟩:=List.getElem_of_mem hx
   have h2:=(hs.tail).allOut hi
   exact St.rdB (L:=bbo xs[i]::_) h2 _ _ (k:=(PickSl.head:PickSl (Sl 5 1 xs[i].1 xs[i].2.2.length xs[i].2.1 (bc xs[i].2.2)::_) xs[i].1 _ _ _ _ _ _)) rfl rfl
theorem RefS.open (hs:St W w (RefS B k::L)):∃ A:RcA,St W w (blk B.cb 83 (rcC k B A)::RLn B.lb B.lo B.cL k.ls::blk B.hb 3 (heC k.ps)::blk B.ab 3 (haC k.ps)::blk B.wb 244 (rows wdC k.ps)::blk B.xb 4 (apC k.ps)::Sl 68 1 A.adM k.mr.length A.cM (mrC k.mr)::Sl 223 3 A.adE k.ev.length A.cE (rows rawC k.ev)::L):=by
 obtain⟨A,_,hs⟩:=hs.exi (ι:=RcA) (p:=λ_=>True) (B:=λA h=>sepL [blk B.cb 83 (rcC k B A),RLn B.lb B.lo B.cL k.ls,blk B.hb 3 (heC k.ps),blk B.ab 3 (haC k.ps),blk B.wb 244 (rows wdC k.ps),blk B.xb 4 (apC k.ps),Sl 68 1 A.adM k.mr.length A.cM (mrC k.mr),Sl 223 3 A.adE k.ev.length A.cE (rows rawC k.ev)] h) λ_ ⟨A,h⟩=>⟨A,trivial,h⟩
 exact⟨A,hs.open (M:=[_,_,_,_,_,_,_,_]) λ_ h=>h⟩
theorem RefS.fold (hs:St W w L)(B:RcB)(k:Ks)(A:RcA)[kk:Arr L [blk B.cb 83 (rcC k B A),RLn B.lb B.lo B.cL k.ls,blk B.hb 3 (heC k.ps),blk B.ab 3 (haC k.ps),blk B.wb 244 (rows wdC k.ps),blk B.xb 4 (apC k.ps),Sl 68 1 A.adM k.mr.length A.cM (mrC k.mr),Sl 223 3 A.adE k.ev.length A.cE (rows rawC k.ev)] R]:St W w (RefS B k::R) :=
 St.shut (M:=[_,_,_,_,_,_,_,_]) (hs.perm kk.perm) λ_ h=>⟨A,h⟩
end
theorem heC_at {l:List Pe}{i:Nat}{p:Pe}(h:l[i]?=some p):(heC l)[i]?=some (.int .i64 p.heard):=by rw[heC,List.getElem?_map,h];rfl
theorem haC_at {l:List Pe}{i:Nat}{p:Pe}(h:l[i]?=some p):(haC l)[i]?=some (.int .i64 p.has):=by rw[haC,List.getElem?_map,h];rfl
theorem apC_at {l:List Pe}{i:Nat}{p:Pe}(h:l[i]?=some p):(apC l)[i]?=some (.bool p.apart):=by rw[apC,List.getElem?_map,h];rfl
theorem map_set1 {α β:Type}(f:α→β){l:List α}{i:Nat}{x:α}{v:β}(h:f x=v):(l.map f).set i v=(l.set i x).map f:=by rw[← h,map_set]
theorem map_keep {β:Type}(f:Pe→β){l:List Pe}{i:Nat}{p q:Pe}(h:l[i]?=some p)(hf:f q=f p):(l.set i q).map f=l.map f:=by
 apply List.ext_getElem?
 intro j
 rw[List.getElem?_map,List.getElem?_map,List.getElem?_set]
 by_cases hj:i=j
 · subst hj
   have hi:=(List.getElem?_eq_some_iff.1 h).1
   rw[if_pos rfl,if_pos hi,h]
   simp[hf]
 · rw[if_neg hj]
theorem rows_keep (f:Pe→List Value){l:List Pe}{i:Nat}{p q:Pe}(h:l[i]?=some p)(hf:f q=f p):rows f (l.set i q)=rows f l:=by
 rw[rows,rows,List.flatMap_def,List.flatMap_def,map_keep f h hf]
theorem heC_keep {l:List Pe}{i:Nat}{p:Pe}(h:l[i]?=some p)(q:Pe)(hf:q.heard=p.heard):heC (l.set i q)=heC l:=map_keep _ h (by rw[hf])
theorem haC_keep {l:List Pe}{i:Nat}{p:Pe}(h:l[i]?=some p)(q:Pe)(hf:q.has=p.has):haC (l.set i q)=haC l:=map_keep _ h (by rw[hf])
theorem wdC_keep {l:List Pe}{i:Nat}{p:Pe}(h:l[i]?=some p)(q:Pe)(hf:q.frame=p.frame)(hs:q.sum=p.sum):rows wdC (l.set i q)=rows wdC l:=rows_keep _ h (by rw[wdC,wdC,hf,hs])
section
variable {W w:World}{L:List SP}{n lb lo i f cl:Nat}{ls:List (List UInt8)}{k:Ks}{A:RcA}{B:RcB}{x:UInt8}
theorem ref_head (hs:St W w (RefS B k::L))(hk:WC k):Calls Tryz.prog 38 #[pt B.cb] w λr w'=>r=.returned (.int .i64 (headK k))∧St W w' (RefS B k::L):=by
 have hme:k.me<k.ls.length:=by rw[hk.ls];exact hk.me
 obtain⟨A,hs⟩:=RefS.open hs
 refine EN Tryz.func38 Tryz.ntmps38 rfl rfl λa ha=>?_
 refine DWO 3 [8] [0,1,2,4,5,6,7,3003,1008,9,10,1011,12,13] ha hs λa w ha hs hH hC=>?_
 obtain⟨xs,hxs,hs⟩:=RLn.open (hs.pick (RLn B.lb B.lo B.cL k.ls))
 have hxl:xs.length=k.ls.length:=by rw[← hxs,prx_len]
 obtain⟨bl,ol,y,hbe,hy,hcy,hry⟩:=(St.rdXe hs).at (i:=k.me) (by omega)
 cases hbe
 have hyl:headK k=y.2.2.length:=by
   show (k.ls.getD k.me []).length=_
   rw[← hxs,prx_get hy]
 replace hH:=Hd.old hs
 refine RH 11 ha hs hH hC λa ha=>?_
 refine SS ha (ld1 ha (hcy)) λa ha=>?_
 rw[bbv]at ha
 refine RH 2 ha hs hH hC λa ha=>?_
 refine RT 0 ha hs ?_
 refine⟨by rw[hyl],?_⟩
 exact (RefS.fold (RLn.close hs hxs) B k A).sub
theorem ref_frontC (hs:St W w (RefS B k::L))(hk:WC k):Calls Tryz.prog 64 #[pt B.cb] w λr w'=>r=.returned (.int .i64 (frontK k))∧St W w' (RefS B k::L):=by
 have hn:=hk.n
 have hls:=hk.ls
 obtain⟨A,hs⟩:=RefS.open hs
 refine EN Tryz.func64 Tryz.ntmps64 rfl rfl λa ha=>?_
 refine RN 7 ha hs λa ha=>?_
 obtain⟨xs,hxs,hs⟩:=RLn.open (hs.pick (RLn B.lb B.lo B.cL k.ls))
 have hxl:xs.length=k.ls.length:=by rw[← hxs,prx_len]
 rw[← hxl]at ha
 refine CL 0 ha hs (ref_front (xs:=xs) hs (by omega) (by omega) (λw' hw=>St.rdXe hw)) λa w ha hs=>?_
 refine RT 1 ha hs ?_
 refine⟨by rw[hxs];rfl,?_⟩
 exact (RefS.fold (RLn.close hs hxs) B k A).sub
theorem ref_event {kd pl fr:Nat}(hs:St W w (RefS B k::L))(hl:k.ev.length≤100):Calls Tryz.prog 72 #[pt B.cb,.int .i64 kd,.int .i64 pl,.int .i64 fr] w λr w'=>r=.returned (.tuple #[])∧St W w' (RefS B { k with ev:=k.ev++[(kd,pl,fr)] }::L):=by
 obtain⟨A,hs⟩:=RefS.open hs
 refine EN Tryz.func72 Tryz.ntmps72 rfl rfl λa ha=>?_
 refine RN 9 ha hs λa ha=>?_
 refine st_buildSlice ha rfl hs Tryz.underlying81 Ty.t223 rfl rfl rfl rfl (by decide) (by decide) λb17 a w ha hs ho=>?_
 clear ho
 refine RN 0 ha hs λa ha=>?_
 refine st_append ha rfl hs Tryz.underlying81 Ty.t223 rfl rfl hs.rdAll rfl (rawC_one (kd,pl,fr)) (by decide) (by decide) (by omega) λad18 c18 a w ha hs=>?_
 rw[show rows rawC k.ev++_=rows rawC (k.ev++[(kd,pl,fr)]) from by rw[rows_app];rfl,show k.ev.length+1=(k.ev++[(kd,pl,fr)]).length from by simp]at hs
 rw[show k.ev.length+1=(k.ev++[(kd,pl,fr)]).length from by simp]at ha
 refine ST 2 ha hs (λa w ha hs=>?_)
 refine RT 0 ha hs ?_
 exact⟨rfl,(RefS.fold hs B { k with ev:=k.ev++[(kd,pl,fr)] } { A with adE:=ad18,cE:=c18 }).sub⟩
theorem ref_held (hs:St W w (RefS B k::L))(hk:WC k):Calls Tryz.prog 157 #[pt B.cb] w λr w'=>r=.returned (.tuple #[])∧St W w' (RefS B (holdK k)::L):=by
 have hpl:k.ps.length=k.n:=hk.ps
 have hn:=hk.n
 refine EN Tryz.func157 Tryz.ntmps157 rfl rfl λa ha=>?_
 refine RN 2 ha hs λa ha=>?_
 refine wp_loop_ghost (λμ a w=>∃ (i:Nat),(μ=k.n-i∧i≤k.n)∧Fr a 68 [(0,pt B.cb),(2,.int .i64 i)]∧St W w (RefS B (holdN k i)::L)) (k.n) (⟨0,⟨rfl,by omega⟩,ha.keep [0,2],hs⟩) ?_
 clear ha hs
 rintro μ a w ⟨i,⟨rfl,hi⟩,ha,hs⟩
 have hkk:=hk.holdN (i:=i) hi
 have hkl:=holdN_len k i
 have hkn:(holdN k i).n=k.n:=by obtain⟨ps,ev,h1,_⟩:=holdN_eq k i;rw[h1]
 have hnx:holdN k (i+1)=hold1 (holdN k i) i:=rfl
 rw[hold1]at hnx
 generalize hge:holdN k i=kk at hs hkk hkl hnx hkn
 obtain⟨A,hs⟩:=RefS.open hs
 refine IF 9 ha hs (λhc0 a ha=>?_) λhc0 a ha=>?_
 ·
  have hil:i<kk.ps.length:=by omega
  have hpt:=hkk.pet (i:=i) (by omega)
  have hat:=peK_at hil
  have hrp:=rows_part wdC_len (hs.rdAll (b:=B.wb)) hat
  rw[Nat.zero_add]at hrp
  refine RN 8 ha hs λa ha=>?_
  refine SS ha (ex_loadN ha Tryz.underlying244 rfl Ty.t244 (hrp)) λa ha=>?_
  refine AL 0 ha hs λb3 a w ha hs=>?_
  refine SA 0 ha hs λa w ha hs=>?_
  refine DWO 1 [19,20,29,30,34] [0,1,2,4,1003,5,1006,7,8,9,1010,11,12,13,14,16,17,18,3015,1019,1020,21,22,23,24,25,26,28,33,3027,3029,3030,31,3032,1034,35,36] ha hs λa w ha hs hH hC=>?_
  have hrc:Rd w B.cb 0 (rcC kk B A):=hs.rdAll (b:=B.cb)
  have hrw:Rd w b3 0 (wdC (peK kk i)):=hs.rdAll (b:=b3)
  have hra:=hs.rd1 (b:=B.xb) (apC_at hat)
  refine RH 4 ha hs hH hC λa ha=>?_
  refine SS ha (ld1 ha (hrc 15 _ rfl)) λa ha=>?_
  refine RH 1 ha hs hH hC λa ha=>?_
  refine SS ha (ld1 ha (hra)) λa ha=>?_
  refine RH 2 ha hs hH hC λa ha=>?_
  refine ha.by (s:=28) (λhg8 ha=>?_) (λhg8 ha=>?_)
  ·
   refine RH 1 ha hs hH hC λa ha=>?_
   refine st_set ha (wgT ha rfl (s:=28)) (ld1 ha (hrw 0 _ rfl)) rfl λa ha=>?_
   refine RH 3 ha hs hH hC λa ha=>?_
   refine ha.by (s:=33) (λhg13 ha=>?_) (λhg13 ha=>?_)
   ·
    refine RH 4 ha hs hH hC λa ha=>?_
    refine QH ha (λw hc=>ld1 ha (hc.cell (hrw 0 _ rfl))) hC λa ha=>?_
    refine RH 0 ha hs hH hC λa ha=>?_
    refine st_set ha (wgT ha rfl (s:=33)) (ld1 ha (hrc 16 _ rfl)) rfl λa ha=>?_
    refine RH 4 ha hs hH hC λa ha=>?_
    refine ha.by (s:=43) (λhg23 ha=>?_) (λhg23 ha=>?_)
    ·
     have hml:(peK kk i).frame-1<kk.mr.length:=by omega
     obtain⟨bm,om,hme,hrm⟩:=(hs.pick (Sl 68 1 A.adM kk.mr.length A.cM (mrC kk.mr))).slRd A.adM (by omega)
     have hrc2:=hrc 16 _ rfl
     rw[hme]at hrc2
     refine RH 5 ha hs hH hC λa ha=>?_
     refine QH ha (λw hc=>ld1 ha (hc.cell (hrc2))) hC λa ha=>?_
     refine QH ha (λw hc=>ld1 ha (hc.cell (hrw 0 _ rfl))) hC λa ha=>?_
     refine RH 1 ha hs hH hC λa ha=>?_
     rw[show (((peK kk i).frame:Nat):Int)-1=(((peK kk i).frame-1:Nat):Int) from by omega]at ha
     refine RH 1 ha hs hH hC λa ha=>?_
     refine QH ha (λw hc=>ld1 ha (hc.cell (hrm ((peK kk i).frame-1) _ (mrC_get hml)))) hC λa ha=>?_
     refine RH 0 ha hs hH hC λa ha=>?_
     refine st_set ha (wgT ha rfl (s:=43)) (ld1 ha (hrw 1 _ rfl)) rfl λa ha=>?_
     refine RH 2 ha hs hH hC λa ha=>?_
     refine IF 0 ha hs (λhc1 a ha=>?_) λhc1 a ha=>?_
     ·
      refine RN 1 ha hs λa ha=>?_
      rw[if_pos ⟨hg8,by omega,by omega,by omega⟩]at hnx
      refine ST 6 ha hs (λa w ha hs=>?_) (hlt:=(by rw[apC,List.length_map];exact hil))
      rw[show (apC kk.ps).set i (.bool true)=apC (kk.ps.set i { peK kk i with apart:=true }) from map_set1 _ rfl,← heC_keep hat { peK kk i with apart:=true } rfl,← haC_keep hat { peK kk i with apart:=true } rfl,← wdC_keep hat { peK kk i with apart:=true } rfl rfl]at hs
      replace hs:=RefS.fold hs B { kk with ps:=kk.ps.set i { peK kk i with apart:=true } } A
      refine CL 4 ha hs (ref_event (kd:=3) (pl:=i) (fr:=(peK kk i).frame) hs (by have:=hkk.evl;show kk.ev.length≤100;omega)) λa w ha hs=>?_
      refine RN 3 ha hs λa ha=>?_
      exact⟨k.n-(i+1),by omega,i+1,⟨rfl,by omega⟩,ha.keep [0,2],by rw[hnx];exact hs.sub⟩
     refine RN 3 ha hs λa ha=>?_
     rw[if_neg (λh=>by have:=h.2.2.2;omega)]at hnx
     exact⟨k.n-(i+1),by omega,i+1,⟨rfl,by omega⟩,ha.keep [0,2],by rw[hnx];exact (RefS.fold hs B kk A).sub⟩
    refine RH 13 ha hs hH hC λa ha=>?_
    refine RN 4 ha hs λa ha=>?_
    rw[if_neg (λh=>by have:=h.2.2.1;omega)]at hnx
    exact⟨k.n-(i+1),by omega,i+1,⟨rfl,by omega⟩,ha.keep [0,2],by rw[hnx];exact (RefS.fold hs B kk A).sub⟩
   refine RH 23 ha hs hH hC λa ha=>?_
   refine RN 4 ha hs λa ha=>?_
   rw[if_neg (λh=>by have:=h.2.1;omega)]at hnx
   exact⟨k.n-(i+1),by omega,i+1,⟨rfl,by omega⟩,ha.keep [0,2],by rw[hnx];exact (RefS.fold hs B kk A).sub⟩
  refine RH 28 ha hs hH hC λa ha=>?_
  refine RN 4 ha hs λa ha=>?_
  rw[if_neg (λh=>by have:=h.1;rw[hg8]at this;cases this)]at hnx
  exact⟨k.n-(i+1),by omega,i+1,⟨rfl,by omega⟩,ha.keep [0,2],by rw[hnx];exact (RefS.fold hs B kk A).sub⟩
 refine RT 0 ha hs ?_
 obtain rfl:i=k.n:=by omega
 refine⟨rfl,?_⟩
 rw[holdK,hpl,hge]
 exact (RefS.fold hs B kk A).sub
theorem ref_mark {s:Nat}(hs:St W w (RefS B k::L))(hk:WC k)(hl:k.mr.length<1000)(hss:s<4294967296):Calls Tryz.prog 134 #[pt B.cb,.int .u32 s] w λr w'=>r=.returned (.tuple #[])∧St W w' (RefS B (markK k s)::L):=by
 have hkm : WC { k with mr := k.mr ++ [s] } := { hk with
     mr:=by show (k.mr++[s]).length≤1000;rw[List.length_append,List.length_singleton];omega
     mrs:=λx hx=>by
       rcases List.mem_append.1 hx with hx | hx
       · exact hk.mrs x hx
       · rw[List.mem_singleton]at hx;rw[hx];exact hss }
 obtain⟨A,hs⟩:=RefS.open hs
 refine EN Tryz.func134 Tryz.ntmps134 rfl rfl λa ha=>?_
 refine RN 8 ha hs λa ha=>?_
 rw[decide_eq_true (by omega)]at ha
 refine RN 7 ha hs λa ha=>?_
 refine st_buildSlice ha rfl hs Tryz.underlying80 Ty.t68 rfl rfl rfl rfl (by decide) (by decide) λb16 a w ha hs ho=>?_
 clear ho
 refine RN 0 ha hs λa ha=>?_
 refine st_append ha rfl hs Tryz.underlying80 Ty.t68 rfl rfl hs.rdAll rfl (by simp[Value.oneCell']) (by decide) (by decide) (by omega) λad17 c17 a w ha hs=>?_
 rw[show mrC k.mr++_=mrC (k.mr++[s]) from by rw[mrC,mrC,List.map_append];rfl,show k.mr.length+1=(k.mr++[s]).length from by simp]at hs
 rw[show k.mr.length+1=(k.mr++[s]).length from by simp]at ha
 refine ST 2 ha hs (λa w ha hs=>?_)
 refine RN 0 ha hs λa ha=>?_
 replace hs:=RefS.fold hs B { k with mr:=k.mr++[s] } { A with adM:=ad17,cM:=c17 }
 refine CL 1 ha hs (ref_held hs hkm) λa w ha hs=>?_
 refine RT 0 ha hs ?_
 exact⟨rfl,by rw[markK,if_pos hl];exact hs.sub⟩
theorem ref_press (hs:St W w (RefS B k::L))(hk:WC k):Calls Tryz.prog 61 #[pt B.cb,.int .u8 (x.toNat:Nat)] w λr w'=>r=.returned (.int .i64 (pressK x k).1)∧St W w' (RefS B (pressK x k).2::L):=by
 have hme:k.me<k.ls.length:=by rw[hk.ls];exact hk.me
 have hhd:=hk.headt
 have hfr:=hk.frontt
 obtain⟨A0,hs⟩:=RefS.open hs
 refine EN Tryz.func61 Tryz.ntmps61 rfl rfl λa ha=>?_
 refine IF 9 ha hs (λhc0 a ha=>?_) λhc0 a ha=>?_
 ·
  replace hs:=RefS.fold hs B k A0
  refine RT 2 ha hs ?_
  exact⟨by rw[pressK,if_pos hc0],by rw[pressK,if_pos hc0];exact hs⟩
 have hcl:¬ k.cl=true:=by rw[hc0];decide
 replace hs:=RefS.fold hs B k A0
 refine CL 2 ha hs (ref_head hs hk) λa w ha hs=>?_
 refine IF 2 ha hs (λhc1 a ha=>?_) λhc1 a ha=>?_
 ·
  refine RT 2 ha hs ?_
  exact⟨by rw[pressK,if_neg hcl,if_pos (by omega)],by rw[pressK,if_neg hcl,if_pos (by omega)];exact hs⟩
 refine DWC 1 (λw0 w'=>w'.cell? ⟨B.cb,4,none⟩=some (.int .i64 k.window)) [1,3,4] [0,2,5,6,7,8,3009,1001,1003,1004,10,11] ha hs λa w ha hs hH=>?_
 have hC:w.cell? ⟨B.cb,4,none⟩=some (.int .i64 k.window):=by
   obtain⟨A1,hs⟩:=RefS.open hs
   exact hs.rd1 (b:=B.cb) rfl
 refine RH 6 ha hs hH hC λa ha=>?_
 refine QH ha (λw hc=>ld1 ha (hc)) hC λa ha=>?_
 refine RH 0 ha hs hH hC λa ha=>?_
 refine CL 0 ha hs (ref_head hs hk) λa w ha hs=>?_
 replace hC:=hH.at w (by obtain⟨A1,hs⟩:=RefS.open hs;exact hs.rd1 (b:=B.cb) rfl)
 refine RH 0 ha hs hH hC λa ha=>?_
 refine CL 0 ha hs (ref_frontC hs hk) λa w ha hs=>?_
 replace hC:=hH.at w (by obtain⟨A1,hs⟩:=RefS.open hs;exact hs.rd1 (b:=B.cb) rfl)
 refine RH 3 ha hs hH hC λa ha=>?_
 refine IF 0 ha hs (λhc2 a ha=>?_) λhc2 a ha=>?_
 ·
  refine RT 2 ha hs ?_
  exact⟨by rw[pressK,if_neg hcl,if_neg (by omega),if_pos (by omega)],by rw[pressK,if_neg hcl,if_neg (by omega),if_pos (by omega)];exact hs⟩
 refine RN 1 ha hs λa ha=>?_
 obtain⟨A,hs⟩:=RefS.open hs
 have hpk:pressK x k=(0,{ k with ls:=k.ls.set k.me (k.ls.getD k.me []++[x]) }):=by rw[pressK,if_neg hcl,if_neg (by omega),if_neg (by omega)]
 rw[hpk]
 obtain⟨xs,hxs,hs⟩:=RLn.open (hs.pick (RLn B.lb B.lo B.cL k.ls))
 have hxl:xs.length=k.ls.length:=by rw[← hxs,prx_len]
 obtain⟨y,hy⟩:∃ y,xs[k.me]?=some y:=⟨_,List.getElem?_eq_getElem (by omega)⟩
 obtain⟨hyi,hye⟩:=List.getElem?_eq_some_iff.1 hy
 have hyl:k.ls.getD k.me []=y.2.2:=by rw[← hxs,prx_get hy]
 refine DWO 0 [8] [0,1,2,4,5,6,7,3003,1008,9,10] ha hs λa w ha hs hH hC=>?_
 refine RH 11 ha hs hH hC λa ha=>?_
 refine RN 5 ha hs λa ha=>?_
 refine SS ha (ld1 ha ((hs.slRdAt B.lb B.lo (by omega)) k.me (bbv y) (by rw[List.getElem?_map,hy];rfl))) λa ha=>?_
 rw[bbv]at ha
 replace hs:=(hs.pick (All bbo xs)).allOut hyi
 rw[hye]at hs
 have hs0:St W w (Sl 5 1 y.1 y.2.2.length y.2.1 (bc y.2.2)::_):=hs
 clear hs
 have hs:=hs0
 clear hs0
 have hhl:y.2.2.length≤1000:=by rw[← hyl];exact hhd
 refine RN 1 ha hs λa ha=>?_
 refine st_buildSlice ha rfl hs Tryz.underlying22 Ty.t5 rfl rfl rfl rfl (by decide) (by decide) λb43 a w ha hs ho=>?_
 clear ho
 refine RN 0 ha hs λa ha=>?_
 refine st_append ha rfl hs Tryz.underlying22 Ty.t5 rfl rfl hs.rdAll rfl (bc_one [x]) (by decide) (by decide) (by omega) λad44 c44 a w ha hs=>?_
 rw[show bc y.2.2++_=bc (y.2.2++[x]) from (bc_app _ [_]).symm,show y.2.2.length+1=(y.2.2++[x]).length from by simp]at hs
 rw[show y.2.2.length+1=(y.2.2++[x]).length from by simp]at ha
 refine RN 2 ha hs λa ha=>?_
 refine st_storeS (off:=B.lo) (k:=k.me) ha rfl hs Ty.t22 rfl (by omega) (by rw[List.length_map];exact hyi) λa w ha hs=>?_
 rw[show (xs.map bbv).set k.me (.slice ad44 (y.2.2++[x]).length c44)=(xs.set k.me (ad44,c44,y.2.2++[x])).map bbv from map_set1 _ rfl]at hs
 have h2:=hs.arr (M:=[Sl 5 1 ad44 (y.2.2++[x]).length c44 (bc (y.2.2++[x])),All bbo (xs.eraseIdx k.me)])
 simp only[List.cons_append,List.nil_append]at h2
 have h3:=St.allPut (f:=bbo) (x:=(ad44,c44,y.2.2++[x])) hyi h2
 have hls:(k.ls.set k.me (k.ls.getD k.me []++[x])).length=k.ls.length:=List.length_set
 have hpr:prx (xs.set k.me (ad44,c44,y.2.2++[x]))=k.ls.set k.me (k.ls.getD k.me []++[x]):=by rw[prx,map_set,← prx,hxs,hyl]
 have h4:=h3.arr (M:=[Sl 128 1 (some ⟨B.lb,B.lo,none⟩) k.ls.length B.cL ((xs.set k.me (ad44,c44,y.2.2++[x])).map bbv),All bbo (xs.set k.me (ad44,c44,y.2.2++[x]))])
 simp only[List.cons_append,List.nil_append]at h4
 rw[show k.ls.length=(k.ls.set k.me (k.ls.getD k.me []++[x])).length from hls.symm]at h4
 have h5:=RLn.close (xs:=xs.set k.me (ad44,c44,y.2.2++[x])) h4 hpr
 clear hs
 have hs:=h5
 rw[show rcC k B A=rcC { k with ls:=k.ls.set k.me (k.ls.getD k.me []++[x]) } B A from by simp only[rcC,List.length_set]]at hs
 refine RT 2 ha hs ?_
 exact⟨rfl,(RefS.fold hs B { k with ls:=k.ls.set k.me (k.ls.getD k.me []++[x]) } A).sub⟩
end
section
variable {W w:World}{L:List SP}{n c m lb lo i f:Nat}{ad:Option Addr}{ls:List (List UInt8)}{A:RcA}{B:RcB}{x:UInt8}
abbrev rc0 (n me:Nat)(id:Int)(delay window:Nat)(guess order branches workers room:Int)(b8 b11 b14 b17:Nat)(ad:Option Addr)(i c:Nat):List Value:=[.int .i64 n,.int .i64 me,.int .i64 id,.int .i64 delay,.int .i64 window,.int .i64 guess,.int .i64 order,.int .i64 branches,.int .i64 workers,.int .i64 room,.slice ad i c,.int .i64 0,.slice (some ⟨b8,0,none⟩) n n,.slice (some ⟨b11,0,none⟩) n n,.slice (some ⟨b14,0,none⟩) n n,.slice (some ⟨b17,0,none⟩) n n,.slice none 0 0,.slice none 0 0,.bool false]
theorem heC_new (n d:Nat):heC (List.replicate n (pe0 d))=ints .i64 n (λ_=>0):=by rw[heC,List.map_replicate];exact rep_ints _ _ _
theorem haC_new (n d:Nat):haC (List.replicate n (pe0 d))=ints .i64 n (λ_=>d):=by rw[haC,List.map_replicate];exact rep_ints _ _ _
theorem apC_new (n d:Nat):apC (List.replicate n (pe0 d))=List.replicate n (.bool false):=by rw[apC,List.map_replicate];rfl
theorem wdC_new (n d:Nat):rows wdC (List.replicate n (pe0 d))=rows (λ_:Pe=>[Value.int .i64 0,.int .u32 0]) (List.replicate n (pe0 0)):=by
 induction n with
 | zero=>rfl
 | succ n ih=>rw[List.replicate_succ,List.replicate_succ,rows_cons,rows_cons,ih];rfl
theorem bc_zero (d:Nat):List.replicate d (Value.int .u8 0)=bc (List.replicate d 0):=by rw[bc,List.map_replicate];rfl
theorem ref_new {n me delay window:Nat}{id guess order branches workers room:Int}(hs:St W w L)(h:mayCf ⟨n,me,id,delay,window,guess,order,branches,workers,room⟩) :
   Calls Tryz.prog 59 #[.agg (cfC ⟨n,me,id,delay,window,guess,order,branches,workers,room⟩).toArray] w λr w'=>∃ B:RcB,r=.returned (pt B.cb)∧St W w' (RefS B (newK ⟨n,me,id,delay,window,guess,order,branches,workers,room⟩)::L):=by
 obtain⟨⟨h1,h2,h3⟩,⟨h4,h5,h6,h7⟩,h8,h9,h10,h11⟩:=h
 simp only[inI] at *
 refine EN Tryz.func59 Tryz.ntmps59 rfl rfl λa ha=>?_
 refine BX 1 ha hs λb1 a w ha hs=>?_
 change St W w (blk b1 27 [.int .i64 n,.int .i64 me,.int .i64 id,.int .i64 delay,.int .i64 window,.int .i64 guess,.int .i64 order,.int .i64 branches,.int .i64 workers,.int .i64 room]::_) at hs
 refine RN 1 ha hs λa ha=>?_
 refine wp_seq_cut (M:=λa w=>∃ b8 b11 b14 b17 b19:Nat,Fr a 48 [(1,pt b1),(3,pt b19)]∧St W w (blk b19 83 [.int .i64 n,.int .i64 me,.int .i64 id,.int .i64 delay,.int .i64 window,.int .i64 guess,.int .i64 order,.int .i64 branches,.int .i64 workers,.int .i64 room,.slice none 0 0,.int .i64 0,.slice (some ⟨b8,0,none⟩) n n,.slice (some ⟨b11,0,none⟩) n n,.slice (some ⟨b14,0,none⟩) n n,.slice (some ⟨b17,0,none⟩) n n,.slice none 0 0,.slice none 0 0,.bool false]::blk b8 3 (List.replicate n (.int .i64 0))::blk b11 3 (List.replicate n (.int .i64 0))::blk b14 244 (rows (λ_:Pe=>[Value.int .i64 0,.int .u32 0]) (List.replicate n (pe0 0)))::blk b17 4 (List.replicate n (.bool false))::blk b1 27 [.int .i64 n,.int .i64 me,.int .i64 id,.int .i64 delay,.int .i64 window,.int .i64 guess,.int .i64 order,.int .i64 branches,.int .i64 workers,.int .i64 room]::L)) ?_ ?_
 ·
  refine DWO 0 [2,3,5,6,8,9,11,12] [1,4,7,10,3000,3002,3005,3008,3011,2003,2006,2009,1012,13,1014,15] ha hs λa w ha hs hH hC=>?_
  refine RH 9 ha hs hH hC λa ha=>?_
  refine DN [(3,[2006,2009,1012,13,1014,15]),(6,[2003,2009,1012,13,1014,15]),(9,[2003,2006,1012,13,1014,15]),(12,[2003,2006,1009,13,1014,15])] (by kernel_rfl) rfl ⟨⟨_,rfl,?_⟩,⟨_,rfl,?_⟩,⟨_,rfl,?_⟩,⟨_,rfl,?_⟩,trivial⟩
  ·
   refine RH 0 ha hs hH hC λa ha=>?_
   refine st_makeSlice ha rfl hs Tryz.underlying52 Ty.t3 rfl (by omega) (by omega) λb8 a w ha hs ho=>?_
   replace hC:=hC.trans ho
   clear ho
   rw[made1 _ rfl]at hs
   refine RH 0 ha hs hH hC λa ha=>?_
   refine DN [(6,[2009,1012,13,1014,15]),(9,[2006,1012,13,1014,15]),(12,[2006,1009,13,1014,15])] (by kernel_rfl) rfl ⟨⟨_,rfl,?_⟩,⟨_,rfl,?_⟩,⟨_,rfl,?_⟩,trivial⟩
   ·
    refine RH 0 ha hs hH hC λa ha=>?_
    refine st_makeSlice ha rfl hs Tryz.underlying52 Ty.t3 rfl (by omega) (by omega) λb11 a w ha hs ho=>?_
    replace hC:=hC.trans ho
    clear ho
    rw[made1 _ rfl]at hs
    refine RH 0 ha hs hH hC λa ha=>?_
    refine DN [(9,[1012,13,1014,15]),(12,[1009,13,1014,15])] (by kernel_rfl) rfl ⟨⟨_,rfl,?_⟩,⟨_,rfl,?_⟩,trivial⟩
    ·
     refine RH 0 ha hs hH hC λa ha=>?_
     refine st_makeSlice ha rfl hs Tryz.underlying78 Ty.t244 rfl (by omega) (by omega) λb14 a w ha hs ho=>?_
     replace hC:=hC.trans ho
     clear ho
     rw[made2]at hs
     refine RH 0 ha hs hH hC λa ha=>?_
     refine st_makeSlice ha rfl hs Tryz.underlying79 Ty.t4 rfl (by omega) (by omega) λb17 a w ha hs ho=>?_
     replace hC:=hC.trans ho
     clear ho
     rw[made1 _ rfl]at hs
     refine RH 1 ha hs hH hC λa ha=>?_
     refine st_box ha rfl hs rfl λb19 a w ha hs ho=>?_
     replace hC:=hC.trans ho
     clear ho
     refine RH 1 ha hs hH hC λa ha=>?_
     exact⟨b8,b11,b14,b17,b19,ha.keep [1,3],hs.sub⟩
    refine RH 0 ha hs hH hC λa ha=>?_
    refine st_makeSlice ha rfl hs Tryz.underlying79 Ty.t4 rfl (by omega) (by omega) λb17 a w ha hs ho=>?_
    replace hC:=hC.trans ho
    clear ho
    rw[made1 _ rfl]at hs
    refine RH 0 ha hs hH hC λa ha=>?_
    refine st_makeSlice ha rfl hs Tryz.underlying78 Ty.t244 rfl (by omega) (by omega) λb14 a w ha hs ho=>?_
    replace hC:=hC.trans ho
    clear ho
    rw[made2]at hs
    refine RH 1 ha hs hH hC λa ha=>?_
    refine st_box ha rfl hs rfl λb19 a w ha hs ho=>?_
    replace hC:=hC.trans ho
    clear ho
    refine RH 1 ha hs hH hC λa ha=>?_
    exact⟨b8,b11,b14,b17,b19,ha.keep [1,3],hs.sub⟩
   ·
    refine RH 0 ha hs hH hC λa ha=>?_
    refine st_makeSlice ha rfl hs Tryz.underlying78 Ty.t244 rfl (by omega) (by omega) λb14 a w ha hs ho=>?_
    replace hC:=hC.trans ho
    clear ho
    rw[made2]at hs
    refine RH 0 ha hs hH hC λa ha=>?_
    refine DN [(6,[1012,13,1014,15]),(12,[1006,13,1014,15])] (by kernel_rfl) rfl ⟨⟨_,rfl,?_⟩,⟨_,rfl,?_⟩,trivial⟩
    ·
     refine RH 0 ha hs hH hC λa ha=>?_
     refine st_makeSlice ha rfl hs Tryz.underlying52 Ty.t3 rfl (by omega) (by omega) λb11 a w ha hs ho=>?_
     replace hC:=hC.trans ho
     clear ho
     rw[made1 _ rfl]at hs
     refine RH 0 ha hs hH hC λa ha=>?_
     refine st_makeSlice ha rfl hs Tryz.underlying79 Ty.t4 rfl (by omega) (by omega) λb17 a w ha hs ho=>?_
     replace hC:=hC.trans ho
     clear ho
     rw[made1 _ rfl]at hs
     refine RH 1 ha hs hH hC λa ha=>?_
     refine st_box ha rfl hs rfl λb19 a w ha hs ho=>?_
     replace hC:=hC.trans ho
     clear ho
     refine RH 1 ha hs hH hC λa ha=>?_
     exact⟨b8,b11,b14,b17,b19,ha.keep [1,3],hs.sub⟩
    refine RH 0 ha hs hH hC λa ha=>?_
    refine st_makeSlice ha rfl hs Tryz.underlying79 Ty.t4 rfl (by omega) (by omega) λb17 a w ha hs ho=>?_
    replace hC:=hC.trans ho
    clear ho
    rw[made1 _ rfl]at hs
    refine RH 0 ha hs hH hC λa ha=>?_
    refine st_makeSlice ha rfl hs Tryz.underlying52 Ty.t3 rfl (by omega) (by omega) λb11 a w ha hs ho=>?_
    replace hC:=hC.trans ho
    clear ho
    rw[made1 _ rfl]at hs
    refine RH 1 ha hs hH hC λa ha=>?_
    refine st_box ha rfl hs rfl λb19 a w ha hs ho=>?_
    replace hC:=hC.trans ho
    clear ho
    refine RH 1 ha hs hH hC λa ha=>?_
    exact⟨b8,b11,b14,b17,b19,ha.keep [1,3],hs.sub⟩
   refine RH 0 ha hs hH hC λa ha=>?_
   refine st_makeSlice ha rfl hs Tryz.underlying79 Ty.t4 rfl (by omega) (by omega) λb17 a w ha hs ho=>?_
   replace hC:=hC.trans ho
   clear ho
   rw[made1 _ rfl]at hs
   refine RH 0 ha hs hH hC λa ha=>?_
   refine DN [(6,[1009,13,1014,15]),(9,[1006,13,1014,15])] (by kernel_rfl) rfl ⟨⟨_,rfl,?_⟩,⟨_,rfl,?_⟩,trivial⟩
   ·
    refine RH 0 ha hs hH hC λa ha=>?_
    refine st_makeSlice ha rfl hs Tryz.underlying52 Ty.t3 rfl (by omega) (by omega) λb11 a w ha hs ho=>?_
    replace hC:=hC.trans ho
    clear ho
    rw[made1 _ rfl]at hs
    refine RH 0 ha hs hH hC λa ha=>?_
    refine st_makeSlice ha rfl hs Tryz.underlying78 Ty.t244 rfl (by omega) (by omega) λb14 a w ha hs ho=>?_
    replace hC:=hC.trans ho
    clear ho
    rw[made2]at hs
    refine RH 1 ha hs hH hC λa ha=>?_
    refine st_box ha rfl hs rfl λb19 a w ha hs ho=>?_
    replace hC:=hC.trans ho
    clear ho
    refine RH 1 ha hs hH hC λa ha=>?_
    exact⟨b8,b11,b14,b17,b19,ha.keep [1,3],hs.sub⟩
   refine RH 0 ha hs hH hC λa ha=>?_
   refine st_makeSlice ha rfl hs Tryz.underlying78 Ty.t244 rfl (by omega) (by omega) λb14 a w ha hs ho=>?_
   replace hC:=hC.trans ho
   clear ho
   rw[made2]at hs
   refine RH 0 ha hs hH hC λa ha=>?_
   refine st_makeSlice ha rfl hs Tryz.underlying52 Ty.t3 rfl (by omega) (by omega) λb11 a w ha hs ho=>?_
   replace hC:=hC.trans ho
   clear ho
   rw[made1 _ rfl]at hs
   refine RH 1 ha hs hH hC λa ha=>?_
   refine st_box ha rfl hs rfl λb19 a w ha hs ho=>?_
   replace hC:=hC.trans ho
   clear ho
   refine RH 1 ha hs hH hC λa ha=>?_
   exact⟨b8,b11,b14,b17,b19,ha.keep [1,3],hs.sub⟩
  ·
   refine RH 0 ha hs hH hC λa ha=>?_
   refine st_makeSlice ha rfl hs Tryz.underlying52 Ty.t3 rfl (by omega) (by omega) λb11 a w ha hs ho=>?_
   replace hC:=hC.trans ho
   clear ho
   rw[made1 _ rfl]at hs
   refine RH 0 ha hs hH hC λa ha=>?_
   refine DN [(3,[2009,1012,13,1014,15]),(9,[2003,1012,13,1014,15]),(12,[2003,1009,13,1014,15])] (by kernel_rfl) rfl ⟨⟨_,rfl,?_⟩,⟨_,rfl,?_⟩,⟨_,rfl,?_⟩,trivial⟩
   ·
    refine RH 0 ha hs hH hC λa ha=>?_
    refine st_makeSlice ha rfl hs Tryz.underlying52 Ty.t3 rfl (by omega) (by omega) λb8 a w ha hs ho=>?_
    replace hC:=hC.trans ho
    clear ho
    rw[made1 _ rfl]at hs
    refine RH 0 ha hs hH hC λa ha=>?_
    refine DN [(9,[1012,13,1014,15]),(12,[1009,13,1014,15])] (by kernel_rfl) rfl ⟨⟨_,rfl,?_⟩,⟨_,rfl,?_⟩,trivial⟩
    ·
     refine RH 0 ha hs hH hC λa ha=>?_
     refine st_makeSlice ha rfl hs Tryz.underlying78 Ty.t244 rfl (by omega) (by omega) λb14 a w ha hs ho=>?_
     replace hC:=hC.trans ho
     clear ho
     rw[made2]at hs
     refine RH 0 ha hs hH hC λa ha=>?_
     refine st_makeSlice ha rfl hs Tryz.underlying79 Ty.t4 rfl (by omega) (by omega) λb17 a w ha hs ho=>?_
     replace hC:=hC.trans ho
     clear ho
     rw[made1 _ rfl]at hs
     refine RH 1 ha hs hH hC λa ha=>?_
     refine st_box ha rfl hs rfl λb19 a w ha hs ho=>?_
     replace hC:=hC.trans ho
     clear ho
     refine RH 1 ha hs hH hC λa ha=>?_
     exact⟨b8,b11,b14,b17,b19,ha.keep [1,3],hs.sub⟩
    refine RH 0 ha hs hH hC λa ha=>?_
    refine st_makeSlice ha rfl hs Tryz.underlying79 Ty.t4 rfl (by omega) (by omega) λb17 a w ha hs ho=>?_
    replace hC:=hC.trans ho
    clear ho
    rw[made1 _ rfl]at hs
    refine RH 0 ha hs hH hC λa ha=>?_
    refine st_makeSlice ha rfl hs Tryz.underlying78 Ty.t244 rfl (by omega) (by omega) λb14 a w ha hs ho=>?_
    replace hC:=hC.trans ho
    clear ho
    rw[made2]at hs
    refine RH 1 ha hs hH hC λa ha=>?_
    refine st_box ha rfl hs rfl λb19 a w ha hs ho=>?_
    replace hC:=hC.trans ho
    clear ho
    refine RH 1 ha hs hH hC λa ha=>?_
    exact⟨b8,b11,b14,b17,b19,ha.keep [1,3],hs.sub⟩
   ·
    refine RH 0 ha hs hH hC λa ha=>?_
    refine st_makeSlice ha rfl hs Tryz.underlying78 Ty.t244 rfl (by omega) (by omega) λb14 a w ha hs ho=>?_
    replace hC:=hC.trans ho
    clear ho
    rw[made2]at hs
    refine RH 0 ha hs hH hC λa ha=>?_
    refine DN [(3,[1012,13,1014,15]),(12,[1003,13,1014,15])] (by kernel_rfl) rfl ⟨⟨_,rfl,?_⟩,⟨_,rfl,?_⟩,trivial⟩
    ·
     refine RH 0 ha hs hH hC λa ha=>?_
     refine st_makeSlice ha rfl hs Tryz.underlying52 Ty.t3 rfl (by omega) (by omega) λb8 a w ha hs ho=>?_
     replace hC:=hC.trans ho
     clear ho
     rw[made1 _ rfl]at hs
     refine RH 0 ha hs hH hC λa ha=>?_
     refine st_makeSlice ha rfl hs Tryz.underlying79 Ty.t4 rfl (by omega) (by omega) λb17 a w ha hs ho=>?_
     replace hC:=hC.trans ho
     clear ho
     rw[made1 _ rfl]at hs
     refine RH 1 ha hs hH hC λa ha=>?_
     refine st_box ha rfl hs rfl λb19 a w ha hs ho=>?_
     replace hC:=hC.trans ho
     clear ho
     refine RH 1 ha hs hH hC λa ha=>?_
     exact⟨b8,b11,b14,b17,b19,ha.keep [1,3],hs.sub⟩
    refine RH 0 ha hs hH hC λa ha=>?_
    refine st_makeSlice ha rfl hs Tryz.underlying79 Ty.t4 rfl (by omega) (by omega) λb17 a w ha hs ho=>?_
    replace hC:=hC.trans ho
    clear ho
    rw[made1 _ rfl]at hs
    refine RH 0 ha hs hH hC λa ha=>?_
    refine st_makeSlice ha rfl hs Tryz.underlying52 Ty.t3 rfl (by omega) (by omega) λb8 a w ha hs ho=>?_
    replace hC:=hC.trans ho
    clear ho
    rw[made1 _ rfl]at hs
    refine RH 1 ha hs hH hC λa ha=>?_
    refine st_box ha rfl hs rfl λb19 a w ha hs ho=>?_
    replace hC:=hC.trans ho
    clear ho
    refine RH 1 ha hs hH hC λa ha=>?_
    exact⟨b8,b11,b14,b17,b19,ha.keep [1,3],hs.sub⟩
   refine RH 0 ha hs hH hC λa ha=>?_
   refine st_makeSlice ha rfl hs Tryz.underlying79 Ty.t4 rfl (by omega) (by omega) λb17 a w ha hs ho=>?_
   replace hC:=hC.trans ho
   clear ho
   rw[made1 _ rfl]at hs
   refine RH 0 ha hs hH hC λa ha=>?_
   refine DN [(3,[1009,13,1014,15]),(9,[1003,13,1014,15])] (by kernel_rfl) rfl ⟨⟨_,rfl,?_⟩,⟨_,rfl,?_⟩,trivial⟩
   ·
    refine RH 0 ha hs hH hC λa ha=>?_
    refine st_makeSlice ha rfl hs Tryz.underlying52 Ty.t3 rfl (by omega) (by omega) λb8 a w ha hs ho=>?_
    replace hC:=hC.trans ho
    clear ho
    rw[made1 _ rfl]at hs
    refine RH 0 ha hs hH hC λa ha=>?_
    refine st_makeSlice ha rfl hs Tryz.underlying78 Ty.t244 rfl (by omega) (by omega) λb14 a w ha hs ho=>?_
    replace hC:=hC.trans ho
    clear ho
    rw[made2]at hs
    refine RH 1 ha hs hH hC λa ha=>?_
    refine st_box ha rfl hs rfl λb19 a w ha hs ho=>?_
    replace hC:=hC.trans ho
    clear ho
    refine RH 1 ha hs hH hC λa ha=>?_
    exact⟨b8,b11,b14,b17,b19,ha.keep [1,3],hs.sub⟩
   refine RH 0 ha hs hH hC λa ha=>?_
   refine st_makeSlice ha rfl hs Tryz.underlying78 Ty.t244 rfl (by omega) (by omega) λb14 a w ha hs ho=>?_
   replace hC:=hC.trans ho
   clear ho
   rw[made2]at hs
   refine RH 0 ha hs hH hC λa ha=>?_
   refine st_makeSlice ha rfl hs Tryz.underlying52 Ty.t3 rfl (by omega) (by omega) λb8 a w ha hs ho=>?_
   replace hC:=hC.trans ho
   clear ho
   rw[made1 _ rfl]at hs
   refine RH 1 ha hs hH hC λa ha=>?_
   refine st_box ha rfl hs rfl λb19 a w ha hs ho=>?_
   replace hC:=hC.trans ho
   clear ho
   refine RH 1 ha hs hH hC λa ha=>?_
   exact⟨b8,b11,b14,b17,b19,ha.keep [1,3],hs.sub⟩
  ·
   refine RH 0 ha hs hH hC λa ha=>?_
   refine st_makeSlice ha rfl hs Tryz.underlying78 Ty.t244 rfl (by omega) (by omega) λb14 a w ha hs ho=>?_
   replace hC:=hC.trans ho
   clear ho
   rw[made2]at hs
   refine RH 0 ha hs hH hC λa ha=>?_
   refine DN [(3,[2006,1012,13,1014,15]),(6,[2003,1012,13,1014,15]),(12,[2003,1006,13,1014,15])] (by kernel_rfl) rfl ⟨⟨_,rfl,?_⟩,⟨_,rfl,?_⟩,⟨_,rfl,?_⟩,trivial⟩
   ·
    refine RH 0 ha hs hH hC λa ha=>?_
    refine st_makeSlice ha rfl hs Tryz.underlying52 Ty.t3 rfl (by omega) (by omega) λb8 a w ha hs ho=>?_
    replace hC:=hC.trans ho
    clear ho
    rw[made1 _ rfl]at hs
    refine RH 0 ha hs hH hC λa ha=>?_
    refine DN [(6,[1012,13,1014,15]),(12,[1006,13,1014,15])] (by kernel_rfl) rfl ⟨⟨_,rfl,?_⟩,⟨_,rfl,?_⟩,trivial⟩
    ·
     refine RH 0 ha hs hH hC λa ha=>?_
     refine st_makeSlice ha rfl hs Tryz.underlying52 Ty.t3 rfl (by omega) (by omega) λb11 a w ha hs ho=>?_
     replace hC:=hC.trans ho
     clear ho
     rw[made1 _ rfl]at hs
     refine RH 0 ha hs hH hC λa ha=>?_
     refine st_makeSlice ha rfl hs Tryz.underlying79 Ty.t4 rfl (by omega) (by omega) λb17 a w ha hs ho=>?_
     replace hC:=hC.trans ho
     clear ho
     rw[made1 _ rfl]at hs
     refine RH 1 ha hs hH hC λa ha=>?_
     refine st_box ha rfl hs rfl λb19 a w ha hs ho=>?_
     replace hC:=hC.trans ho
     clear ho
     refine RH 1 ha hs hH hC λa ha=>?_
     exact⟨b8,b11,b14,b17,b19,ha.keep [1,3],hs.sub⟩
    refine RH 0 ha hs hH hC λa ha=>?_
    refine st_makeSlice ha rfl hs Tryz.underlying79 Ty.t4 rfl (by omega) (by omega) λb17 a w ha hs ho=>?_
    replace hC:=hC.trans ho
    clear ho
    rw[made1 _ rfl]at hs
    refine RH 0 ha hs hH hC λa ha=>?_
    refine st_makeSlice ha rfl hs Tryz.underlying52 Ty.t3 rfl (by omega) (by omega) λb11 a w ha hs ho=>?_
    replace hC:=hC.trans ho
    clear ho
    rw[made1 _ rfl]at hs
    refine RH 1 ha hs hH hC λa ha=>?_
    refine st_box ha rfl hs rfl λb19 a w ha hs ho=>?_
    replace hC:=hC.trans ho
    clear ho
    refine RH 1 ha hs hH hC λa ha=>?_
    exact⟨b8,b11,b14,b17,b19,ha.keep [1,3],hs.sub⟩
   ·
    refine RH 0 ha hs hH hC λa ha=>?_
    refine st_makeSlice ha rfl hs Tryz.underlying52 Ty.t3 rfl (by omega) (by omega) λb11 a w ha hs ho=>?_
    replace hC:=hC.trans ho
    clear ho
    rw[made1 _ rfl]at hs
    refine RH 0 ha hs hH hC λa ha=>?_
    refine DN [(3,[1012,13,1014,15]),(12,[1003,13,1014,15])] (by kernel_rfl) rfl ⟨⟨_,rfl,?_⟩,⟨_,rfl,?_⟩,trivial⟩
    ·
     refine RH 0 ha hs hH hC λa ha=>?_
     refine st_makeSlice ha rfl hs Tryz.underlying52 Ty.t3 rfl (by omega) (by omega) λb8 a w ha hs ho=>?_
     replace hC:=hC.trans ho
     clear ho
     rw[made1 _ rfl]at hs
     refine RH 0 ha hs hH hC λa ha=>?_
     refine st_makeSlice ha rfl hs Tryz.underlying79 Ty.t4 rfl (by omega) (by omega) λb17 a w ha hs ho=>?_
     replace hC:=hC.trans ho
     clear ho
     rw[made1 _ rfl]at hs
     refine RH 1 ha hs hH hC λa ha=>?_
     refine st_box ha rfl hs rfl λb19 a w ha hs ho=>?_
     replace hC:=hC.trans ho
     clear ho
     refine RH 1 ha hs hH hC λa ha=>?_
     exact⟨b8,b11,b14,b17,b19,ha.keep [1,3],hs.sub⟩
    refine RH 0 ha hs hH hC λa ha=>?_
    refine st_makeSlice ha rfl hs Tryz.underlying79 Ty.t4 rfl (by omega) (by omega) λb17 a w ha hs ho=>?_
    replace hC:=hC.trans ho
    clear ho
    rw[made1 _ rfl]at hs
    refine RH 0 ha hs hH hC λa ha=>?_
    refine st_makeSlice ha rfl hs Tryz.underlying52 Ty.t3 rfl (by omega) (by omega) λb8 a w ha hs ho=>?_
    replace hC:=hC.trans ho
    clear ho
    rw[made1 _ rfl]at hs
    refine RH 1 ha hs hH hC λa ha=>?_
    refine st_box ha rfl hs rfl λb19 a w ha hs ho=>?_
    replace hC:=hC.trans ho
    clear ho
    refine RH 1 ha hs hH hC λa ha=>?_
    exact⟨b8,b11,b14,b17,b19,ha.keep [1,3],hs.sub⟩
   refine RH 0 ha hs hH hC λa ha=>?_
   refine st_makeSlice ha rfl hs Tryz.underlying79 Ty.t4 rfl (by omega) (by omega) λb17 a w ha hs ho=>?_
   replace hC:=hC.trans ho
   clear ho
   rw[made1 _ rfl]at hs
   refine RH 0 ha hs hH hC λa ha=>?_
   refine DN [(3,[1006,13,1014,15]),(6,[1003,13,1014,15])] (by kernel_rfl) rfl ⟨⟨_,rfl,?_⟩,⟨_,rfl,?_⟩,trivial⟩
   ·
    refine RH 0 ha hs hH hC λa ha=>?_
    refine st_makeSlice ha rfl hs Tryz.underlying52 Ty.t3 rfl (by omega) (by omega) λb8 a w ha hs ho=>?_
    replace hC:=hC.trans ho
    clear ho
    rw[made1 _ rfl]at hs
    refine RH 0 ha hs hH hC λa ha=>?_
    refine st_makeSlice ha rfl hs Tryz.underlying52 Ty.t3 rfl (by omega) (by omega) λb11 a w ha hs ho=>?_
    replace hC:=hC.trans ho
    clear ho
    rw[made1 _ rfl]at hs
    refine RH 1 ha hs hH hC λa ha=>?_
    refine st_box ha rfl hs rfl λb19 a w ha hs ho=>?_
    replace hC:=hC.trans ho
    clear ho
    refine RH 1 ha hs hH hC λa ha=>?_
    exact⟨b8,b11,b14,b17,b19,ha.keep [1,3],hs.sub⟩
   refine RH 0 ha hs hH hC λa ha=>?_
   refine st_makeSlice ha rfl hs Tryz.underlying52 Ty.t3 rfl (by omega) (by omega) λb11 a w ha hs ho=>?_
   replace hC:=hC.trans ho
   clear ho
   rw[made1 _ rfl]at hs
   refine RH 0 ha hs hH hC λa ha=>?_
   refine st_makeSlice ha rfl hs Tryz.underlying52 Ty.t3 rfl (by omega) (by omega) λb8 a w ha hs ho=>?_
   replace hC:=hC.trans ho
   clear ho
   rw[made1 _ rfl]at hs
   refine RH 1 ha hs hH hC λa ha=>?_
   refine st_box ha rfl hs rfl λb19 a w ha hs ho=>?_
   replace hC:=hC.trans ho
   clear ho
   refine RH 1 ha hs hH hC λa ha=>?_
   exact⟨b8,b11,b14,b17,b19,ha.keep [1,3],hs.sub⟩
  refine RH 0 ha hs hH hC λa ha=>?_
  refine st_makeSlice ha rfl hs Tryz.underlying79 Ty.t4 rfl (by omega) (by omega) λb17 a w ha hs ho=>?_
  replace hC:=hC.trans ho
  clear ho
  rw[made1 _ rfl]at hs
  refine RH 0 ha hs hH hC λa ha=>?_
  refine DN [(3,[2006,1009,13,1014,15]),(6,[2003,1009,13,1014,15]),(9,[2003,1006,13,1014,15])] (by kernel_rfl) rfl ⟨⟨_,rfl,?_⟩,⟨_,rfl,?_⟩,⟨_,rfl,?_⟩,trivial⟩
  ·
   refine RH 0 ha hs hH hC λa ha=>?_
   refine st_makeSlice ha rfl hs Tryz.underlying52 Ty.t3 rfl (by omega) (by omega) λb8 a w ha hs ho=>?_
   replace hC:=hC.trans ho
   clear ho
   rw[made1 _ rfl]at hs
   refine RH 0 ha hs hH hC λa ha=>?_
   refine DN [(6,[1009,13,1014,15]),(9,[1006,13,1014,15])] (by kernel_rfl) rfl ⟨⟨_,rfl,?_⟩,⟨_,rfl,?_⟩,trivial⟩
   ·
    refine RH 0 ha hs hH hC λa ha=>?_
    refine st_makeSlice ha rfl hs Tryz.underlying52 Ty.t3 rfl (by omega) (by omega) λb11 a w ha hs ho=>?_
    replace hC:=hC.trans ho
    clear ho
    rw[made1 _ rfl]at hs
    refine RH 0 ha hs hH hC λa ha=>?_
    refine st_makeSlice ha rfl hs Tryz.underlying78 Ty.t244 rfl (by omega) (by omega) λb14 a w ha hs ho=>?_
    replace hC:=hC.trans ho
    clear ho
    rw[made2]at hs
    refine RH 1 ha hs hH hC λa ha=>?_
    refine st_box ha rfl hs rfl λb19 a w ha hs ho=>?_
    replace hC:=hC.trans ho
    clear ho
    refine RH 1 ha hs hH hC λa ha=>?_
    exact⟨b8,b11,b14,b17,b19,ha.keep [1,3],hs.sub⟩
   refine RH 0 ha hs hH hC λa ha=>?_
   refine st_makeSlice ha rfl hs Tryz.underlying78 Ty.t244 rfl (by omega) (by omega) λb14 a w ha hs ho=>?_
   replace hC:=hC.trans ho
   clear ho
   rw[made2]at hs
   refine RH 0 ha hs hH hC λa ha=>?_
   refine st_makeSlice ha rfl hs Tryz.underlying52 Ty.t3 rfl (by omega) (by omega) λb11 a w ha hs ho=>?_
   replace hC:=hC.trans ho
   clear ho
   rw[made1 _ rfl]at hs
   refine RH 1 ha hs hH hC λa ha=>?_
   refine st_box ha rfl hs rfl λb19 a w ha hs ho=>?_
   replace hC:=hC.trans ho
   clear ho
   refine RH 1 ha hs hH hC λa ha=>?_
   exact⟨b8,b11,b14,b17,b19,ha.keep [1,3],hs.sub⟩
  ·
   refine RH 0 ha hs hH hC λa ha=>?_
   refine st_makeSlice ha rfl hs Tryz.underlying52 Ty.t3 rfl (by omega) (by omega) λb11 a w ha hs ho=>?_
   replace hC:=hC.trans ho
   clear ho
   rw[made1 _ rfl]at hs
   refine RH 0 ha hs hH hC λa ha=>?_
   refine DN [(3,[1009,13,1014,15]),(9,[1003,13,1014,15])] (by kernel_rfl) rfl ⟨⟨_,rfl,?_⟩,⟨_,rfl,?_⟩,trivial⟩
   ·
    refine RH 0 ha hs hH hC λa ha=>?_
    refine st_makeSlice ha rfl hs Tryz.underlying52 Ty.t3 rfl (by omega) (by omega) λb8 a w ha hs ho=>?_
    replace hC:=hC.trans ho
    clear ho
    rw[made1 _ rfl]at hs
    refine RH 0 ha hs hH hC λa ha=>?_
    refine st_makeSlice ha rfl hs Tryz.underlying78 Ty.t244 rfl (by omega) (by omega) λb14 a w ha hs ho=>?_
    replace hC:=hC.trans ho
    clear ho
    rw[made2]at hs
    refine RH 1 ha hs hH hC λa ha=>?_
    refine st_box ha rfl hs rfl λb19 a w ha hs ho=>?_
    replace hC:=hC.trans ho
    clear ho
    refine RH 1 ha hs hH hC λa ha=>?_
    exact⟨b8,b11,b14,b17,b19,ha.keep [1,3],hs.sub⟩
   refine RH 0 ha hs hH hC λa ha=>?_
   refine st_makeSlice ha rfl hs Tryz.underlying78 Ty.t244 rfl (by omega) (by omega) λb14 a w ha hs ho=>?_
   replace hC:=hC.trans ho
   clear ho
   rw[made2]at hs
   refine RH 0 ha hs hH hC λa ha=>?_
   refine st_makeSlice ha rfl hs Tryz.underlying52 Ty.t3 rfl (by omega) (by omega) λb8 a w ha hs ho=>?_
   replace hC:=hC.trans ho
   clear ho
   rw[made1 _ rfl]at hs
   refine RH 1 ha hs hH hC λa ha=>?_
   refine st_box ha rfl hs rfl λb19 a w ha hs ho=>?_
   replace hC:=hC.trans ho
   clear ho
   refine RH 1 ha hs hH hC λa ha=>?_
   exact⟨b8,b11,b14,b17,b19,ha.keep [1,3],hs.sub⟩
  refine RH 0 ha hs hH hC λa ha=>?_
  refine st_makeSlice ha rfl hs Tryz.underlying78 Ty.t244 rfl (by omega) (by omega) λb14 a w ha hs ho=>?_
  replace hC:=hC.trans ho
  clear ho
  rw[made2]at hs
  refine RH 0 ha hs hH hC λa ha=>?_
  refine DN [(3,[1006,13,1014,15]),(6,[1003,13,1014,15])] (by kernel_rfl) rfl ⟨⟨_,rfl,?_⟩,⟨_,rfl,?_⟩,trivial⟩
  ·
   refine RH 0 ha hs hH hC λa ha=>?_
   refine st_makeSlice ha rfl hs Tryz.underlying52 Ty.t3 rfl (by omega) (by omega) λb8 a w ha hs ho=>?_
   replace hC:=hC.trans ho
   clear ho
   rw[made1 _ rfl]at hs
   refine RH 0 ha hs hH hC λa ha=>?_
   refine st_makeSlice ha rfl hs Tryz.underlying52 Ty.t3 rfl (by omega) (by omega) λb11 a w ha hs ho=>?_
   replace hC:=hC.trans ho
   clear ho
   rw[made1 _ rfl]at hs
   refine RH 1 ha hs hH hC λa ha=>?_
   refine st_box ha rfl hs rfl λb19 a w ha hs ho=>?_
   replace hC:=hC.trans ho
   clear ho
   refine RH 1 ha hs hH hC λa ha=>?_
   exact⟨b8,b11,b14,b17,b19,ha.keep [1,3],hs.sub⟩
  refine RH 0 ha hs hH hC λa ha=>?_
  refine st_makeSlice ha rfl hs Tryz.underlying52 Ty.t3 rfl (by omega) (by omega) λb11 a w ha hs ho=>?_
  replace hC:=hC.trans ho
  clear ho
  rw[made1 _ rfl]at hs
  refine RH 0 ha hs hH hC λa ha=>?_
  refine st_makeSlice ha rfl hs Tryz.underlying52 Ty.t3 rfl (by omega) (by omega) λb8 a w ha hs ho=>?_
  replace hC:=hC.trans ho
  clear ho
  rw[made1 _ rfl]at hs
  refine RH 1 ha hs hH hC λa ha=>?_
  refine st_box ha rfl hs rfl λb19 a w ha hs ho=>?_
  replace hC:=hC.trans ho
  clear ho
  refine RH 1 ha hs hH hC λa ha=>?_
  exact⟨b8,b11,b14,b17,b19,ha.keep [1,3],hs.sub⟩
 clear ha;(try clear hs)
 rintro a w ⟨b8,b11,b14,b17,b19,ha,hs⟩
 refine RN 3 ha hs λa ha=>?_
 replace hs:=hs.sl0 128 1 none
 replace hs:=St.allNil (f:=bbo) hs
 rw[rep_ints]at hs
 refine wp_loop_ghost (λμ a w=>∃ (i:Nat) (xs:List BBx) (adL:Option Addr) (cL:Nat),(μ=n-i∧i≤n∧prx xs=List.replicate i (List.replicate delay 0))∧Fr a 48 [(1,pt b1),(3,pt b19),(4,.int .i64 i)]∧St W w (blk b19 83 (rc0 n me id delay window guess order branches workers room b8 b11 b14 b17 adL i cL)::Sl 128 1 adL i cL (xs.map bbv)::All bbo xs::blk b8 3 (ints .i64 n (λ_=>0))::blk b11 3 (ints .i64 n (λj=>if j<i then delay else 0))::blk b14 244 (rows (λ_:Pe=>[Value.int .i64 0,.int .u32 0]) (List.replicate n (pe0 0)))::blk b17 4 (List.replicate n (.bool false))::blk b1 27 [.int .i64 n,.int .i64 me,.int .i64 id,.int .i64 delay,.int .i64 window,.int .i64 guess,.int .i64 order,.int .i64 branches,.int .i64 workers,.int .i64 room]::L)) (n) (⟨0,[],none,0,⟨rfl,by omega,rfl⟩,ha.keep [1,3,4],(hs.sub:St W w (blk b19 83 (rc0 n me id delay window guess order branches workers room b8 b11 b14 b17 none 0 0)::Sl 128 1 none 0 0 []::All bbo []::blk b8 3 (ints .i64 n (λ_=>0))::blk b11 3 (ints .i64 n (λ_=>0))::blk b14 244 (rows (λ_:Pe=>[Value.int .i64 0,.int .u32 0]) (List.replicate n (pe0 0)))::blk b17 4 (List.replicate n (.bool false))::blk b1 27 [.int .i64 n,.int .i64 me,.int .i64 id,.int .i64 delay,.int .i64 window,.int .i64 guess,.int .i64 order,.int .i64 branches,.int .i64 workers,.int .i64 room]::L))⟩) ?_
 clear ha hs
 rintro μ a w ⟨i,xs,adL,cL,⟨rfl,hi,hxs⟩,ha,hs⟩
 refine IF 6 ha hs (λhc0 a ha=>?_) λhc0 a ha=>?_
 ·
  refine DWO 2 [6,7,8,9] [0,1,2,3,5,3004,1006,1007,1008,1009,1010,11,12,1013] ha hs λa w ha hs hH hC=>?_
  refine RH 7 ha hs hH hC λa ha=>?_
  refine st_makeSlice ha rfl hs Tryz.underlying22 Ty.t5 rfl (by omega) (by omega) λb33 a w ha hs ho=>?_
  replace hC:=hC.trans ho
  clear ho
  rw[made1 _ rfl,bc_zero]at hs
  replace hs:=hs.slWhole (m:=delay) (sz:=1) (by rw[bc_len,List.length_replicate,Nat.mul_one])
  refine RH 1 ha hs hH hC λa ha=>?_
  refine st_buildSlice ha rfl hs Tryz.underlying77 Ty.t128 rfl rfl rfl rfl (by decide) (by decide) λb35 a w ha hs ho=>?_
  replace hC:=hC.trans ho
  clear ho
  refine RH 0 ha hs hH hC λa ha=>?_
  refine st_append ha rfl hs Tryz.underlying77 Ty.t128 rfl rfl hs.rdAll rfl (by simp[Value.oneCell']) (by decide) (by decide) (by omega) λad36 c36 a w ha hs=>?_
  rw[show List.map bbv xs++_=List.map bbv (xs++[(some (⟨b33,0,none⟩:Addr),delay,List.replicate delay 0)]) from by rw[List.map_append,List.map_singleton,bbv,List.length_replicate];rfl]at hs
  refine ST 2 ha hs (λa w ha hs=>?_)
  refine RN 0 ha hs λa ha=>?_
  refine DWO 0 [6] [0,1,2,4,5,3003,1006,7,1008] ha hs λa w ha hs hH hC=>?_
  refine RH 8 ha hs hH hC λa ha=>?_
  refine ST 0 ha hs (λa w ha hs=>?_) (hlt:=(by rw[ints_len];omega))
  rw[ints_set,ints_congr (g:=λj=>if j=i then (delay:Int) else if j<i then (delay:Int) else 0) (g':=λj=>if j<i+1 then (delay:Int) else 0) (λj _=>by
    by_cases h1:j=i
    · subst h1;simp
    · by_cases h2:j<i
      · simp[h1,h2,show j<i+1 from by omega]
      · simp[h1,h2,show ¬ j<i+1 from by omega])]at hs
  refine RN 3 ha hs λa ha=>?_
  have hs2:=St.allPush (f:=bbo) (x:=(some (⟨b33,0,none⟩:Addr),delay,List.replicate delay 0)) (by
    show St _ _ (Sl 5 1 (some (⟨b33,0,none⟩:Addr)) (List.replicate delay (0:UInt8)).length delay (bc (List.replicate delay 0))::_)
    rw[List.length_replicate]
    exact hs.sub (M:=Sl 5 1 (some ⟨b33,0,none⟩) delay delay (bc (List.replicate delay 0))::All bbo xs::blk b19 83 (rc0 n me id delay window guess order branches workers room b8 b11 b14 b17 ad36 (i+1) c36)::Sl 128 1 ad36 (i+1) c36 ((xs++[(some (⟨b33,0,none⟩:Addr),delay,List.replicate delay 0)]).map bbv)::blk b8 3 (ints .i64 n (λ_=>0))::blk b11 3 (ints .i64 n (λj=>if j<i+1 then (delay:Int) else 0))::blk b14 244 (rows (λ_:Pe=>[Value.int .i64 0,.int .u32 0]) (List.replicate n (pe0 0)))::blk b17 4 (List.replicate n (.bool false))::blk b1 27 [.int .i64 n,.int .i64 me,.int .i64 id,.int .i64 delay,.int .i64 window,.int .i64 guess,.int .i64 order,.int .i64 branches,.int .i64 workers,.int .i64 room]::L))
  exact⟨n-(i+1),by omega,i+1,xs++[(some (⟨b33,0,none⟩:Addr),delay,List.replicate delay 0)],ad36,c36,⟨rfl,by omega,by rw[prx,List.map_append,← prx,hxs,List.replicate_succ'];rfl⟩,ha.keep [1,3,4],hs2.sub⟩
 refine RT 3 ha hs ?_
 obtain rfl:i=n:=by omega
 obtain⟨lb,lo,rfl,_⟩:=(hs.pick (Sl 128 1 adL i cL (xs.map bbv))).slRd adL (by omega)
 rw[ints_congr (g:=λj=>if j<i then (delay:Int) else 0) (g':=λ_=>(delay:Int)) (λj hj=>by simp[hj])]at hs
 refine⟨⟨b19,lb,lo,cL,b8,b11,b14,b17⟩,rfl,?_⟩
 have hll:(newK ⟨i,me,id,delay,window,guess,order,branches,workers,room⟩).ls.length=i:=by simp[newK]
 have h9:=hs.sub (M:=Sl 128 1 (some ⟨lb,lo,none⟩) i cL (xs.map bbv)::All bbo xs::blk b19 83 (rc0 i me id delay window guess order branches workers room b8 b11 b14 b17 (some ⟨lb,lo,none⟩) i cL)::blk b8 3 (ints .i64 i (λ_=>0))::blk b11 3 (ints .i64 i (λ_=>(delay:Int)))::blk b14 244 (rows (λ_:Pe=>[Value.int .i64 0,.int .u32 0]) (List.replicate i (pe0 0)))::blk b17 4 (List.replicate i (.bool false))::L)
 have h8:=RLn.close (ls:=List.replicate i (List.replicate delay 0)) (by rw[List.length_replicate];exact h9) hxs
 replace h8:=St.sl0 (St.sl0 h8 68 1 none) 223 3 none
 refine St.shut (M:=[_,_,_,_,_,_,_,_]) (A:=RefS _ _) ?_ (λ_ h=>⟨⟨none,0,none,0⟩,h⟩)
 have hps:(newK ⟨i,me,id,delay,window,guess,order,branches,workers,room⟩).ps=List.replicate i (pe0 delay):=by simp[newK]
 rw[rcC,hll,hps,heC_new,haC_new,apC_new,wdC_new]
 exact h8.sub (M:=blk b19 83 (rc0 i me id delay window guess order branches workers room b8 b11 b14 b17 (some ⟨lb,lo,none⟩) i cL)::RLn lb lo cL (List.replicate i (List.replicate delay 0))::blk b8 3 (ints .i64 i (λ_=>0))::blk b11 3 (ints .i64 i (λ_=>(delay:Int)))::blk b14 244 (rows (λ_:Pe=>[Value.int .i64 0,.int .u32 0]) (List.replicate i (pe0 0)))::blk b17 4 (List.replicate i (.bool false))::Sl 68 1 none 0 0 []::Sl 223 3 none 0 0 []::L)
end
section
variable {W w:World}{L L':List SP}{n c m lb lo i f cl:Nat}{ad:Option Addr}{ls:List (List UInt8)}{k:Ks}{A:RcA}{B:RcB}{x:UInt8}
theorem ref_fromX {fr m at' cq:Nat}{adq:Option Addr}{q:List UInt8}(hs:St W w L)(hcy:w.cell? ⟨lb,at',none⟩=some (.slice adq q.length cq))(hqc:q.length≤cq)(hry:∀ w',St W w' L→RdB w' adq q.length q)(hl:q.length≤1000)(hf:fr≤1000)(hk:1≤m∧m≤1000) :
   Calls Tryz.prog 73 #[.pointer (some ⟨lb,at',none⟩),.int .i64 fr,.int .i64 m] w λr w'=>∃ ad' c',r=.returned (.slice ad' ((q.drop fr).take m).length c')∧St W w' (Sl 5 1 ad' ((q.drop fr).take m).length c' (bc ((q.drop fr).take m))::L):=by
 refine EN Tryz.func73 Tryz.ntmps73 rfl rfl λa ha=>?_
 refine RN 7 ha hs λa ha=>?_
 rw[decide_eq_false (by omega)]at ha
 refine RN 4 ha hs λa ha=>?_
 refine st_set ha (wgT ha rfl (s:=10)) (ld1 ha (hcy)) rfl λa ha=>?_
 refine BY 4 ha hs (λhg11 a ha=>?_) λhg11 a ha=>?_
 ·
  refine RT 6 ha hs ?_
  have hz:(q.drop fr).take m=[]:=by rw[List.drop_eq_nil_of_le (by omega),List.take_nil]
  rw[hz];exact⟨none,0,rfl,hs.sl0 _ _ none⟩
 refine RN 3 ha hs λa ha=>?_
 rw[decide_eq_false (by omega)]at ha
 refine RN 5 ha hs λa ha=>?_
 refine SS ha (ld1 ha (hcy)) λa ha=>?_
 refine RN 9 ha hs λa ha=>?_
 rw[show min (m:Int) ((((q.length-fr:Nat):Int)))=((min m (q.length-fr):Nat):Int) from by omega]at ha
 refine RN 1 ha hs λa ha=>?_
 rw[cutAd_zero,Nat.sub_zero,Nat.sub_zero]at ha
 have hcut:=((hry _ hs).cutLH (c:=cq) (lo:=fr) (n:=min m (q.length-fr)) (by omega) hqc)
 have hte:(q.drop fr).take (min m (q.length-fr))=(q.drop fr).take m:=by rw[List.take_eq_take_iff,List.length_drop];omega
 rw[hte]at hcut
 have htl:min m (q.length-fr)=((q.drop fr).take m).length:=by rw[List.length_take,List.length_drop]
 rw[htl]at ha hcut
 replace hs:=hs.sl0 5 1 none
 refine st_appendT ha rfl hs Tryz.underlying22 Ty.t5 rfl rfl (by decide) (λh0=>hcut.get h0) (by rw[bc_len];omega) (bc_one _) (by rw[List.length_take,List.length_drop];omega) λad35 c35 a w ha hs=>?_
 rw[List.nil_append,Nat.zero_add]at hs
 rw[Nat.zero_add]at ha
 refine RT 1 ha hs ?_
 exact⟨_,_,rfl,hs⟩
theorem RefS.cbX (hs:St W w (RefS B k::L)):∃ (A:RcA) (D:SP),St W w (blk B.cb 83 (rcC k B A)::D::L)∧∀ (w':World) (L':List SP) (nw:Nat) (cl:Bool),St W w' (blk B.cb 83 (rcC { k with now:=nw,cl:=cl } B A)::D::L')→St W w' (RefS B { k with now:=nw,cl:=cl }::L'):=by
 obtain⟨A,hs⟩:=RefS.open hs
 have h1:St W w ([RLn B.lb B.lo B.cL k.ls,blk B.hb 3 (heC k.ps),blk B.ab 3 (haC k.ps),blk B.wb 244 (rows wdC k.ps),blk B.xb 4 (apC k.ps),Sl 68 1 A.adM k.mr.length A.cM (mrC k.mr),Sl 223 3 A.adE k.ev.length A.cE (rows rawC k.ev)]++(blk B.cb 83 (rcC k B A)::L)):=hs.sub (M:=RLn B.lb B.lo B.cL k.ls::blk B.hb 3 (heC k.ps)::blk B.ab 3 (haC k.ps)::blk B.wb 244 (rows wdC k.ps)::blk B.xb 4 (apC k.ps)::Sl 68 1 A.adM k.mr.length A.cM (mrC k.mr)::Sl 223 3 A.adE k.ev.length A.cE (rows rawC k.ev)::blk B.cb 83 (rcC k B A)::L)
 refine⟨A,λh=>sepL [RLn B.lb B.lo B.cL k.ls,blk B.hb 3 (heC k.ps),blk B.ab 3 (haC k.ps),blk B.wb 244 (rows wdC k.ps),blk B.xb 4 (apC k.ps),Sl 68 1 A.adM k.mr.length A.cM (mrC k.mr),Sl 223 3 A.adE k.ev.length A.cE (rows rawC k.ev)] h,?_,λw' L' nw cl hs=>?_⟩
 · exact (St.shut (A:=λh=>sepL [RLn B.lb B.lo B.cL k.ls,blk B.hb 3 (heC k.ps),blk B.ab 3 (haC k.ps),blk B.wb 244 (rows wdC k.ps),blk B.xb 4 (apC k.ps),Sl 68 1 A.adM k.mr.length A.cM (mrC k.mr),Sl 223 3 A.adE k.ev.length A.cE (rows rawC k.ev)] h) h1 λ_ h=>h).perm (List.Perm.swap _ _ _)
 · have h2:St W w' (RLn B.lb B.lo B.cL k.ls::blk B.hb 3 (heC k.ps)::blk B.ab 3 (haC k.ps)::blk B.wb 244 (rows wdC k.ps)::blk B.xb 4 (apC k.ps)::Sl 68 1 A.adM k.mr.length A.cM (mrC k.mr)::Sl 223 3 A.adE k.ev.length A.cE (rows rawC k.ev)::blk B.cb 83 (rcC { k with now:=nw,cl:=cl } B A)::L'):=(hs.perm (List.Perm.swap _ _ _)).open (M:=[_,_,_,_,_,_,_]) λ_ h=>h
   exact RefS.fold h2 B { k with now:=nw,cl:=cl } A
def mlQ (k:Ks)(i:Nat):List Ml:=(othN k i).map λj=>(k.me,j,encO (quitPk k j))
def mlT (k:Ks)(i:Nat):List Ml:=(othN k i).map λj=>(k.me,j,encO (mailPk k j))
theorem ref_quit (hs:St W w (RefS B k::L))(hk:WC k):Calls Tryz.prog 30 #[pt B.cb] w λr w'=>∃ ad c,r=.returned (.slice ad (quitK k).1.length c)∧St W w' (OwnMl 138 ad (quitK k).1.length c (quitK k).1::RefS B (quitK k).2::L):=by
 have hn:=hk.n
 obtain⟨A,D,hs,hD⟩:=RefS.cbX hs
 refine EN Tryz.func30 Tryz.ntmps30 rfl rfl λa ha=>?_
 refine IF 8 ha hs (λhc0 a ha=>?_) λhc0 a ha=>?_
 ·
  refine RT 2 ha hs ?_
  refine⟨none,0,by rw[quitK,if_pos hc0];rfl,?_⟩
  rw[quitK,if_pos hc0]
  exact OwnMl.nil (hD _ _ k.now k.cl hs)
 refine RN 5 ha hs λa ha=>?_
 have hq:quitK k=((othersK k).map λi=>(k.me,i,encO (quitPk k i)),{ k with cl:=true }):=by rw[quitK,if_neg (by rw[hc0];decide)]
 replace hs:=St.sl0 (St.allNil (f:=mlo) hs) 138 3 none
 refine wp_loop_ghost (λμ a w=>∃ (i:Nat) (xs:List Mx) (ad:Option Addr) (c:Nat),(μ=k.n-i∧i≤k.n∧xs.map (·.2.2)=mlQ k i∧xs.length≤i)∧Fr a 52 [(0,pt B.cb),(3,.slice ad xs.length c),(4,.int .i64 i)]∧St W w (Sl 138 3 ad xs.length c (rows mlC xs)::All mlo xs::blk B.cb 83 (rcC k B A)::D::L)) (k.n) (⟨0,[],none,0,⟨rfl,by omega,rfl,Nat.le_refl _⟩,ha.keep [0,3,4],hs⟩) ?_
 clear ha hs
 rintro μ a w ⟨i,xs,ad,c,⟨rfl,hi,hxm,hxl⟩,ha,hs⟩
 refine IF 9 ha hs (λhc1 a ha=>?_) λhc1 a ha=>?_
 ·
  have hsu:mlQ k (i+1)=if i=k.me then mlQ k i else mlQ k i++[(k.me,i,encO (quitPk k i))]:=by
    rw[mlQ,othN_succ]
    split
    · rfl
    · rw[List.map_append];rfl
  refine IF 9 ha hs (λhc2 a ha=>?_) λhc2 a ha=>?_
  ·
   rw[if_neg (by omega)]at hsu
   refine DWC 0 (λw0 w'=>Rd w' B.cb 0 (rcC k B A)) [11,17,18,19] [0,1,2,3,4,6,7,8,9,10,12,13,14,15,16,3005,3011,1017,1018,1019,20,1021,1022,23] ha hs λa w ha hs hH=>?_
   have hC:=hH.at w (hs.rdAll (b:=B.cb))
   refine RH 15 ha hs hH hC λa ha=>?_
   refine QH ha (λw hc=>ld1 ha (hc 1 _ rfl)) hC λa ha=>?_
   refine QH ha (λw hc=>ld1 ha (hc 1 _ rfl)) hC λa ha=>?_
   refine RH 0 ha hs hH hC λa ha=>?_
   refine SS ha (ld1 ha (hC 2 _ rfl)) λa ha=>?_
   refine RH 1 ha hs hH hC λa ha=>?_
   refine CL2 0 ha hs (refPacket_spec (p:=quitPk k i) (ad:=none) (c:=0) hs (by show 0<4294967296;decide) (λw' hw=>RdB.nil)) λad2 c2 a w ha hs=>?_
   replace hC:=hH.at w (hs.rdAll (b:=B.cb))
   refine RH 1 ha hs hH hC λa ha=>?_
   refine st_buildSlice ha rfl hs Tryz.underlying54 Ty.t138 rfl rfl rfl rfl (by decide) (by decide) λb46 a w ha hs ho=>?_
   clear ho
   refine RN 0 ha hs λa ha=>?_
   refine st_append ha rfl hs Tryz.underlying54 Ty.t138 rfl rfl hs.rdAll rfl (by simp[Value.oneCell']) (by decide) (by decide) (by omega) λad47 c47 a w ha hs=>?_
   rw[show rows mlC xs++_=rows mlC (xs++[(ad2,c2,(k.me,i,encO (quitPk k i)))]) from by rw[rows_app];rfl,show xs.length+1=(xs++[(ad2,c2,(k.me,i,encO (quitPk k i)))]).length from by simp]at hs
   rw[show xs.length+1=(xs++[(ad2,c2,(k.me,i,encO (quitPk k i)))]).length from by simp]at ha
   refine RN 1 ha hs λa ha=>?_
   refine RN 3 ha hs λa ha=>?_
   have hs2:=St.allPush (f:=mlo) (x:=(ad2,c2,(k.me,i,encO (quitPk k i)))) (hs.sub (M:=Sl 5 1 ad2 (encO (quitPk k i)).length c2 (bc (encO (quitPk k i)))::All mlo xs::Sl 138 3 ad47 (xs++[(ad2,c2,(k.me,i,encO (quitPk k i)))]).length c47 (rows mlC (xs++[(ad2,c2,(k.me,i,encO (quitPk k i)))]))::blk B.cb 83 (rcC k B A)::D::L))
   exact⟨k.n-(i+1),by omega,i+1,xs++[(ad2,c2,(k.me,i,encO (quitPk k i)))],ad47,c47,⟨rfl,by omega,by rw[List.map_append,hxm,hsu];rfl,by rw[List.length_append];simp;omega⟩,ha.keep [0,3,4],hs2.sub⟩
  rw[if_pos (by omega)]at hsu
  refine RN 3 ha hs λa ha=>?_
  exact⟨k.n-(i+1),by omega,i+1,xs,ad,c,⟨rfl,by omega,by rw[hsu,hxm],by omega⟩,ha.keep [0,3,4],hs⟩
 obtain rfl:i=k.n:=by omega
 refine ST 4 ha hs (λa w ha hs=>?_)
 refine RT 3 ha hs ?_
 have hll:xs.length=((othersK k).map λi=>(k.me,i,encO (quitPk k i))).length:=by
   have h1:(xs.map (·.2.2)).length=(mlQ k k.n).length:=by rw[hxm]
   rw[List.length_map]at h1
   exact h1
 rw[hq]
 refine⟨ad,c,by rw[hll],?_⟩
 rw[hll]at hs
 have h5:=hD _ _ k.now true (hs.sub (M:=blk B.cb 83 (rcC { k with now:=k.now,cl:=true } B A)::D::Sl 138 3 ad ((othersK k).map λi=>(k.me,i,encO (quitPk k i))).length c (rows mlC xs)::All mlo xs::L))
 exact OwnMl.close (xs:=xs) h5.sub hxm rfl
theorem othersK_find {k:Ks}{i:Nat}(h1:∀ j,j<i→j≠k.me→¬ lateP k j)(hi:i<k.n)(hm:i≠k.me)(hl:lateP k i):(othersK k).find? (λi=>decide (lateP k i))=some i:=by
 rw[othersK,List.find?_filter,List.find?_range_eq_some]
 refine⟨by simp[hm,hl],by simpa using hi,λj hj=>?_⟩
 by_cases hjm:j=k.me
 · simp[hjm]
 · simp[h1 j hj hjm]
theorem othersK_none {k:Ks}(h1:∀ j,j<k.n→j≠k.me→¬ lateP k j):(othersK k).find? (λi=>decide (lateP k i))=none :=
 find_no λj hj=>decide_eq_false (h1 j (othersK_mem.1 hj).1 (othersK_mem.1 hj).2)
set_option maxHeartbeats 2000000 in
theorem ref_tick (hs:St W w (RefS B k::L))(hk:WC k)(hnw:k.now≤1000000):Calls Tryz.prog 28 #[pt B.cb] w λr w'=>∃ ad c,r=.returned (.slice ad (tickK k).1.length c)∧St W w' (OwnMl 138 ad (tickK k).1.length c (tickK k).1::RefS B (tickK k).2::L):=by
 have hn:=hk.n
 obtain⟨A0,D,hs,hD⟩:=RefS.cbX hs
 refine EN Tryz.func28 Tryz.ntmps28 rfl rfl λa ha=>?_
 refine IF 8 ha hs (λhc0 a ha=>?_) λhc0 a ha=>?_
 ·
  refine RT 2 ha hs ?_
  refine⟨none,0,by rw[tickK,if_pos hc0];rfl,?_⟩
  rw[tickK,if_pos hc0]
  exact OwnMl.nil (hD _ _ k.now k.cl hs)
 have hq2:tickK k=(match (othersK { k with now:=k.now+1 }).find? (λi=>decide (lateP { k with now:=k.now+1 } i)) with
   | some i=>([],{ ({ k with now:=k.now+1 }:Ks) with ev:=({ k with now:=k.now+1 }:Ks).ev++[(2,i,0)],cl:=true })
   | none=>((othersK { k with now:=k.now+1 }).map λi=>(({ k with now:=k.now+1 }:Ks).me,i,encO (mailPk { k with now:=k.now+1 } i)),{ k with now:=k.now+1 })):=by rw[tickK,if_neg (by rw[hc0];decide)];rfl
 refine RN 6 ha hs λa ha=>?_
 rw[show ((k.now:Nat):Int)+1=((k.now+1:Nat):Int) from by omega]at ha
 refine ST 2 ha hs (λa w ha hs=>?_)
 refine RN 0 ha hs λa ha=>?_
 replace hs:=hD _ _ (k.now+1) k.cl hs
 clear hD
 have hk':WC { k with now:=k.now+1 }:=hk.nowUp
 have hev:=hk.evl
 have hnw':({ k with now:=k.now+1 }:Ks).now≤1000001:=by show k.now+1≤_;omega
 have hev':({ k with now:=k.now+1 }:Ks).ev.length≤9:=hev
 have hn':2≤({ k with now:=k.now+1 }:Ks).n∧({ k with now:=k.now+1 }:Ks).n≤8:=hn
 have hcl':({ k with now:=k.now+1 }:Ks).cl=false:=hc0
 replace hs:St W w (RefS B { k with now:=k.now+1 }::L):=hs
 generalize ({ k with now:=k.now+1 }:Ks)=k1 at hs hk' hq2 hnw' hev' hn' hcl'
 obtain⟨A,hs⟩:=RefS.open hs
 refine RN 3 ha hs λa ha=>?_
 refine wp_loop_ghost (λμ a w=>∃ (i:Nat),(μ=k1.n-i∧i≤k1.n∧∀ j,j<i→j≠k1.me→¬ lateP k1 j)∧Fr a 154 [(0,pt B.cb),(3,.int .i64 i)]∧St W w (blk B.cb 83 (rcC k1 B A)::RLn B.lb B.lo B.cL k1.ls::blk B.hb 3 (heC k1.ps)::blk B.ab 3 (haC k1.ps)::blk B.wb 244 (rows wdC k1.ps)::blk B.xb 4 (apC k1.ps)::Sl 68 1 A.adM k1.mr.length A.cM (mrC k1.mr)::Sl 223 3 A.adE k1.ev.length A.cE (rows rawC k1.ev)::L)) (k1.n) (⟨0,⟨rfl,by omega,λj hj=>by omega⟩,ha.keep [0,3],hs⟩) ?_
 clear ha hs
 rintro μ a w ⟨i,⟨rfl,hi,hno⟩,ha,hs⟩
 refine IF 9 ha hs (λhc1 a ha=>?_) λhc1 a ha=>?_
 ·
  have hin:i<k1.n:=by omega
  have hil:i<k1.ps.length:=by rw[hk'.ps];exact hin
  have hpt:=hk'.pet hin
  have hat:=peK_at hil
  refine DWO 2 [15,17,18] [0,1,2,3,4,1005,6,7,8,9,10,12,13,14,16,3011,1015,1017,1018,19,20,21] ha hs λa w ha hs hH hC=>?_
  have hrc:Rd w B.cb 0 (rcC k1 B A):=hs.rdAll (b:=B.cb)
  have hrh:=hs.rd1 (b:=B.hb) (heC_at hat)
  refine RH 5 ha hs hH hC λa ha=>?_
  refine SS ha (ld1 ha (hrc 1 _ rfl)) λa ha=>?_
  refine RH 2 ha hs hH hC λa ha=>?_
  refine ha.by (s:=34) (λhg7 ha=>?_) (λhg7 ha=>?_)
  ·
   refine RH 7 ha hs hH hC λa ha=>?_
   refine QH ha (λw hc=>ld1 ha (hc.cell (hrc 11 _ rfl))) hC λa ha=>?_
   refine RH 0 ha hs hH hC λa ha=>?_
   refine st_set ha (wgT ha rfl (s:=34)) (ld1 ha (hrc 12 _ rfl)) rfl λa ha=>?_
   refine RH 1 ha hs hH hC λa ha=>?_
   refine st_set ha (wgT ha rfl (s:=34)) (ld1 ha (hrh)) rfl λa ha=>?_
   refine RH 3 ha hs hH hC λa ha=>?_
   refine IF 0 ha hs (λhc2 a ha=>?_) λhc2 a ha=>?_
   ·
    have hlt:lateP k1 i:=by rw[lateP];omega
    rw[othersK_find hno hin (by omega) hlt]at hq2
    replace hs:=RefS.fold hs B k1 A
    refine CL 3 ha hs (ref_event (kd:=2) (pl:=i) (fr:=0) hs (by omega)) λa w ha hs=>?_
    refine RN 1 ha hs λa ha=>?_
    obtain⟨A2,D2,hs,hD2⟩:=RefS.cbX hs
    refine ST 3 ha hs (λa w ha hs=>?_)
    refine RN 0 ha hs λa ha=>?_
    replace hs:=hD2 _ _ k1.now true hs
    refine RT 2 ha hs ?_
    rw[hq2]
    exact⟨none,0,rfl,OwnMl.nil hs⟩
   refine RN 3 ha hs λa ha=>?_
   exact⟨k1.n-(i+1),by omega,i+1,⟨rfl,by omega,λj hj hjm=>by
     by_cases h:j=i
     · subst h;rw[lateP];omega
     · exact hno j (by omega) hjm⟩,ha.keep [0,3],hs⟩
  refine RH 14 ha hs hH hC λa ha=>?_
  refine RN 4 ha hs λa ha=>?_
  exact⟨k1.n-(i+1),by omega,i+1,⟨rfl,by omega,λj hj hjm=>by
    by_cases h:j=i
    · omega
    · exact hno j (by omega) hjm⟩,ha.keep [0,3],hs⟩
 obtain rfl:i=k1.n:=by omega
 rw[othersK_none hno]at hq2
 clear hno
 have hmr:=hk'.mr
 have hme:k1.me<k1.ls.length:=by rw[hk'.ls];exact hk'.me
 obtain⟨xs,hxs,hs⟩:=RLn.open (hs.pick (RLn B.lb B.lo B.cL k1.ls))
 have hxl:xs.length=k1.ls.length:=by rw[← hxs,prx_len]
 obtain⟨y,hy⟩:∃ y,xs[k1.me]?=some y:=⟨_,List.getElem?_eq_getElem (by omega)⟩
 have hyq:k1.ls.getD k1.me []=y.2.2:=by rw[← hxs,prx_get hy]
 have hyl:y.2.2.length≤1000:=by rw[← hyq];exact hk'.headt
 have hyc:y.2.2.length≤y.2.1:=by
   obtain⟨hyi,hye⟩:=List.getElem?_eq_some_iff.1 hy
   have h1:=((hs.pick (All bbo xs)).allOut hyi)
   rw[hye]at h1
   have h2:St W w (Sl 5 1 y.1 y.2.2.length y.2.1 (bc y.2.2)::_):=h1
   exact (h2.sl y.1).2
 refine RN 5 ha hs λa ha=>?_
 replace hs:=St.sl0 (St.allNil (f:=mlo) hs) 138 3 none
 refine wp_loop_ghost (λμ a w=>∃ (i:Nat) (zs:List Mx) (ad:Option Addr) (c:Nat),(μ=k1.n-i∧i≤k1.n∧zs.map (·.2.2)=mlT k1 i∧zs.length≤i)∧Fr a 154 [(0,pt B.cb),(4,.slice ad zs.length c),(5,.int .i64 i)]∧St W w (Sl 138 3 ad zs.length c (rows mlC zs)::All mlo zs::blk B.cb 83 (rcC k1 B A)::Sl 128 1 (some ⟨B.lb,B.lo,none⟩) k1.ls.length B.cL (xs.map bbv)::All bbo xs::blk B.hb 3 (heC k1.ps)::blk B.ab 3 (haC k1.ps)::blk B.wb 244 (rows wdC k1.ps)::blk B.xb 4 (apC k1.ps)::Sl 68 1 A.adM k1.mr.length A.cM (mrC k1.mr)::Sl 223 3 A.adE k1.ev.length A.cE (rows rawC k1.ev)::L)) (k1.n) (⟨0,[],none,0,⟨(Nat.sub_zero _).symm,Nat.zero_le _,rfl,Nat.le_refl _⟩,ha.keep [0,4,5],(show St W w (Sl 138 3 none ([]:List Mx).length 0 (rows mlC [])::All mlo []::_) from hs).sub⟩) ?_
 clear ha hs
 rintro μ a w ⟨i,zs,ad,c,⟨rfl,hi,hzm,hzl⟩,ha,hs⟩
 refine IF 9 ha hs (λhc3 a ha=>?_) λhc3 a ha=>?_
 ·
  have hsu:mlT k1 (i+1)=if i=k1.me then mlT k1 i else mlT k1 i++[(k1.me,i,encO (mailPk k1 i))]:=by
    rw[mlT,othN_succ]
    split
    · rfl
    · rw[List.map_append];rfl
  have hin:i<k1.n:=by omega
  have hil:i<k1.ps.length:=by rw[hk'.ps];exact hin
  have hpt:=hk'.pet hin
  have hat:=peK_at hil
  obtain⟨z,hz⟩:∃ z,xs[i]?=some z:=⟨_,List.getElem?_eq_getElem (by rw[hxl,hk'.ls];exact hin)⟩
  have hzq:k1.ls.getD i []=z.2.2:=by rw[← hxs,prx_get hz]
  refine IF 10 ha hs (λhc4 a ha=>?_) λhc4 a ha=>?_
  ·
   rw[if_pos (by omega)]at hsu
   refine RN 3 ha hs λa ha=>?_
   exact⟨k1.n-(i+1),by omega,i+1,zs,ad,c,⟨rfl,by omega,by rw[hsu,hzm],by omega⟩,ha.keep [0,4,5],hs⟩
  rw[if_neg (by omega)]at hsu
  refine RN 0 ha hs λa ha=>?_
  refine wp_seq_cut (M:=λa w=>∃ (b6:Nat) (adp:Option Addr) (cp:Nat),Fr a 154 [(0,pt B.cb),(4,.slice ad zs.length c),(5,.int .i64 i),(6,pt b6)]∧St W w (blk b6 70 [.int .i64 1,.int .i64 k1.me,.int .i64 i,.int .i64 k1.id,.int .i64 (peK k1 i).has,.slice adp ((y.2.2.drop (peK k1 i).has).take 32).length cp,.int .i64 z.2.2.length,.int .i64 k1.mr.length,.int .u32 0]::Sl 5 1 adp ((y.2.2.drop (peK k1 i).has).take 32).length cp (bc ((y.2.2.drop (peK k1 i).has).take 32))::Sl 138 3 ad zs.length c (rows mlC zs)::All mlo zs::blk B.cb 83 (rcC k1 B A)::Sl 128 1 (some ⟨B.lb,B.lo,none⟩) k1.ls.length B.cL (xs.map bbv)::All bbo xs::blk B.hb 3 (heC k1.ps)::blk B.ab 3 (haC k1.ps)::blk B.wb 244 (rows wdC k1.ps)::blk B.xb 4 (apC k1.ps)::Sl 68 1 A.adM k1.mr.length A.cM (mrC k1.mr)::Sl 223 3 A.adE k1.ev.length A.cE (rows rawC k1.ev)::L)) ?_ ?_
  ·
   refine DWC 0 (λw0 w'=>Rd w' B.cb 0 (rcC k1 B A)∧w'.cell? ⟨B.ab,i,none⟩=some (.int .i64 (peK k1 i).has)∧Rd w' B.lb B.lo (xs.map bbv)) [10,14,16,17,21,26,27,31,33,34,35,39,41,42,43,44,48,49,51] [0,1,2,3,5,6,7,8,9,11,12,13,15,18,19,20,22,23,24,25,28,29,30,32,36,37,38,40,45,46,47,3004,3010,3014,3016,3017,3021,3026,3027,3031,3033,3034,3039,3041,3042,3043,3044,3048,3049,2035,50,1051,1052] ha hs λa w ha hs hH=>?_
   have hC:=hH.at w ⟨hs.rdAll (b:=B.cb),hs.rd1 (b:=B.ab) (haC_at hat),hs.slRdAt B.lb B.lo (by omega)⟩
   refine RH 31 ha hs hH hC λa ha=>?_
   refine QH ha (λw hc=>ld1 ha (hc.1 1 _ rfl)) hC λa ha=>?_
   refine QH ha (λw hc=>ld1 ha (hc.1 2 _ rfl)) hC λa ha=>?_
   refine QH ha (λw hc=>ld1 ha (hc.1 13 _ rfl)) hC λa ha=>?_
   refine RH 1 ha hs hH hC λa ha=>?_
   refine QH ha (λw hc=>ld1 ha (hc.2.1)) hC λa ha=>?_
   refine QH ha (λw hc=>ld1 ha (hc.1 10 _ rfl)) hC λa ha=>?_
   refine QH ha (λw hc=>ld1 ha (hc.1 1 _ rfl)) hC λa ha=>?_
   refine RH 1 ha hs hH hC λa ha=>?_
   refine QH ha (λw hc=>ld1 ha (hc.1 13 _ rfl)) hC λa ha=>?_
   refine RH 1 ha hs hH hC λa ha=>?_
   refine QH ha (λw hc=>ld1 ha (hc.2.1)) hC λa ha=>?_
   refine QH ha (λw hc=>ld1 ha (hc.1 10 _ rfl)) hC λa ha=>?_
   refine QH ha (λw hc=>ex_indexAddr ha Tryz.underlying77 Ty.t128 (by rw[hk'.ls];exact hin)) hC λa ha=>?_
   rw[Nat.mul_one]at ha
   refine RH 1 ha hs hH hC λa ha=>?_
   refine QH ha (λw hc=>ld1 ha (hc.2.2 i (bbv z) (by rw[List.getElem?_map,hz];rfl))) hC λa ha=>?_
   rw[bbv]at ha
   refine RH 1 ha hs hH hC λa ha=>?_
   refine QH ha (λw hc=>ld1 ha (hc.1 16 _ rfl)) hC λa ha=>?_
   refine RH 1 ha hs hH hC λa ha=>?_
   refine DN [(35,[50,1051,1052]),(51,[1035,50,1052])] (by kernel_rfl) rfl ⟨⟨_,rfl,?_⟩,⟨_,rfl,?_⟩,trivial⟩
   ·
    refine RH 0 ha hs hH hC λa ha=>?_
    refine CL2 0 ha hs (ref_fromX (q:=y.2.2) (adq:=y.1) (cq:=y.2.1) (m:=32) hs (by have h9:=hC.2.2 k1.me (bbv y) (by rw[List.getElem?_map,hy];rfl);exact h9) hyc (λw' hw=>(St.rdXe (hw.sub (M:=Sl 128 1 (some ⟨B.lb,B.lo,none⟩) k1.ls.length B.cL (xs.map bbv)::All bbo xs::[]))).2 y (List.mem_of_getElem? hy)) hyl hpt.1 (by decide)) λadp cp a w ha hs=>?_
    replace hC:=hH.at w ⟨hs.rdAll (b:=B.cb),hs.rd1 (b:=B.ab) (haC_at hat),hs.slRdAt B.lb B.lo (by omega)⟩
    refine RH 1 ha hs hH hC λa ha=>?_
    refine st_alloc ha rfl hs Ty.t70 rfl λb6 a w ha hs ho=>?_
    clear ho
    replace hC:=hH.at w ⟨hs.rdAll (b:=B.cb),hs.rd1 (b:=B.ab) (haC_at hat),hs.slRdAt B.lb B.lo (by omega)⟩
    refine RH 0 ha hs hH hC λa ha=>?_
    refine SA 0 ha hs λa w ha hs=>?_
    refine RN 0 ha hs λa ha=>?_
    exact⟨b6,adp,cp,ha.keep [0,4,5,6],hs.sub⟩
   refine RH 0 ha hs hH hC λa ha=>?_
   refine st_alloc ha rfl hs Ty.t70 rfl λb6 a w ha hs ho=>?_
   clear ho
   replace hC:=hH.at w ⟨hs.rdAll (b:=B.cb),hs.rd1 (b:=B.ab) (haC_at hat),hs.slRdAt B.lb B.lo (by omega)⟩
   refine RH 0 ha hs hH hC λa ha=>?_
   refine CL2 0 ha hs (ref_fromX (q:=y.2.2) (adq:=y.1) (cq:=y.2.1) (m:=32) hs (by have h9:=hC.2.2 k1.me (bbv y) (by rw[List.getElem?_map,hy];rfl);exact h9) hyc (λw' hw=>(St.rdXe (hw.sub (M:=Sl 128 1 (some ⟨B.lb,B.lo,none⟩) k1.ls.length B.cL (xs.map bbv)::All bbo xs::[]))).2 y (List.mem_of_getElem? hy)) hyl hpt.1 (by decide)) λadp cp a w ha hs=>?_
   replace hC:=hH.at w ⟨hs.rdAll (b:=B.cb),hs.rd1 (b:=B.ab) (haC_at hat),hs.slRdAt B.lb B.lo (by omega)⟩
   refine RH 1 ha hs hH hC λa ha=>?_
   refine SA 0 ha hs λa w ha hs=>?_
   refine RN 0 ha hs λa ha=>?_
   exact⟨b6,adp,cp,ha.keep [0,4,5,6],hs.sub⟩
  clear ha;(try clear hs)
  rintro a w ⟨b6,adp,cp,ha,hs⟩
  refine wp_seq_cut (M:=λa w=>Fr a 154 [(0,pt B.cb),(4,.slice ad zs.length c),(5,.int .i64 i),(6,pt b6)]∧St W w (blk b6 70 [.int .i64 1,.int .i64 k1.me,.int .i64 i,.int .i64 k1.id,.int .i64 (peK k1 i).has,.slice adp ((y.2.2.drop (peK k1 i).has).take 32).length cp,.int .i64 z.2.2.length,.int .i64 k1.mr.length,.int .u32 (k1.mr.getLastD 0:Nat)]::Sl 5 1 adp ((y.2.2.drop (peK k1 i).has).take 32).length cp (bc ((y.2.2.drop (peK k1 i).has).take 32))::Sl 138 3 ad zs.length c (rows mlC zs)::All mlo zs::blk B.cb 83 (rcC k1 B A)::Sl 128 1 (some ⟨B.lb,B.lo,none⟩) k1.ls.length B.cL (xs.map bbv)::All bbo xs::blk B.hb 3 (heC k1.ps)::blk B.ab 3 (haC k1.ps)::blk B.wb 244 (rows wdC k1.ps)::blk B.xb 4 (apC k1.ps)::Sl 68 1 A.adM k1.mr.length A.cM (mrC k1.mr)::Sl 223 3 A.adE k1.ev.length A.cE (rows rawC k1.ev)::L)) ?_ ?_
  ·
   refine IF 7 ha hs (λhc5 a ha=>?_) λhc5 a ha=>?_
   ·
    refine DWO 0 [7,8,9] [0,1,2,4,5,6,3003,1007,1008,1009,10,1011,12,1013] ha hs λa w ha hs hH hC=>?_
    obtain⟨bm,om,hme2,hrm⟩:=((hs).pick (Sl 68 1 A.adM k1.mr.length A.cM (mrC k1.mr))).slRd A.adM (by omega)
    have hrc:w.cell? ⟨B.cb,16,none⟩=some (.slice A.adM k1.mr.length A.cM):=hs.rd1 (b:=B.cb) rfl
    rw[hme2]at hrc
    refine RH 6 ha hs hH hC λa ha=>?_
    refine QH ha (λw hc=>ld1 ha (hc.cell (hrc))) hC λa ha=>?_
    refine RH 0 ha hs hH hC λa ha=>?_
    refine SS ha (ld1 ha (hrc)) λa ha=>?_
    refine RH 2 ha hs hH hC λa ha=>?_
    rw[show ((k1.mr.length:Nat):Int)-1=((k1.mr.length-1:Nat):Int) from by omega]at ha
    refine RH 1 ha hs hH hC λa ha=>?_
    refine SS ha (ld1 ha (hrm (k1.mr.length-1) _ (mrC_get (by omega)))) λa ha=>?_
    refine RH 1 ha hs hH hC λa ha=>?_
    refine ST 0 ha hs (λa w ha hs=>?_)
    refine RN 0 ha hs λa ha=>?_
    rw[lastD_get (by omega)]at hs
    exact⟨ha.keep [0,4,5,6],hs.sub⟩
   refine RN 0 ha hs λa ha=>?_
   have h0:k1.mr.getLastD 0=0:=by rw[List.eq_nil_of_length_eq_zero (l:=k1.mr) (by omega)];rfl
   exact⟨ha.keep [0,4,5,6],by rw[h0];exact hs⟩
  clear ha;(try clear hs)
  rintro a w ⟨ha,hs⟩
  refine RN 0 ha hs λa ha=>?_
  have hmp:pkC (mailPk k1 i) adp cp=[.int .i64 1,.int .i64 k1.me,.int .i64 i,.int .i64 k1.id,.int .i64 (peK k1 i).has,.slice adp ((y.2.2.drop (peK k1 i).has).take 32).length cp,.int .i64 z.2.2.length,.int .i64 k1.mr.length,.int .u32 (k1.mr.getLastD 0:Nat)]:=by
    rw[← hyq,← hzq];rfl
  have hmpp:(mailPk k1 i).press=(y.2.2.drop (peK k1 i).has).take 32:=by rw[← hyq];rfl
  rw[← hmp]at hs
  refine DWC 0 (λw0 w'=>Rd w' B.cb 0 (rcC k1 B A)∧Rd w' b6 0 (pkC (mailPk k1 i) adp cp)) [7,8] [0,1,2,3,4,6,3005,1007,1008,9,1010,1011,12] ha hs λa w ha hs hH=>?_
  have hC:=hH.at w ⟨hs.rdAll (b:=B.cb),hs.rdAll (b:=b6)⟩
  refine RH 6 ha hs hH hC λa ha=>?_
  refine QH ha (λw hc=>ld1 ha (hc.1 1 _ rfl)) hC λa ha=>?_
  refine RH 0 ha hs hH hC λa ha=>?_
  refine SS ha (ex_loadN ha Tryz.underlying70 rfl Ty.t70 (hC.2)) λa ha=>?_
  refine RH 0 ha hs hH hC λa ha=>?_
  refine CL2 0 ha hs (refPacket_spec (p:=mailPk k1 i) (ad:=adp) (c:=cp) hs (by
    show k1.mr.getLastD 0<4294967296
    rw[List.getLastD_eq_getLast?]
    cases hl:k1.mr.getLast? with
    | none=>decide
    | some s=>exact hk'.mrs s (List.mem_of_getLast? hl)) (λw' hw=>by
    have h9:=(hw.pick (Sl 5 1 adp ((y.2.2.drop (peK k1 i).has).take 32).length cp (bc ((y.2.2.drop (peK k1 i).has).take 32)))).rdB adp _ rfl rfl
    rw[hmpp];exact h9)) λad2 c2 a w ha hs=>?_
  replace hC:=hH.at w ⟨hs.rdAll (b:=B.cb),hs.rdAll (b:=b6)⟩
  refine RH 1 ha hs hH hC λa ha=>?_
  refine st_buildSlice ha rfl hs Tryz.underlying54 Ty.t138 rfl rfl rfl rfl (by decide) (by decide) λb151 a w ha hs ho=>?_
  clear ho
  refine RN 0 ha hs λa ha=>?_
  refine st_append ha rfl hs Tryz.underlying54 Ty.t138 rfl rfl hs.rdAll rfl (by simp[Value.oneCell']) (by decide) (by decide) (by omega) λad152 c152 a w ha hs=>?_
  rw[show rows mlC zs++_=rows mlC (zs++[(ad2,c2,(k1.me,i,encO (mailPk k1 i)))]) from by rw[rows_app];rfl,show zs.length+1=(zs++[(ad2,c2,(k1.me,i,encO (mailPk k1 i)))]).length from by simp]at hs
  rw[show zs.length+1=(zs++[(ad2,c2,(k1.me,i,encO (mailPk k1 i)))]).length from by simp]at ha
  refine RN 1 ha hs λa ha=>?_
  refine RN 3 ha hs λa ha=>?_
  have hs2:=St.allPush (f:=mlo) (x:=(ad2,c2,(k1.me,i,encO (mailPk k1 i)))) (hs.sub (M:=Sl 5 1 ad2 (encO (mailPk k1 i)).length c2 (bc (encO (mailPk k1 i)))::All mlo zs::Sl 138 3 ad152 (zs++[(ad2,c2,(k1.me,i,encO (mailPk k1 i)))]).length c152 (rows mlC (zs++[(ad2,c2,(k1.me,i,encO (mailPk k1 i)))]))::blk B.cb 83 (rcC k1 B A)::Sl 128 1 (some ⟨B.lb,B.lo,none⟩) k1.ls.length B.cL (xs.map bbv)::All bbo xs::blk B.hb 3 (heC k1.ps)::blk B.ab 3 (haC k1.ps)::blk B.wb 244 (rows wdC k1.ps)::blk B.xb 4 (apC k1.ps)::Sl 68 1 A.adM k1.mr.length A.cM (mrC k1.mr)::Sl 223 3 A.adE k1.ev.length A.cE (rows rawC k1.ev)::L))
  exact⟨k1.n-(i+1),by omega,i+1,zs++[(ad2,c2,(k1.me,i,encO (mailPk k1 i)))],ad152,c152,⟨rfl,by omega,by rw[List.map_append,hzm,hsu];rfl,by rw[List.length_append];simp;omega⟩,ha.keep [0,4,5],hs2.sub⟩
 obtain rfl:i=k1.n:=by omega
 refine RT 3 ha hs ?_
 have hll:zs.length=((othersK k1).map λi=>(k1.me,i,encO (mailPk k1 i))).length:=by
   have h1:(zs.map (·.2.2)).length=(mlT k1 k1.n).length:=by rw[hzm]
   rw[List.length_map]at h1
   exact h1
 rw[hq2]
 refine⟨ad,c,by rw[hll],?_⟩
 rw[hll]at hs
 have h4:=RLn.close (xs:=xs) (ls:=k1.ls) (lb:=B.lb) (lo:=B.lo) (c:=B.cL) (W:=W) (w:=w) (L:=Sl 138 3 ad ((othersK k1).map λi=>(k1.me,i,encO (mailPk k1 i))).length c (rows mlC zs)::All mlo zs::blk B.cb 83 (rcC k1 B A)::blk B.hb 3 (heC k1.ps)::blk B.ab 3 (haC k1.ps)::blk B.wb 244 (rows wdC k1.ps)::blk B.xb 4 (apC k1.ps)::Sl 68 1 A.adM k1.mr.length A.cM (mrC k1.mr)::Sl 223 3 A.adE k1.ev.length A.cE (rows rawC k1.ev)::L) hs.sub hxs
 have h5:=(RefS.fold h4 B k1 A)
 exact OwnMl.close (xs:=zs) h5.sub hzm rfl
end
end
end Go.Proofs.YtdilfdkendjjhaaGreat
