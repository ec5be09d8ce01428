/- The document's player without its game: how it lies in memory; quintainref21.within, May, New, Head, Front, event, held, Mark, Told. -/
import Derived.Test.YtdilfdkendjjhaaGreatQ11Core
import Derived.Test.YtdilfdkendjjhaaGreatQ13Sort
import Derived.Test.YtdilfdkendjjhaaGreatQ01Fast
import Derived.Test.YtdilfdkendjjhaaGreatQ14MulT
namespace Go.Proofs.YtdilfdkendjjhaaGreat
open Go.RowKit
set_option linter.unusedVariables false
set_option linter.unusedSimpArgs false
set_option maxRecDepth 10000
set_option synthInstance.maxSize 4000
set_option synthInstance.maxHeartbeats 400000
section
theorem made1 (z:Value)(h:z.cells=#[z])(n:Nat):(madeCells z.cells (n*1)).toList=List.replicate n z:=by
 apply List.ext_getElem?
 intro i
 rw[madeCells,Array.getElem?_toList,Array.getElem?_map,Array.getElem?_range,h,List.getElem?_replicate]
 by_cases hi:i<n
 · simp[hi,Nat.mod_one]
 · simp[hi]
theorem made2 (n:Nat):(madeCells (Value.agg #[.int .i64 0,.int .u32 0]).cells (n*2)).toList=rows (λ_:Pe=>[Value.int .i64 0,.int .u32 0]) (List.replicate n (pe0 0)):=by
 have hl:∀ m:Nat,(madeCells (Value.agg #[.int .i64 0,.int .u32 0]).cells m).toList=(List.range m).map λi=>if i%2=0 then Value.int .i64 0 else .int .u32 0:=by
   intro m
   apply List.ext_getElem?
   intro i
   rw[madeCells,Array.getElem?_toList,Array.getElem?_map,Array.getElem?_range,List.getElem?_map]
   by_cases hi:i<m
   · rcases Nat.mod_two_eq_zero_or_one i with h | h <;> simp[hi,Value.cells,h]
   · simp[hi]
 rw[hl]
 induction n with
 | zero=>rfl
 | succ n ih =>
   rw[Nat.succ_mul,List.replicate_succ',rows_app,← ih,List.range_succ,List.range_succ]
   simp only[List.map_append,List.append_assoc]
   congr 1
   have h1:n*2%2=0:=by omega
   have h2:¬ (n*2+1)%2=0:=by omega
   simp[h1,h2,rows]
def RLn (lb lo c:Nat)(ls:List (List UInt8)):SP:=λh=>∃ xs:List BBx,prx xs=ls∧sepL [Sl 128 1 (some ⟨lb,lo,none⟩) ls.length c (xs.map bbv),All bbo xs] h
structure RcB where
 cb:Nat
 lb:Nat
 lo:Nat
 cL:Nat
 hb:Nat
 ab:Nat
 wb:Nat
 xb:Nat
structure RcA where
 adM:Option Addr
 cM:Nat
 adE:Option Addr
 cE:Nat
abbrev rcC (k:Ks)(B:RcB)(A:RcA):List Value:=[.int .i64 k.n,.int .i64 k.me,.int .i64 k.id,.int .i64 k.delay,.int .i64 k.window,.int .i64 k.guess,.int .i64 k.order,.int .i64 k.branches,.int .i64 k.workers,.int .i64 k.room,
 .slice (some ⟨B.lb,B.lo,none⟩) k.ls.length B.cL,.int .i64 k.now,.slice (some ⟨B.hb,0,none⟩) k.n k.n,.slice (some ⟨B.ab,0,none⟩) k.n k.n,.slice (some ⟨B.wb,0,none⟩) k.n k.n,.slice (some ⟨B.xb,0,none⟩) k.n k.n,.slice A.adM k.mr.length A.cM,.slice A.adE k.ev.length A.cE,.bool k.cl]
def heC (l:List Pe):List Value:=l.map λp=>Value.int .i64 (p.heard:Int)
def haC (l:List Pe):List Value:=l.map λp=>Value.int .i64 (p.has:Int)
def apC (l:List Pe):List Value:=l.map λp=>Value.bool p.apart
abbrev wdC (p:Pe):List Value:=[.int .i64 p.frame,.int .u32 p.sum]
theorem wdC_len (p:Pe):(wdC p).length=2:=rfl
def RefS (B:RcB)(k:Ks):SP:=λh=>∃ A:RcA,sepL [blk B.cb 83 (rcC k B A),RLn B.lb B.lo B.cL k.ls,blk B.hb 3 (heC k.ps),blk B.ab 3 (haC k.ps),blk B.wb 244 (rows wdC k.ps),blk B.xb 4 (apC k.ps),Sl 68 1 A.adM k.mr.length A.cM (mrC k.mr),Sl 223 3 A.adE k.ev.length A.cE (rows rawC k.ev)] h
section
variable {W w:World}{L R:List SP}{c m lb lo i:Nat}{ad:Option Addr}{ls:List (List UInt8)}{k:Ks}{A:RcA}{B:RcB}
theorem RLn.open (hs:St W w (RLn lb lo c ls::L)):∃ xs:List BBx,prx xs=ls∧St W w (Sl 128 1 (some ⟨lb,lo,none⟩) ls.length c (xs.map bbv)::All bbo xs::L):=by
 obtain⟨xs,h1,hs⟩:=hs.exi (ι:=List BBx) (p:=λxs=>prx xs=ls) (B:=λxs h=>sepL [Sl 128 1 (some ⟨lb,lo,none⟩) ls.length c (xs.map bbv),All bbo xs] h) λ_ ⟨xs,h1,h2⟩=>⟨xs,h1,h2⟩
 exact⟨xs,h1,hs.open (M:=[_,_]) λ_ h=>h⟩
theorem RLn.close {xs:List BBx}(hs:St W w (Sl 128 1 (some ⟨lb,lo,none⟩) ls.length c (xs.map bbv)::All bbo xs::L))(h:prx xs=ls):St W w (RLn lb lo c ls::L) :=
 St.shut (M:=[_,_]) hs λ_ h'=>⟨xs,h,h'⟩
theorem St.rdXe {xs:List BBx}{el:TypeId}{m:Nat}(hs:St W w (Sl el 1 ad m c (xs.map bbv)::All bbo xs::L)):RdX w ad xs:=by
 have hl:=(hs.sl ad).1
 rw[List.length_map,Nat.mul_one]at hl
 refine⟨λh0=>?_,λx hx=>?_⟩
 · obtain⟨b,off,h1,h2⟩:=hs.slRd ad (by omega)
   exact⟨b,off,h1,h2⟩
 · obtain⟨i,hi,rfl⟩:=List.getElem_of_mem hx
   have h2:=(hs.tail).allOut hi
   exact St.rdB (L:=bbo xs[i]::_) h2 _ _ (k:=(PickSl.head:PickSl (Sl 5 1 xs[i].1 xs[i].2.2.length xs[i].2.1 (bc xs[i].2.2)::_) xs[i].1 _ _ _ _ _ _)) rfl rfl
theorem RefS.open (hs:St W w (RefS B k::L)):∃ A:RcA,St W w (blk B.cb 83 (rcC k B A)::RLn B.lb B.lo B.cL k.ls::blk B.hb 3 (heC k.ps)::blk B.ab 3 (haC k.ps)::blk B.wb 244 (rows wdC k.ps)::blk B.xb 4 (apC k.ps)::Sl 68 1 A.adM k.mr.length A.cM (mrC k.mr)::Sl 223 3 A.adE k.ev.length A.cE (rows rawC k.ev)::L):=by
 obtain⟨A,_,hs⟩:=hs.exi (ι:=RcA) (p:=λ_=>True) (B:=λA h=>sepL [blk B.cb 83 (rcC k B A),RLn B.lb B.lo B.cL k.ls,blk B.hb 3 (heC k.ps),blk B.ab 3 (haC k.ps),blk B.wb 244 (rows wdC k.ps),blk B.xb 4 (apC k.ps),Sl 68 1 A.adM k.mr.length A.cM (mrC k.mr),Sl 223 3 A.adE k.ev.length A.cE (rows rawC k.ev)] h) λ_ ⟨A,h⟩=>⟨A,trivial,h⟩
 exact⟨A,hs.open (M:=[_,_,_,_,_,_,_,_]) λ_ h=>h⟩
theorem RefS.fold (hs:St W w L)(B:RcB)(k:Ks)(A:RcA)[kk:Arr L [blk B.cb 83 (rcC k B A),RLn B.lb B.lo B.cL k.ls,blk B.hb 3 (heC k.ps),blk B.ab 3 (haC k.ps),blk B.wb 244 (rows wdC k.ps),blk B.xb 4 (apC k.ps),Sl 68 1 A.adM k.mr.length A.cM (mrC k.mr),Sl 223 3 A.adE k.ev.length A.cE (rows rawC k.ev)] R]:St W w (RefS B k::R) :=
 St.shut (M:=[_,_,_,_,_,_,_,_]) (hs.perm kk.perm) λ_ h=>⟨A,h⟩
end
theorem apC_at {l:List Pe}{i:Nat}{p:Pe}(h:l[i]?=some p):(apC l)[i]?=some (.bool p.apart):=by rw[apC,List.getElem?_map,h];rfl
theorem map_set1 {α β:Type}(f:α→β){l:List α}{i:Nat}{x:α}{v:β}(h:f x=v):(l.map f).set i v=(l.set i x).map f:=by rw[← h,map_set]
theorem map_keep {β:Type}(f:Pe→β){l:List Pe}{i:Nat}{p q:Pe}(h:l[i]?=some p)(hf:f q=f p):(l.set i q).map f=l.map f:=by
 apply List.ext_getElem?
 intro j
 rw[List.getElem?_map,List.getElem?_map,List.getElem?_set]
 by_cases hj:i=j
 · subst hj
   have hi:=(List.getElem?_eq_some_iff.1 h).1
   rw[if_pos rfl,if_pos hi,h]
   simp[hf]
 · rw[if_neg hj]
theorem rows_keep (f:Pe→List Value){l:List Pe}{i:Nat}{p q:Pe}(h:l[i]?=some p)(hf:f q=f p):rows f (l.set i q)=rows f l:=by
 rw[rows,rows,List.flatMap_def,List.flatMap_def,map_keep f h hf]
theorem heC_keep {l:List Pe}{i:Nat}{p:Pe}(h:l[i]?=some p)(q:Pe)(hf:q.heard=p.heard):heC (l.set i q)=heC l:=map_keep _ h (by rw[hf])
theorem haC_keep {l:List Pe}{i:Nat}{p:Pe}(h:l[i]?=some p)(q:Pe)(hf:q.has=p.has):haC (l.set i q)=haC l:=map_keep _ h (by rw[hf])
theorem wdC_keep {l:List Pe}{i:Nat}{p:Pe}(h:l[i]?=some p)(q:Pe)(hf:q.frame=p.frame)(hs:q.sum=p.sum):rows wdC (l.set i q)=rows wdC l:=rows_keep _ h (by rw[wdC,wdC,hf,hs])
section
variable {W w:World}{L:List SP}{n lb lo i f cl:Nat}{ls:List (List UInt8)}{k:Ks}{A:RcA}{B:RcB}{x:UInt8}
theorem ref_head (hs:St W w (RefS B k::L))(hk:WC k):Calls Tryz.prog 38 #[pt B.cb] w λr w'=>r=.returned (.int .i64 (headK k))∧St W w' (RefS B k::L):=by
 have hme:k.me<k.ls.length:=by rw[hk.ls];exact hk.me
 obtain⟨A,hs⟩:=RefS.open hs
 refine EN Tryz.func38 Tryz.ntmps38 rfl rfl λa ha=>?_
 refine DWO 3 [8] [0,1,2,4,5,6,7,3003,1008,9,10,1011,12,13] ha hs λa w ha hs hH hC=>?_
 obtain⟨xs,hxs,hs⟩:=RLn.open (hs.pick (RLn B.lb B.lo B.cL k.ls))
 have hxl:xs.length=k.ls.length:=by rw[← hxs,prx_len]
 obtain⟨bl,ol,y,hbe,hy,hcy,hry⟩:=(St.rdXe hs).at (i:=k.me) (by omega)
 cases hbe
 have hyl:headK k=y.2.2.length:=by
   show (k.ls.getD k.me []).length=_
   rw[← hxs,prx_get hy]
 replace hH:=Hd.old hs
 refine RH 11 ha hs hH hC λa ha=>?_
 refine SS ha (ld1 ha (hcy)) λa ha=>?_
 rw[bbv]at ha
 refine RH 2 ha hs hH hC λa ha=>?_
 refine RT 0 ha hs ?_
 refine⟨by rw[hyl],?_⟩
 exact (RefS.fold (RLn.close hs hxs) B k A).sub
theorem ref_frontC (hs:St W w (RefS B k::L))(hk:WC k):Calls Tryz.prog 64 #[pt B.cb] w λr w'=>r=.returned (.int .i64 (frontK k))∧St W w' (RefS B k::L):=by
 have hn:=hk.n
 have hls:=hk.ls
 obtain⟨A,hs⟩:=RefS.open hs
 refine EN Tryz.func64 Tryz.ntmps64 rfl rfl λa ha=>?_
 refine RN 7 ha hs λa ha=>?_
 obtain⟨xs,hxs,hs⟩:=RLn.open (hs.pick (RLn B.lb B.lo B.cL k.ls))
 have hxl:xs.length=k.ls.length:=by rw[← hxs,prx_len]
 rw[← hxl]at ha
 refine CL 0 ha hs (ref_front (xs:=xs) hs (by omega) (by omega) (λw' hw=>St.rdXe hw)) λa w ha hs=>?_
 refine RT 1 ha hs ?_
 refine⟨by rw[hxs];rfl,?_⟩
 exact (RefS.fold (RLn.close hs hxs) B k A).sub
theorem ref_event {kd pl fr:Nat}(hs:St W w (RefS B k::L))(hl:k.ev.length≤100):Calls Tryz.prog 72 #[pt B.cb,.int .i64 kd,.int .i64 pl,.int .i64 fr] w λr w'=>r=.returned (.tuple #[])∧St W w' (RefS B { k with ev:=k.ev++[(kd,pl,fr)] }::L):=by
 obtain⟨A,hs⟩:=RefS.open hs
 refine EN Tryz.func72 Tryz.ntmps72 rfl rfl λa ha=>?_
 refine RN 9 ha hs λa ha=>?_
 refine st_buildSlice ha rfl hs Tryz.underlying81 Ty.t223 rfl rfl rfl rfl (by decide) (by decide) λb17 a w ha hs ho=>?_
 clear ho
 refine RN 0 ha hs λa ha=>?_
 refine st_append ha rfl hs Tryz.underlying81 Ty.t223 rfl rfl hs.rdAll rfl (rawC_one (kd,pl,fr)) (by decide) (by decide) (by omega) λad18 c18 a w ha hs=>?_
 rw[show rows rawC k.ev++_=rows rawC (k.ev++[(kd,pl,fr)]) from by rw[rows_app];rfl,show k.ev.length+1=(k.ev++[(kd,pl,fr)]).length from by simp]at hs
 rw[show k.ev.length+1=(k.ev++[(kd,pl,fr)]).length from by simp]at ha
 refine ST 2 ha hs (λa w ha hs=>?_)
 refine RT 0 ha hs ?_
 exact⟨rfl,(RefS.fold hs B { k with ev:=k.ev++[(kd,pl,fr)] } { A with adE:=ad18,cE:=c18 }).sub⟩
theorem ref_held (hs:St W w (RefS B k::L))(hk:WC k):Calls Tryz.prog 157 #[pt B.cb] w λr w'=>r=.returned (.tuple #[])∧St W w' (RefS B (holdK k)::L):=by
 have hpl:k.ps.length=k.n:=hk.ps
 have hn:=hk.n
 refine EN Tryz.func157 Tryz.ntmps157 rfl rfl λa ha=>?_
 refine RN 2 ha hs λa ha=>?_
 refine wp_loop_ghost (λμ a w=>∃ (i:Nat),(μ=k.n-i∧i≤k.n)∧Fr a 68 [(0,pt B.cb),(2,.int .i64 i)]∧St W w (RefS B (holdN k i)::L)) (k.n) (⟨0,⟨rfl,by omega⟩,ha.keep [0,2],hs⟩) ?_
 clear ha hs
 rintro μ a w ⟨i,⟨rfl,hi⟩,ha,hs⟩
 have hkk:=hk.holdN (i:=i) hi
 have hkl:=holdN_len k i
 have hkn:(holdN k i).n=k.n:=by obtain⟨ps,ev,h1,_⟩:=holdN_eq k i;rw[h1]
 have hnx:holdN k (i+1)=hold1 (holdN k i) i:=rfl
 rw[hold1]at hnx
 generalize hge:holdN k i=kk at hs hkk hkl hnx hkn
 obtain⟨A,hs⟩:=RefS.open hs
 refine IF 9 ha hs (λhc0 a ha=>?_) λhc0 a ha=>?_
 ·
  have hil:i<kk.ps.length:=by omega
  have hpt:=hkk.pet (i:=i) (by omega)
  have hat:=peK_at hil
  have hrp:=rows_part wdC_len (hs.rdAll (b:=B.wb)) hat
  rw[Nat.zero_add]at hrp
  refine RN 8 ha hs λa ha=>?_
  refine SS ha (ex_loadN ha Tryz.underlying244 rfl Ty.t244 (hrp)) λa ha=>?_
  refine AL 0 ha hs λb3 a w ha hs=>?_
  refine SA 0 ha hs λa w ha hs=>?_
  refine DWO 1 [19,20,29,30,34] [0,1,2,4,1003,5,1006,7,8,9,1010,11,12,13,14,16,17,18,3015,1019,1020,21,22,23,24,25,26,28,33,3027,3029,3030,31,3032,1034,35,36] ha hs λa w ha hs hH hC=>?_
  have hrc:Rd w B.cb 0 (rcC kk B A):=hs.rdAll (b:=B.cb)
  have hrw:Rd w b3 0 (wdC (peK kk i)):=hs.rdAll (b:=b3)
  have hra:=hs.rd1 (b:=B.xb) (apC_at hat)
  refine RH 4 ha hs hH hC λa ha=>?_
  refine SS ha (ld1 ha (hrc 15 _ rfl)) λa ha=>?_
  refine RH 1 ha hs hH hC λa ha=>?_
  refine SS ha (ld1 ha (hra)) λa ha=>?_
  refine RH 2 ha hs hH hC λa ha=>?_
  refine ha.by (s:=28) (λhg8 ha=>?_) (λhg8 ha=>?_)
  ·
   refine RH 1 ha hs hH hC λa ha=>?_
   refine st_set ha (wgT ha rfl (s:=28)) (ld1 ha (hrw 0 _ rfl)) rfl λa ha=>?_
   refine RH 3 ha hs hH hC λa ha=>?_
   refine ha.by (s:=33) (λhg13 ha=>?_) (λhg13 ha=>?_)
   ·
    refine RH 4 ha hs hH hC λa ha=>?_
    refine QH ha (λw hc=>ld1 ha (hc.cell (hrw 0 _ rfl))) hC λa ha=>?_
    refine RH 0 ha hs hH hC λa ha=>?_
    refine st_set ha (wgT ha rfl (s:=33)) (ld1 ha (hrc 16 _ rfl)) rfl λa ha=>?_
    refine RH 4 ha hs hH hC λa ha=>?_
    refine ha.by (s:=43) (λhg23 ha=>?_) (λhg23 ha=>?_)
    ·
     have hml:(peK kk i).frame-1<kk.mr.length:=by omega
     obtain⟨bm,om,hme,hrm⟩:=(hs.pick (Sl 68 1 A.adM kk.mr.length A.cM (mrC kk.mr))).slRd A.adM (by omega)
     have hrc2:=hrc 16 _ rfl
     rw[hme]at hrc2
     refine RH 5 ha hs hH hC λa ha=>?_
     refine QH ha (λw hc=>ld1 ha (hc.cell (hrc2))) hC λa ha=>?_
     refine QH ha (λw hc=>ld1 ha (hc.cell (hrw 0 _ rfl))) hC λa ha=>?_
     refine RH 1 ha hs hH hC λa ha=>?_
     rw[show (((peK kk i).frame:Nat):Int)-1=(((peK kk i).frame-1:Nat):Int) from by omega]at ha
     refine RH 1 ha hs hH hC λa ha=>?_
     refine QH ha (λw hc=>ld1 ha (hc.cell (hrm ((peK kk i).frame-1) _ (mrC_get hml)))) hC λa ha=>?_
     refine RH 0 ha hs hH hC λa ha=>?_
     refine st_set ha (wgT ha rfl (s:=43)) (ld1 ha (hrw 1 _ rfl)) rfl λa ha=>?_
     refine RH 2 ha hs hH hC λa ha=>?_
     refine IF 0 ha hs (λhc1 a ha=>?_) λhc1 a ha=>?_
     ·
      refine RN 1 ha hs λa ha=>?_
      rw[if_pos ⟨hg8,by omega,by omega,by omega⟩]at hnx
      refine ST 6 ha hs (λa w ha hs=>?_) (hlt:=(by rw[apC,List.length_map];exact hil))
      rw[show (apC kk.ps).set i (.bool true)=apC (kk.ps.set i { peK kk i with apart:=true }) from map_set1 _ rfl,← heC_keep hat { peK kk i with apart:=true } rfl,← haC_keep hat { peK kk i with apart:=true } rfl,← wdC_keep hat { peK kk i with apart:=true } rfl rfl]at hs
      replace hs:=RefS.fold hs B { kk with ps:=kk.ps.set i { peK kk i with apart:=true } } A
      refine CL 4 ha hs (ref_event (kd:=3) (pl:=i) (fr:=(peK kk i).frame) hs (by have:=hkk.evl;show kk.ev.length≤100;omega)) λa w ha hs=>?_
      refine RN 3 ha hs λa ha=>?_
      exact⟨k.n-(i+1),by omega,i+1,⟨rfl,by omega⟩,ha.keep [0,2],by rw[hnx];exact hs.sub⟩
     refine RN 3 ha hs λa ha=>?_
     rw[if_neg (λh=>by have:=h.2.2.2;omega)]at hnx
     exact⟨k.n-(i+1),by omega,i+1,⟨rfl,by omega⟩,ha.keep [0,2],by rw[hnx];exact (RefS.fold hs B kk A).sub⟩
    refine RH 13 ha hs hH hC λa ha=>?_
    refine RN 4 ha hs λa ha=>?_
    rw[if_neg (λh=>by have:=h.2.2.1;omega)]at hnx
    exact⟨k.n-(i+1),by omega,i+1,⟨rfl,by omega⟩,ha.keep [0,2],by rw[hnx];exact (RefS.fold hs B kk A).sub⟩
   refine RH 23 ha hs hH hC λa ha=>?_
   refine RN 4 ha hs λa ha=>?_
   rw[if_neg (λh=>by have:=h.2.1;omega)]at hnx
   exact⟨k.n-(i+1),by omega,i+1,⟨rfl,by omega⟩,ha.keep [0,2],by rw[hnx];exact (RefS.fold hs B kk A).sub⟩
  refine RH 28 ha hs hH hC λa ha=>?_
  refine RN 4 ha hs λa ha=>?_
  rw[if_neg (λh=>by have:=h.1;rw[hg8]at this;cases this)]at hnx
  exact⟨k.n-(i+1),by omega,i+1,⟨rfl,by omega⟩,ha.keep [0,2],by rw[hnx];exact (RefS.fold hs B kk A).sub⟩
 refine RT 0 ha hs ?_
 obtain rfl:i=k.n:=by omega
 refine⟨rfl,?_⟩
 rw[holdK,hpl,hge]
 exact (RefS.fold hs B kk A).sub
theorem ref_mark {s:Nat}(hs:St W w (RefS B k::L))(hk:WC k)(hl:k.mr.length<1000)(hss:s<4294967296):Calls Tryz.prog 134 #[pt B.cb,.int .u32 s] w λr w'=>r=.returned (.tuple #[])∧St W w' (RefS B (markK k s)::L):=by
 have hkm : WC { k with mr := k.mr ++ [s] } := { hk with
     mr:=by show (k.mr++[s]).length≤1000;rw[List.length_append,List.length_singleton];omega
     mrs:=λx hx=>by
       rcases List.mem_append.1 hx with hx | hx
       · exact hk.mrs x hx
       · rw[List.mem_singleton]at hx;rw[hx];exact hss }
 obtain⟨A,hs⟩:=RefS.open hs
 refine EN Tryz.func134 Tryz.ntmps134 rfl rfl λa ha=>?_
 refine RN 8 ha hs λa ha=>?_
 rw[decide_eq_true (by omega)]at ha
 refine RN 7 ha hs λa ha=>?_
 refine st_buildSlice ha rfl hs Tryz.underlying80 Ty.t68 rfl rfl rfl rfl (by decide) (by decide) λb16 a w ha hs ho=>?_
 clear ho
 refine RN 0 ha hs λa ha=>?_
 refine st_append ha rfl hs Tryz.underlying80 Ty.t68 rfl rfl hs.rdAll rfl (by simp[Value.oneCell']) (by decide) (by decide) (by omega) λad17 c17 a w ha hs=>?_
 rw[show mrC k.mr++_=mrC (k.mr++[s]) from by rw[mrC,mrC,List.map_append];rfl,show k.mr.length+1=(k.mr++[s]).length from by simp]at hs
 rw[show k.mr.length+1=(k.mr++[s]).length from by simp]at ha
 refine ST 2 ha hs (λa w ha hs=>?_)
 refine RN 0 ha hs λa ha=>?_
 replace hs:=RefS.fold hs B { k with mr:=k.mr++[s] } { A with adM:=ad17,cM:=c17 }
 refine CL 1 ha hs (ref_held hs hkm) λa w ha hs=>?_
 refine RT 0 ha hs ?_
 exact⟨rfl,by rw[markK,if_pos hl];exact hs.sub⟩
theorem ref_press (hs:St W w (RefS B k::L))(hk:WC k):Calls Tryz.prog 61 #[pt B.cb,.int .u8 (x.toNat:Nat)] w λr w'=>r=.returned (.int .i64 (pressK x k).1)∧St W w' (RefS B (pressK x k).2::L):=by
 have hme:k.me<k.ls.length:=by rw[hk.ls];exact hk.me
 have hhd:=hk.headt
 have hfr:=hk.frontt
 obtain⟨A0,hs⟩:=RefS.open hs
 refine EN Tryz.func61 Tryz.ntmps61 rfl rfl λa ha=>?_
 refine IF 9 ha hs (λhc0 a ha=>?_) λhc0 a ha=>?_
 ·
  replace hs:=RefS.fold hs B k A0
  refine RT 2 ha hs ?_
  exact⟨by rw[pressK,if_pos hc0],by rw[pressK,if_pos hc0];exact hs⟩
 have hcl:¬ k.cl=true:=by rw[hc0];decide
 replace hs:=RefS.fold hs B k A0
 refine CL 2 ha hs (ref_head hs hk) λa w ha hs=>?_
 refine IF 2 ha hs (λhc1 a ha=>?_) λhc1 a ha=>?_
 ·
  refine RT 2 ha hs ?_
  exact⟨by rw[pressK,if_neg hcl,if_pos (by omega)],by rw[pressK,if_neg hcl,if_pos (by omega)];exact hs⟩
 refine DWC 1 (λw0 w'=>w'.cell? ⟨B.cb,4,none⟩=some (.int .i64 k.window)) [1,3,4] [0,2,5,6,7,8,3009,1001,1003,1004,10,11] ha hs λa w ha hs hH=>?_
 have hC:w.cell? ⟨B.cb,4,none⟩=some (.int .i64 k.window):=by
   obtain⟨A1,hs⟩:=RefS.open hs
   exact hs.rd1 (b:=B.cb) rfl
 refine RH 6 ha hs hH hC λa ha=>?_
 refine QH ha (λw hc=>ld1 ha (hc)) hC λa ha=>?_
 refine RH 0 ha hs hH hC λa ha=>?_
 refine CL 0 ha hs (ref_head hs hk) λa w ha hs=>?_
 replace hC:=hH.at w (by obtain⟨A1,hs⟩:=RefS.open hs;exact hs.rd1 (b:=B.cb) rfl)
 refine RH 0 ha hs hH hC λa ha=>?_
 refine CL 0 ha hs (ref_frontC hs hk) λa w ha hs=>?_
 replace hC:=hH.at w (by obtain⟨A1,hs⟩:=RefS.open hs;exact hs.rd1 (b:=B.cb) rfl)
 refine RH 3 ha hs hH hC λa ha=>?_
 refine IF 0 ha hs (λhc2 a ha=>?_) λhc2 a ha=>?_
 ·
  refine RT 2 ha hs ?_
  exact⟨by rw[pressK,if_neg hcl,if_neg (by omega),if_pos (by omega)],by rw[pressK,if_neg hcl,if_neg (by omega),if_pos (by omega)];exact hs⟩
 refine RN 1 ha hs λa ha=>?_
 obtain⟨A,hs⟩:=RefS.open hs
 have hpk:pressK x k=(0,{ k with ls:=k.ls.set k.me (k.ls.getD k.me []++[x]) }):=by rw[pressK,if_neg hcl,if_neg (by omega),if_neg (by omega)]
 rw[hpk]
 obtain⟨xs,hxs,hs⟩:=RLn.open (hs.pick (RLn B.lb B.lo B.cL k.ls))
 have hxl:xs.length=k.ls.length:=by rw[← hxs,prx_len]
 obtain⟨y,hy⟩:∃ y,xs[k.me]?=some y:=⟨_,List.getElem?_eq_getElem (by omega)⟩
 obtain⟨hyi,hye⟩:=List.getElem?_eq_some_iff.1 hy
 have hyl:k.ls.getD k.me []=y.2.2:=by rw[← hxs,prx_get hy]
 refine DWO 0 [8] [0,1,2,4,5,6,7,3003,1008,9,10] ha hs λa w ha hs hH hC=>?_
 refine RH 11 ha hs hH hC λa ha=>?_
 refine RN 5 ha hs λa ha=>?_
 refine SS ha (ld1 ha ((hs.slRdAt B.lb B.lo (by omega)) k.me (bbv y) (by rw[List.getElem?_map,hy];rfl))) λa ha=>?_
 rw[bbv]at ha
 replace hs:=(hs.pick (All bbo xs)).allOut hyi
 rw[hye]at hs
 have hs0:St W w (Sl 5 1 y.1 y.2.2.length y.2.1 (bc y.2.2)::_):=hs
 clear hs
 have hs:=hs0
 clear hs0
 have hhl:y.2.2.length≤1000:=by rw[← hyl];exact hhd
 refine RN 1 ha hs λa ha=>?_
 refine st_buildSlice ha rfl hs Tryz.underlying22 Ty.t5 rfl rfl rfl rfl (by decide) (by decide) λb43 a w ha hs ho=>?_
 clear ho
 refine RN 0 ha hs λa ha=>?_
 refine st_append ha rfl hs Tryz.underlying22 Ty.t5 rfl rfl hs.rdAll rfl (bc_one [x]) (by decide) (by decide) (by omega) λad44 c44 a w ha hs=>?_
 rw[show bc y.2.2++_=bc (y.2.2++[x]) from (bc_app _ [_]).symm,show y.2.2.length+1=(y.2.2++[x]).length from by simp]at hs
 rw[show y.2.2.length+1=(y.2.2++[x]).length from by simp]at ha
 refine RN 2 ha hs λa ha=>?_
 refine st_storeS (off:=B.lo) (k:=k.me) ha rfl hs Ty.t22 rfl (by omega) (by rw[List.length_map];exact hyi) λa w ha hs=>?_
 rw[show (xs.map bbv).set k.me (.slice ad44 (y.2.2++[x]).length c44)=(xs.set k.me (ad44,c44,y.2.2++[x])).map bbv from map_set1 _ rfl]at hs
 have h2:=hs.arr (M:=[Sl 5 1 ad44 (y.2.2++[x]).length c44 (bc (y.2.2++[x])),All bbo (xs.eraseIdx k.me)])
 simp only[List.cons_append,List.nil_append]at h2
 have h3:=St.allPut (f:=bbo) (x:=(ad44,c44,y.2.2++[x])) hyi h2
 have hls:(k.ls.set k.me (k.ls.getD k.me []++[x])).length=k.ls.length:=List.length_set
 have hpr:prx (xs.set k.me (ad44,c44,y.2.2++[x]))=k.ls.set k.me (k.ls.getD k.me []++[x]):=by rw[prx,map_set,← prx,hxs,hyl]
 have h4:=h3.arr (M:=[Sl 128 1 (some ⟨B.lb,B.lo,none⟩) k.ls.length B.cL ((xs.set k.me (ad44,c44,y.2.2++[x])).map bbv),All bbo (xs.set k.me (ad44,c44,y.2.2++[x]))])
 simp only[List.cons_append,List.nil_append]at h4
 rw[show k.ls.length=(k.ls.set k.me (k.ls.getD k.me []++[x])).length from hls.symm]at h4
 have h5:=RLn.close (xs:=xs.set k.me (ad44,c44,y.2.2++[x])) h4 hpr
 clear hs
 have hs:=h5
 rw[show rcC k B A=rcC { k with ls:=k.ls.set k.me (k.ls.getD k.me []++[x]) } B A from by simp only[rcC,List.length_set]]at hs
 refine RT 2 ha hs ?_
 exact⟨rfl,(RefS.fold hs B { k with ls:=k.ls.set k.me (k.ls.getD k.me []++[x]) } A).sub⟩
end
section
variable {W w:World}{L:List SP}{n c m lb lo i f:Nat}{ad:Option Addr}{ls:List (List UInt8)}{A:RcA}{B:RcB}{x:UInt8}
abbrev rc0 (n me:Nat)(id:Int)(delay window:Nat)(guess order branches workers room:Int)(b8 b11 b14 b17:Nat)(ad:Option Addr)(i c:Nat):List Value:=[.int .i64 n,.int .i64 me,.int .i64 id,.int .i64 delay,.int .i64 window,.int .i64 guess,.int .i64 order,.int .i64 branches,.int .i64 workers,.int .i64 room,.slice ad i c,.int .i64 0,.slice (some ⟨b8,0,none⟩) n n,.slice (some ⟨b11,0,none⟩) n n,.slice (some ⟨b14,0,none⟩) n n,.slice (some ⟨b17,0,none⟩) n n,.slice none 0 0,.slice none 0 0,.bool false]
theorem heC_new (n d:Nat):heC (List.replicate n (pe0 d))=ints .i64 n (λ_=>0):=by rw[heC,List.map_replicate];exact rep_ints _ _ _
theorem haC_new (n d:Nat):haC (List.replicate n (pe0 d))=ints .i64 n (λ_=>d):=by rw[haC,List.map_replicate];exact rep_ints _ _ _
theorem apC_new (n d:Nat):apC (List.replicate n (pe0 d))=List.replicate n (.bool false):=by rw[apC,List.map_replicate];rfl
theorem wdC_new (n d:Nat):rows wdC (List.replicate n (pe0 d))=rows (λ_:Pe=>[Value.int .i64 0,.int .u32 0]) (List.replicate n (pe0 0)):=by
 induction n with
 | zero=>rfl
 | succ n ih=>rw[List.replicate_succ,List.replicate_succ,rows_cons,rows_cons,ih];rfl
theorem bc_zero (d:Nat):List.replicate d (Value.int .u8 0)=bc (List.replicate d 0):=by rw[bc,List.map_replicate];rfl
theorem ref_new {n me delay window:Nat}{id guess order branches workers room:Int}(hs:St W w L)(h:mayCf ⟨n,me,id,delay,window,guess,order,branches,workers,room⟩) :
   Calls Tryz.prog 59 #[.agg (cfC ⟨n,me,id,delay,window,guess,order,branches,workers,room⟩).toArray] w λr w'=>∃ B:RcB,r=.returned (pt B.cb)∧St W w' (RefS B (newK ⟨n,me,id,delay,window,guess,order,branches,workers,room⟩)::L):=by
 obtain⟨⟨h1,h2,h3⟩,⟨h4,h5,h6,h7⟩,h8,h9,h10,h11⟩:=h
 simp only[inI] at *
 refine EN Tryz.func59 Tryz.ntmps59 rfl rfl λa ha=>?_
 refine BX 1 ha hs λb1 a w ha hs=>?_
 change St W w (blk b1 27 [.int .i64 n,.int .i64 me,.int .i64 id,.int .i64 delay,.int .i64 window,.int .i64 guess,.int .i64 order,.int .i64 branches,.int .i64 workers,.int .i64 room]::_) at hs
 refine RN 1 ha hs λa ha=>?_
 refine wp_seq_cut (M:=λa w=>∃ b8 b11 b14 b17 b19:Nat,Fr a 48 [(1,pt b1),(3,pt b19)]∧St W w (blk b19 83 [.int .i64 n,.int .i64 me,.int .i64 id,.int .i64 delay,.int .i64 window,.int .i64 guess,.int .i64 order,.int .i64 branches,.int .i64 workers,.int .i64 room,.slice none 0 0,.int .i64 0,.slice (some ⟨b8,0,none⟩) n n,.slice (some ⟨b11,0,none⟩) n n,.slice (some ⟨b14,0,none⟩) n n,.slice (some ⟨b17,0,none⟩) n n,.slice none 0 0,.slice none 0 0,.bool false]::blk b8 3 (List.replicate n (.int .i64 0))::blk b11 3 (List.replicate n (.int .i64 0))::blk b14 244 (rows (λ_:Pe=>[Value.int .i64 0,.int .u32 0]) (List.replicate n (pe0 0)))::blk b17 4 (List.replicate n (.bool false))::blk b1 27 [.int .i64 n,.int .i64 me,.int .i64 id,.int .i64 delay,.int .i64 window,.int .i64 guess,.int .i64 order,.int .i64 branches,.int .i64 workers,.int .i64 room]::L)) ?_ ?_
 ·
  refine DWO 0 [2,3,5,6,8,9,11,12] [1,4,7,10,3000,3002,3005,3008,3011,2003,2006,2009,1012,13,1014,15] ha hs λa w ha hs hH hC=>?_
  refine RH 9 ha hs hH hC λa ha=>?_
  refine DN [(3,[2006,2009,1012,13,1014,15]),(6,[2003,2009,1012,13,1014,15]),(9,[2003,2006,1012,13,1014,15]),(12,[2003,2006,1009,13,1014,15])] (by kernel_rfl) rfl ⟨⟨_,rfl,?_⟩,⟨_,rfl,?_⟩,⟨_,rfl,?_⟩,⟨_,rfl,?_⟩,trivial⟩
  ·
   refine RH 0 ha hs hH hC λa ha=>?_
   refine st_makeSlice ha rfl hs Tryz.underlying52 Ty.t3 rfl (by omega) (by omega) λb8 a w ha hs ho=>?_
   replace hC:=hC.trans ho
   clear ho
   rw[made1 _ rfl]at hs
   refine RH 0 ha hs hH hC λa ha=>?_
   refine DN [(6,[2009,1012,13,1014,15]),(9,[2006,1012,13,1014,15]),(12,[2006,1009,13,1014,15])] (by kernel_rfl) rfl ⟨⟨_,rfl,?_⟩,⟨_,rfl,?_⟩,⟨_,rfl,?_⟩,trivial⟩
   ·
    refine RH 0 ha hs hH hC λa ha=>?_
    refine st_makeSlice ha rfl hs Tryz.underlying52 Ty.t3 rfl (by omega) (by omega) λb11 a w ha hs ho=>?_
    replace hC:=hC.trans ho
    clear ho
    rw[made1 _ rfl]at hs
    refine RH 0 ha hs hH hC λa ha=>?_
    refine DN [(9,[1012,13,1014,15]),(12,[1009,13,1014,15])] (by kernel_rfl) rfl ⟨⟨_,rfl,?_⟩,⟨_,rfl,?_⟩,trivial⟩
    ·
     refine RH 0 ha hs hH hC λa ha=>?_
     refine st_makeSlice ha rfl hs Tryz.underlying78 Ty.t244 rfl (by omega) (by omega) λb14 a w ha hs ho=>?_
     replace hC:=hC.trans ho
     clear ho
     rw[made2]at hs
     refine RH 0 ha hs hH hC λa ha=>?_
     refine st_makeSlice ha rfl hs Tryz.underlying79 Ty.t4 rfl (by omega) (by omega) λb17 a w ha hs ho=>?_
     replace hC:=hC.trans ho
     clear ho
     rw[made1 _ rfl]at hs
     refine RH 1 ha hs hH hC λa ha=>?_
     refine st_box ha rfl hs rfl λb19 a w ha hs ho=>?_
     replace hC:=hC.trans ho
     clear ho
     refine RH 1 ha hs hH hC λa ha=>?_
     exact⟨b8,b11,b14,b17,b19,ha.keep [1,3],hs.sub⟩
    refine RH 0 ha hs hH hC λa ha=>?_
    refine st_makeSlice ha rfl hs Tryz.underlying79 Ty.t4 rfl (by omega) (by omega) λb17 a w ha hs ho=>?_
    replace hC:=hC.trans ho
    clear ho
    rw[made1 _ rfl]at hs
    refine RH 0 ha hs hH hC λa ha=>?_
    refine st_makeSlice ha rfl hs Tryz.underlying78 Ty.t244 rfl (by omega) (by omega) λb14 a w ha hs ho=>?_
    replace hC:=hC.trans ho
    clear ho
    rw[made2]at hs
    refine RH 1 ha hs hH hC λa ha=>?_
    refine st_box ha rfl hs rfl λb19 a w ha hs ho=>?_
    replace hC:=hC.trans ho
    clear ho
    refine RH 1 ha hs hH hC λa ha=>?_
    exact⟨b8,b11,b14,b17,b19,ha.keep [1,3],hs.sub⟩
   ·
    refine RH 0 ha hs hH hC λa ha=>?_
    refine st_makeSlice ha rfl hs Tryz.underlying78 Ty.t244 rfl (by omega) (by omega) λb14 a w ha hs ho=>?_
    replace hC:=hC.trans ho
    clear ho
    rw[made2]at hs
    refine RH 0 ha hs hH hC λa ha=>?_
    refine DN [(6,[1012,13,1014,15]),(12,[1006,13,1014,15])] (by kernel_rfl) rfl ⟨⟨_,rfl,?_⟩,⟨_,rfl,?_⟩,trivial⟩
    ·
     refine RH 0 ha hs hH hC λa ha=>?_
     refine st_makeSlice ha rfl hs Tryz.underlying52 Ty.t3 rfl (by omega) (by omega) λb11 a w ha hs ho=>?_
     replace hC:=hC.trans ho
     clear ho
     rw[made1 _ rfl]at hs
     refine RH 0 ha hs hH hC λa ha=>?_
     refine st_makeSlice ha rfl hs Tryz.underlying79 Ty.t4 rfl (by omega) (by omega) λb17 a w ha hs ho=>?_
     replace hC:=hC.trans ho
     clear ho
     rw[made1 _ rfl]at hs
     refine RH 1 ha hs hH hC λa ha=>?_
     refine st_box ha rfl hs rfl λb19 a w ha hs ho=>?_
     replace hC:=hC.trans ho
     clear ho
     refine RH 1 ha hs hH hC λa ha=>?_
     exact⟨b8,b11,b14,b17,b19,ha.keep [1,3],hs.sub⟩
    refine RH 0 ha hs hH hC λa ha=>?_
    refine st_makeSlice ha rfl hs Tryz.underlying79 Ty.t4 rfl (by omega) (by omega) λb17 a w ha hs ho=>?_
    replace hC:=hC.trans ho
    clear ho
    rw[made1 _ rfl]at hs
    refine RH 0 ha hs hH hC λa ha=>?_
    refine st_makeSlice ha rfl hs Tryz.underlying52 Ty.t3 rfl (by omega) (by omega) λb11 a w ha hs ho=>?_
    replace hC:=hC.trans ho
    clear ho
    rw[made1 _ rfl]at hs
    refine RH 1 ha hs hH hC λa ha=>?_
    refine st_box ha rfl hs rfl λb19 a w ha hs ho=>?_
    replace hC:=hC.trans ho
    clear ho
    refine RH 1 ha hs hH hC λa ha=>?_
    exact⟨b8,b11,b14,b17,b19,ha.keep [1,3],hs.sub⟩
   refine RH 0 ha hs hH hC λa ha=>?_
   refine st_makeSlice ha rfl hs Tryz.underlying79 Ty.t4 rfl (by omega) (by omega) λb17 a w ha hs ho=>?_
   replace hC:=hC.trans ho
   clear ho
   rw[made1 _ rfl]at hs
   refine RH 0 ha hs hH hC λa ha=>?_
   refine DN [(6,[1009,13,1014,15]),(9,[1006,13,1014,15])] (by kernel_rfl) rfl ⟨⟨_,rfl,?_⟩,⟨_,rfl,?_⟩,trivial⟩
   ·
    refine RH 0 ha hs hH hC λa ha=>?_
    refine st_makeSlice ha rfl hs Tryz.underlying52 Ty.t3 rfl (by omega) (by omega) λb11 a w ha hs ho=>?_
    replace hC:=hC.trans ho
    clear ho
    rw[made1 _ rfl]at hs
    refine RH 0 ha hs hH hC λa ha=>?_
    refine st_makeSlice ha rfl hs Tryz.underlying78 Ty.t244 rfl (by omega) (by omega) λb14 a w ha hs ho=>?_
    replace hC:=hC.trans ho
    clear ho
    rw[made2]at hs
    refine RH 1 ha hs hH hC λa ha=>?_
    refine st_box ha rfl hs rfl λb19 a w ha hs ho=>?_
    replace hC:=hC.trans ho
    clear ho
    refine RH 1 ha hs hH hC λa ha=>?_
    exact⟨b8,b11,b14,b17,b19,ha.keep [1,3],hs.sub⟩
   refine RH 0 ha hs hH hC λa ha=>?_
   refine st_makeSlice ha rfl hs Tryz.underlying78 Ty.t244 rfl (by omega) (by omega) λb14 a w ha hs ho=>?_
   replace hC:=hC.trans ho
   clear ho
   rw[made2]at hs
   refine RH 0 ha hs hH hC λa ha=>?_
   refine st_makeSlice ha rfl hs Tryz.underlying52 Ty.t3 rfl (by omega) (by omega) λb11 a w ha hs ho=>?_
   replace hC:=hC.trans ho
   clear ho
   rw[made1 _ rfl]at hs
   refine RH 1 ha hs hH hC λa ha=>?_
   refine st_box ha rfl hs rfl λb19 a w ha hs ho=>?_
   replace hC:=hC.trans ho
   clear ho
   refine RH 1 ha hs hH hC λa ha=>?_
   exact⟨b8,b11,b14,b17,b19,ha.keep [1,3],hs.sub⟩
  ·
   refine RH 0 ha hs hH hC λa ha=>?_
   refine st_makeSlice ha rfl hs Tryz.underlying52 Ty.t3 rfl (by omega) (by omega) λb11 a w ha hs ho=>?_
   replace hC:=hC.trans ho
   clear ho
   rw[made1 _ rfl]at hs
   refine RH 0 ha hs hH hC λa ha=>?_
   refine DN [(3,[2009,1012,13,1014,15]),(9,[2003,1012,13,1014,15]),(12,[2003,1009,13,1014,15])] (by kernel_rfl) rfl ⟨⟨_,rfl,?_⟩,⟨_,rfl,?_⟩,⟨_,rfl,?_⟩,trivial⟩
   ·
    refine RH 0 ha hs hH hC λa ha=>?_
    refine st_makeSlice ha rfl hs Tryz.underlying52 Ty.t3 rfl (by omega) (by omega) λb8 a w ha hs ho=>?_
    replace hC:=hC.trans ho
    clear ho
    rw[made1 _ rfl]at hs
    refine RH 0 ha hs hH hC λa ha=>?_
    refine DN [(9,[1012,13,1014,15]),(12,[1009,13,1014,15])] (by kernel_rfl) rfl ⟨⟨_,rfl,?_⟩,⟨_,rfl,?_⟩,trivial⟩
    ·
     refine RH 0 ha hs hH hC λa ha=>?_
     refine st_makeSlice ha rfl hs Tryz.underlying78 Ty.t244 rfl (by omega) (by omega) λb14 a w ha hs ho=>?_
     replace hC:=hC.trans ho
     clear ho
     rw[made2]at hs
     refine RH 0 ha hs hH hC λa ha=>?_
     refine st_makeSlice ha rfl hs Tryz.underlying79 Ty.t4 rfl (by omega) (by omega) λb17 a w ha hs ho=>?_
     replace hC:=hC.trans ho
     clear ho
     rw[made1 _ rfl]at hs
     refine RH 1 ha hs hH hC λa ha=>?_
     refine st_box ha rfl hs rfl λb19 a w ha hs ho=>?_
     replace hC:=hC.trans ho
     clear ho
     refine RH 1 ha hs hH hC λa ha=>?_
     exact⟨b8,b11,b14,b17,b19,ha.keep [1,3],hs.sub⟩
    refine RH 0 ha hs hH hC λa ha=>?_
    refine st_makeSlice ha rfl hs Tryz.underlying79 Ty.t4 rfl (by omega) (by omega) λb17 a w ha hs ho=>?_
    replace hC:=hC.trans ho
    clear ho
    rw[made1 _ rfl]at hs
    refine RH 0 ha hs hH hC λa ha=>?_
    refine st_makeSlice ha rfl hs Tryz.underlying78 Ty.t244 rfl (by omega) (by omega) λb14 a w ha hs ho=>?_
    replace hC:=hC.trans ho
    clear ho
    rw[made2]at hs
    refine RH 1 ha hs hH hC λa ha=>?_
    refine st_box ha rfl hs rfl λb19 a w ha hs ho=>?_
    replace hC:=hC.trans ho
    clear ho
    refine RH 1 ha hs hH hC λa ha=>?_
    exact⟨b8,b11,b14,b17,b19,ha.keep [1,3],hs.sub⟩
   ·
    refine RH 0 ha hs hH hC λa ha=>?_
    refine st_makeSlice ha rfl hs Tryz.underlying78 Ty.t244 rfl (by omega) (by omega) λb14 a w ha hs ho=>?_
    replace hC:=hC.trans ho
    clear ho
    rw[made2]at hs
    refine RH 0 ha hs hH hC λa ha=>?_
    refine DN [(3,[1012,13,1014,15]),(12,[1003,13,1014,15])] (by kernel_rfl) rfl ⟨⟨_,rfl,?_⟩,⟨_,rfl,?_⟩,trivial⟩
    ·
     refine RH 0 ha hs hH hC λa ha=>?_
     refine st_makeSlice ha rfl hs Tryz.underlying52 Ty.t3 rfl (by omega) (by omega) λb8 a w ha hs ho=>?_
     replace hC:=hC.trans ho
     clear ho
     rw[made1 _ rfl]at hs
     refine RH 0 ha hs hH hC λa ha=>?_
     refine st_makeSlice ha rfl hs Tryz.underlying79 Ty.t4 rfl (by omega) (by omega) λb17 a w ha hs ho=>?_
     replace hC:=hC.trans ho
     clear ho
     rw[made1 _ rfl]at hs
     refine RH 1 ha hs hH hC λa ha=>?_
     refine st_box ha rfl hs rfl λb19 a w ha hs ho=>?_
     replace hC:=hC.trans ho
     clear ho
     refine RH 1 ha hs hH hC λa ha=>?_
     exact⟨b8,b11,b14,b17,b19,ha.keep [1,3],hs.sub⟩
    refine RH 0 ha hs hH hC λa ha=>?_
    refine st_makeSlice ha rfl hs Tryz.underlying79 Ty.t4 rfl (by omega) (by omega) λb17 a w ha hs ho=>?_
    replace hC:=hC.trans ho
    clear ho
    rw[made1 _ rfl]at hs
    refine RH 0 ha hs hH hC λa ha=>?_
    refine st_makeSlice ha rfl hs Tryz.underlying52 Ty.t3 rfl (by omega) (by omega) λb8 a w ha hs ho=>?_
    replace hC:=hC.trans ho
    clear ho
    rw[made1 _ rfl]at hs
    refine RH 1 ha hs hH hC λa ha=>?_
    refine st_box ha rfl hs rfl λb19 a w ha hs ho=>?_
    replace hC:=hC.trans ho
    clear ho
    refine RH 1 ha hs hH hC λa ha=>?_
    exact⟨b8,b11,b14,b17,b19,ha.keep [1,3],hs.sub⟩
   refine RH 0 ha hs hH hC λa ha=>?_
   refine st_makeSlice ha rfl hs Tryz.underlying79 Ty.t4 rfl (by omega) (by omega) λb17 a w ha hs ho=>?_
   replace hC:=hC.trans ho
   clear ho
   rw[made1 _ rfl]at hs
   refine RH 0 ha hs hH hC λa ha=>?_
   refine DN [(3,[1009,13,1014,15]),(9,[1003,13,1014,15])] (by kernel_rfl) rfl ⟨⟨_,rfl,?_⟩,⟨_,rfl,?_⟩,trivial⟩
   ·
    refine RH 0 ha hs hH hC λa ha=>?_
    refine st_makeSlice ha rfl hs Tryz.underlying52 Ty.t3 rfl (by omega) (by omega) λb8 a w ha hs ho=>?_
    replace hC:=hC.trans ho
    clear ho
    rw[made1 _ rfl]at hs
    refine RH 0 ha hs hH hC λa ha=>?_
    refine st_makeSlice ha rfl hs Tryz.underlying78 Ty.t244 rfl (by omega) (by omega) λb14 a w ha hs ho=>?_
    replace hC:=hC.trans ho
    clear ho
    rw[made2]at hs
    refine RH 1 ha hs hH hC λa ha=>?_
    refine st_box ha rfl hs rfl λb19 a w ha hs ho=>?_
    replace hC:=hC.trans ho
    clear ho
    refine RH 1 ha hs hH hC λa ha=>?_
    exact⟨b8,b11,b14,b17,b19,ha.keep [1,3],hs.sub⟩
   refine RH 0 ha hs hH hC λa ha=>?_
   refine st_makeSlice ha rfl hs Tryz.underlying78 Ty.t244 rfl (by omega) (by omega) λb14 a w ha hs ho=>?_
   replace hC:=hC.trans ho
   clear ho
   rw[made2]at hs
   refine RH 0 ha hs hH hC λa ha=>?_
   refine st_makeSlice ha rfl hs Tryz.underlying52 Ty.t3 rfl (by omega) (by omega) λb8 a w ha hs ho=>?_
   replace hC:=hC.trans ho
   clear ho
   rw[made1 _ rfl]at hs
   refine RH 1 ha hs hH hC λa ha=>?_
   refine st_box ha rfl hs rfl λb19 a w ha hs ho=>?_
   replace hC:=hC.trans ho
   clear ho
   refine RH 1 ha hs hH hC λa ha=>?_
   exact⟨b8,b11,b14,b17,b19,ha.keep [1,3],hs.sub⟩
  ·
   refine RH 0 ha hs hH hC λa ha=>?_
   refine st_makeSlice ha rfl hs Tryz.underlying78 Ty.t244 rfl (by omega) (by omega) λb14 a w ha hs ho=>?_
   replace hC:=hC.trans ho
   clear ho
   rw[made2]at hs
   refine RH 0 ha hs hH hC λa ha=>?_
   refine DN [(3,[2006,1012,13,1014,15]),(6,[2003,1012,13,1014,15]),(12,[2003,1006,13,1014,15])] (by kernel_rfl) rfl ⟨⟨_,rfl,?_⟩,⟨_,rfl,?_⟩,⟨_,rfl,?_⟩,trivial⟩
   ·
    refine RH 0 ha hs hH hC λa ha=>?_
    refine st_makeSlice ha rfl hs Tryz.underlying52 Ty.t3 rfl (by omega) (by omega) λb8 a w ha hs ho=>?_
    replace hC:=hC.trans ho
    clear ho
    rw[made1 _ rfl]at hs
    refine RH 0 ha hs hH hC λa ha=>?_
    refine DN [(6,[1012,13,1014,15]),(12,[1006,13,1014,15])] (by kernel_rfl) rfl ⟨⟨_,rfl,?_⟩,⟨_,rfl,?_⟩,trivial⟩
    ·
     refine RH 0 ha hs hH hC λa ha=>?_
     refine st_makeSlice ha rfl hs Tryz.underlying52 Ty.t3 rfl (by omega) (by omega) λb11 a w ha hs ho=>?_
     replace hC:=hC.trans ho
     clear ho
     rw[made1 _ rfl]at hs
     refine RH 0 ha hs hH hC λa ha=>?_
     refine st_makeSlice ha rfl hs Tryz.underlying79 Ty.t4 rfl (by omega) (by omega) λb17 a w ha hs ho=>?_
     replace hC:=hC.trans ho
     clear ho
     rw[made1 _ rfl]at hs
     refine RH 1 ha hs hH hC λa ha=>?_
     refine st_box ha rfl hs rfl λb19 a w ha hs ho=>?_
     replace hC:=hC.trans ho
     clear ho
     refine RH 1 ha hs hH hC λa ha=>?_
     exact⟨b8,b11,b14,b17,b19,ha.keep [1,3],hs.sub⟩
    refine RH 0 ha hs hH hC λa ha=>?_
    refine st_makeSlice ha rfl hs Tryz.underlying79 Ty.t4 rfl (by omega) (by omega) λb17 a w ha hs ho=>?_
    replace hC:=hC.trans ho
    clear ho
    rw[made1 _ rfl]at hs
    refine RH 0 ha hs hH hC λa ha=>?_
    refine st_makeSlice ha rfl hs Tryz.underlying52 Ty.t3 rfl (by omega) (by omega) λb11 a w ha hs ho=>?_
    replace hC:=hC.trans ho
    clear ho
    rw[made1 _ rfl]at hs
    refine RH 1 ha hs hH hC λa ha=>?_
    refine st_box ha rfl hs rfl λb19 a w ha hs ho=>?_
    replace hC:=hC.trans ho
    clear ho
    refine RH 1 ha hs hH hC λa ha=>?_
    exact⟨b8,b11,b14,b17,b19,ha.keep [1,3],hs.sub⟩
   ·
    refine RH 0 ha hs hH hC λa ha=>?_
    refine st_makeSlice ha rfl hs Tryz.underlying52 Ty.t3 rfl (by omega) (by omega) λb11 a w ha hs ho=>?_
    replace hC:=hC.trans ho
    clear ho
    rw[made1 _ rfl]at hs
    refine RH 0 ha hs hH hC λa ha=>?_
    refine DN [(3,[1012,13,1014,15]),(12,[1003,13,1014,15])] (by kernel_rfl) rfl ⟨⟨_,rfl,?_⟩,⟨_,rfl,?_⟩,trivial⟩
    ·
     refine RH 0 ha hs hH hC λa ha=>?_
     refine st_makeSlice ha rfl hs Tryz.underlying52 Ty.t3 rfl (by omega) (by omega) λb8 a w ha hs ho=>?_
     replace hC:=hC.trans ho
     clear ho
     rw[made1 _ rfl]at hs
     refine RH 0 ha hs hH hC λa ha=>?_
     refine st_makeSlice ha rfl hs Tryz.underlying79 Ty.t4 rfl (by omega) (by omega) λb17 a w ha hs ho=>?_
     replace hC:=hC.trans ho
     clear ho
     rw[made1 _ rfl]at hs
     refine RH 1 ha hs hH hC λa ha=>?_
     refine st_box ha rfl hs rfl λb19 a w ha hs ho=>?_
     replace hC:=hC.trans ho
     clear ho
     refine RH 1 ha hs hH hC λa ha=>?_
     exact⟨b8,b11,b14,b17,b19,ha.keep [1,3],hs.sub⟩
    refine RH 0 ha hs hH hC λa ha=>?_
    refine st_makeSlice ha rfl hs Tryz.underlying79 Ty.t4 rfl (by omega) (by omega) λb17 a w ha hs ho=>?_
    replace hC:=hC.trans ho
    clear ho
    rw[made1 _ rfl]at hs
    refine RH 0 ha hs hH hC λa ha=>?_
    refine st_makeSlice ha rfl hs Tryz.underlying52 Ty.t3 rfl (by omega) (by omega) λb8 a w ha hs ho=>?_
    replace hC:=hC.trans ho
    clear ho
    rw[made1 _ rfl]at hs
    refine RH 1 ha hs hH hC λa ha=>?_
    refine st_box ha rfl hs rfl λb19 a w ha hs ho=>?_
    replace hC:=hC.trans ho
    clear ho
    refine RH 1 ha hs hH hC λa ha=>?_
    exact⟨b8,b11,b14,b17,b19,ha.keep [1,3],hs.sub⟩
   refine RH 0 ha hs hH hC λa ha=>?_
   refine st_makeSlice ha rfl hs Tryz.underlying79 Ty.t4 rfl (by omega) (by omega) λb17 a w ha hs ho=>?_
   replace hC:=hC.trans ho
   clear ho
   rw[made1 _ rfl]at hs
   refine RH 0 ha hs hH hC λa ha=>?_
   refine DN [(3,[1006,13,1014,15]),(6,[1003,13,1014,15])] (by kernel_rfl) rfl ⟨⟨_,rfl,?_⟩,⟨_,rfl,?_⟩,trivial⟩
   ·
    refine RH 0 ha hs hH hC λa ha=>?_
    refine st_makeSlice ha rfl hs Tryz.underlying52 Ty.t3 rfl (by omega) (by omega) λb8 a w ha hs ho=>?_
    replace hC:=hC.trans ho
    clear ho
    rw[made1 _ rfl]at hs
    refine RH 0 ha hs hH hC λa ha=>?_
    refine st_makeSlice ha rfl hs Tryz.underlying52 Ty.t3 rfl (by omega) (by omega) λb11 a w ha hs ho=>?_
    replace hC:=hC.trans ho
    clear ho
    rw[made1 _ rfl]at hs
    refine RH 1 ha hs hH hC λa ha=>?_
    refine st_box ha rfl hs rfl λb19 a w ha hs ho=>?_
    replace hC:=hC.trans ho
    clear ho
    refine RH 1 ha hs hH hC λa ha=>?_
    exact⟨b8,b11,b14,b17,b19,ha.keep [1,3],hs.sub⟩
   refine RH 0 ha hs hH hC λa ha=>?_
   refine st_makeSlice ha rfl hs Tryz.underlying52 Ty.t3 rfl (by omega) (by omega) λb11 a w ha hs ho=>?_
   replace hC:=hC.trans ho
   clear ho
   rw[made1 _ rfl]at hs
   refine RH 0 ha hs hH hC λa ha=>?_
   refine st_makeSlice ha rfl hs Tryz.underlying52 Ty.t3 rfl (by omega) (by omega) λb8 a w ha hs ho=>?_
   replace hC:=hC.trans ho
   clear ho
   rw[made1 _ rfl]at hs
   refine RH 1 ha hs hH hC λa ha=>?_
   refine st_box ha rfl hs rfl λb19 a w ha hs ho=>?_
   replace hC:=hC.trans ho
   clear ho
   refine RH 1 ha hs hH hC λa ha=>?_
   exact⟨b8,b11,b14,b17,b19,ha.keep [1,3],hs.sub⟩
  refine RH 0 ha hs hH hC λa ha=>?_
  refine st_makeSlice ha rfl hs Tryz.underlying79 Ty.t4 rfl (by omega) (by omega) λb17 a w ha hs ho=>?_
  replace hC:=hC.trans ho
  clear ho
  rw[made1 _ rfl]at hs
  refine RH 0 ha hs hH hC λa ha=>?_
  refine DN [(3,[2006,1009,13,1014,15]),(6,[2003,1009,13,1014,15]),(9,[2003,1006,13,1014,15])] (by kernel_rfl) rfl ⟨⟨_,rfl,?_⟩,⟨_,rfl,?_⟩,⟨_,rfl,?_⟩,trivial⟩
  ·
   refine RH 0 ha hs hH hC λa ha=>?_
   refine st_makeSlice ha rfl hs Tryz.underlying52 Ty.t3 rfl (by omega) (by omega) λb8 a w ha hs ho=>?_
   replace hC:=hC.trans ho
   clear ho
   rw[made1 _ rfl]at hs
   refine RH 0 ha hs hH hC λa ha=>?_
   refine DN [(6,[1009,13,1014,15]),(9,[1006,13,1014,15])] (by kernel_rfl) rfl ⟨⟨_,rfl,?_⟩,⟨_,rfl,?_⟩,trivial⟩
   ·
    refine RH 0 ha hs hH hC λa ha=>?_
    refine st_makeSlice ha rfl hs Tryz.underlying52 Ty.t3 rfl (by omega) (by omega) λb11 a w ha hs ho=>?_
    replace hC:=hC.trans ho
    clear ho
    rw[made1 _ rfl]at hs
    refine RH 0 ha hs hH hC λa ha=>?_
    refine st_makeSlice ha rfl hs Tryz.underlying78 Ty.t244 rfl (by omega) (by omega) λb14 a w ha hs ho=>?_
    replace hC:=hC.trans ho
    clear ho
    rw[made2]at hs
    refine RH 1 ha hs hH hC λa ha=>?_
    refine st_box ha rfl hs rfl λb19 a w ha hs ho=>?_
    replace hC:=hC.trans ho
    clear ho
    refine RH 1 ha hs hH hC λa ha=>?_
    exact⟨b8,b11,b14,b17,b19,ha.keep [1,3],hs.sub⟩
   refine RH 0 ha hs hH hC λa ha=>?_
   refine st_makeSlice ha rfl hs Tryz.underlying78 Ty.t244 rfl (by omega) (by omega) λb14 a w ha hs ho=>?_
   replace hC:=hC.trans ho
   clear ho
   rw[made2]at hs
   refine RH 0 ha hs hH hC λa ha=>?_
   refine st_makeSlice ha rfl hs Tryz.underlying52 Ty.t3 rfl (by omega) (by omega) λb11 a w ha hs ho=>?_
   replace hC:=hC.trans ho
   clear ho
   rw[made1 _ rfl]at hs
   refine RH 1 ha hs hH hC λa ha=>?_
   refine st_box ha rfl hs rfl λb19 a w ha hs ho=>?_
   replace hC:=hC.trans ho
   clear ho
   refine RH 1 ha hs hH hC λa ha=>?_
   exact⟨b8,b11,b14,b17,b19,ha.keep [1,3],hs.sub⟩
  ·
   refine RH 0 ha hs hH hC λa ha=>?_
   refine st_makeSlice ha rfl hs Tryz.underlying52 Ty.t3 rfl (by omega) (by omega) λb11 a w ha hs ho=>?_
   replace hC:=hC.trans ho
   clear ho
   rw[made1 _ rfl]at hs
   refine RH 0 ha hs hH hC λa ha=>?_
   refine DN [(3,[1009,13,1014,15]),(9,[1003,13,1014,15])] (by kernel_rfl) rfl ⟨⟨_,rfl,?_⟩,⟨_,rfl,?_⟩,trivial⟩
   ·
    refine RH 0 ha hs hH hC λa ha=>?_
    refine st_makeSlice ha rfl hs Tryz.underlying52 Ty.t3 rfl (by omega) (by omega) λb8 a w ha hs ho=>?_
    replace hC:=hC.trans ho
    clear ho
    rw[made1 _ rfl]at hs
    refine RH 0 ha hs hH hC λa ha=>?_
    refine st_makeSlice ha rfl hs Tryz.underlying78 Ty.t244 rfl (by omega) (by omega) λb14 a w ha hs ho=>?_
    replace hC:=hC.trans ho
    clear ho
    rw[made2]at hs
    refine RH 1 ha hs hH hC λa ha=>?_
    refine st_box ha rfl hs rfl λb19 a w ha hs ho=>?_
    replace hC:=hC.trans ho
    clear ho
    refine RH 1 ha hs hH hC λa ha=>?_
    exact⟨b8,b11,b14,b17,b19,ha.keep [1,3],hs.sub⟩
   refine RH 0 ha hs hH hC λa ha=>?_
   refine st_makeSlice ha rfl hs Tryz.underlying78 Ty.t244 rfl (by omega) (by omega) λb14 a w ha hs ho=>?_
   replace hC:=hC.trans ho
   clear ho
   rw[made2]at hs
   refine RH 0 ha hs hH hC λa ha=>?_
   refine st_makeSlice ha rfl hs Tryz.underlying52 Ty.t3 rfl (by omega) (by omega) λb8 a w ha hs ho=>?_
   replace hC:=hC.trans ho
   clear ho
   rw[made1 _ rfl]at hs
   refine RH 1 ha hs hH hC λa ha=>?_
   refine st_box ha rfl hs rfl λb19 a w ha hs ho=>?_
   replace hC:=hC.trans ho
   clear ho
   refine RH 1 ha hs hH hC λa ha=>?_
   exact⟨b8,b11,b14,b17,b19,ha.keep [1,3],hs.sub⟩
  refine RH 0 ha hs hH hC λa ha=>?_
  refine st_makeSlice ha rfl hs Tryz.underlying78 Ty.t244 rfl (by omega) (by omega) λb14 a w ha hs ho=>?_
  replace hC:=hC.trans ho
  clear ho
  rw[made2]at hs
  refine RH 0 ha hs hH hC λa ha=>?_
  refine DN [(3,[1006,13,1014,15]),(6,[1003,13,1014,15])] (by kernel_rfl) rfl ⟨⟨_,rfl,?_⟩,⟨_,rfl,?_⟩,trivial⟩
  ·
   refine RH 0 ha hs hH hC λa ha=>?_
   refine st_makeSlice ha rfl hs Tryz.underlying52 Ty.t3 rfl (by omega) (by omega) λb8 a w ha hs ho=>?_
   replace hC:=hC.trans ho
   clear ho
   rw[made1 _ rfl]at hs
   refine RH 0 ha hs hH hC λa ha=>?_
   refine st_makeSlice ha rfl hs Tryz.underlying52 Ty.t3 rfl (by omega) (by omega) λb11 a w ha hs ho=>?_
   replace hC:=hC.trans ho
   clear ho
   rw[made1 _ rfl]at hs
   refine RH 1 ha hs hH hC λa ha=>?_
   refine st_box ha rfl hs rfl λb19 a w ha hs ho=>?_
   replace hC:=hC.trans ho
   clear ho
   refine RH 1 ha hs hH hC λa ha=>?_
   exact⟨b8,b11,b14,b17,b19,ha.keep [1,3],hs.sub⟩
  refine RH 0 ha hs hH hC λa ha=>?_
  refine st_makeSlice ha rfl hs Tryz.underlying52 Ty.t3 rfl (by omega) (by omega) λb11 a w ha hs ho=>?_
  replace hC:=hC.trans ho
  clear ho
  rw[made1 _ rfl]at hs
  refine RH 0 ha hs hH hC λa ha=>?_
  refine st_makeSlice ha rfl hs Tryz.underlying52 Ty.t3 rfl (by omega) (by omega) λb8 a w ha hs ho=>?_
  replace hC:=hC.trans ho
  clear ho
  rw[made1 _ rfl]at hs
  refine RH 1 ha hs hH hC λa ha=>?_
  refine st_box ha rfl hs rfl λb19 a w ha hs ho=>?_
  replace hC:=hC.trans ho
  clear ho
  refine RH 1 ha hs hH hC λa ha=>?_
  exact⟨b8,b11,b14,b17,b19,ha.keep [1,3],hs.sub⟩
 clear ha;(try clear hs)
 rintro a w ⟨b8,b11,b14,b17,b19,ha,hs⟩
 refine RN 3 ha hs λa ha=>?_
 replace hs:=hs.sl0 128 1 none
 replace hs:=St.allNil (f:=bbo) hs
 rw[rep_ints]at hs
 refine wp_loop_ghost (λμ a w=>∃ (i:Nat) (xs:List BBx) (adL:Option Addr) (cL:Nat),(μ=n-i∧i≤n∧prx xs=List.replicate i (List.replicate delay 0))∧Fr a 48 [(1,pt b1),(3,pt b19),(4,.int .i64 i)]∧St W w (blk b19 83 (rc0 n me id delay window guess order branches workers room b8 b11 b14 b17 adL i cL)::Sl 128 1 adL i cL (xs.map bbv)::All bbo xs::blk b8 3 (ints .i64 n (λ_=>0))::blk b11 3 (ints .i64 n (λj=>if j<i then delay else 0))::blk b14 244 (rows (λ_:Pe=>[Value.int .i64 0,.int .u32 0]) (List.replicate n (pe0 0)))::blk b17 4 (List.replicate n (.bool false))::blk b1 27 [.int .i64 n,.int .i64 me,.int .i64 id,.int .i64 delay,.int .i64 window,.int .i64 guess,.int .i64 order,.int .i64 branches,.int .i64 workers,.int .i64 room]::L)) (n) (⟨0,[],none,0,⟨rfl,by omega,rfl⟩,ha.keep [1,3,4],(hs.sub:St W w (blk b19 83 (rc0 n me id delay window guess order branches workers room b8 b11 b14 b17 none 0 0)::Sl 128 1 none 0 0 []::All bbo []::blk b8 3 (ints .i64 n (λ_=>0))::blk b11 3 (ints .i64 n (λ_=>0))::blk b14 244 (rows (λ_:Pe=>[Value.int .i64 0,.int .u32 0]) (List.replicate n (pe0 0)))::blk b17 4 (List.replicate n (.bool false))::blk b1 27 [.int .i64 n,.int .i64 me,.int .i64 id,.int .i64 delay,.int .i64 window,.int .i64 guess,.int .i64 order,.int .i64 branches,.int .i64 workers,.int .i64 room]::L))⟩) ?_
 clear ha hs
 rintro μ a w ⟨i,xs,adL,cL,⟨rfl,hi,hxs⟩,ha,hs⟩
 refine IF 6 ha hs (λhc0 a ha=>?_) λhc0 a ha=>?_
 ·
  refine DWO 2 [6,7,8,9] [0,1,2,3,5,3004,1006,1007,1008,1009,1010,11,12,1013] ha hs λa w ha hs hH hC=>?_
  refine RH 7 ha hs hH hC λa ha=>?_
  refine st_makeSlice ha rfl hs Tryz.underlying22 Ty.t5 rfl (by omega) (by omega) λb33 a w ha hs ho=>?_
  replace hC:=hC.trans ho
  clear ho
  rw[made1 _ rfl,bc_zero]at hs
  replace hs:=hs.slWhole (m:=delay) (sz:=1) (by rw[bc_len,List.length_replicate,Nat.mul_one])
  refine RH 1 ha hs hH hC λa ha=>?_
  refine st_buildSlice ha rfl hs Tryz.underlying77 Ty.t128 rfl rfl rfl rfl (by decide) (by decide) λb35 a w ha hs ho=>?_
  replace hC:=hC.trans ho
  clear ho
  refine RH 0 ha hs hH hC λa ha=>?_
  refine st_append ha rfl hs Tryz.underlying77 Ty.t128 rfl rfl hs.rdAll rfl (by simp[Value.oneCell']) (by decide) (by decide) (by omega) λad36 c36 a w ha hs=>?_
  rw[show List.map bbv xs++_=List.map bbv (xs++[(some (⟨b33,0,none⟩:Addr),delay,List.replicate delay 0)]) from by rw[List.map_append,List.map_singleton,bbv,List.length_replicate];rfl]at hs
  refine ST 2 ha hs (λa w ha hs=>?_)
  refine RN 0 ha hs λa ha=>?_
  refine DWO 0 [6] [0,1,2,4,5,3003,1006,7,1008] ha hs λa w ha hs hH hC=>?_
  refine RH 8 ha hs hH hC λa ha=>?_
  refine ST 0 ha hs (λa w ha hs=>?_) (hlt:=(by rw[ints_len];omega))
  rw[ints_set,ints_congr (g:=λj=>if j=i then (delay:Int) else if j<i then (delay:Int) else 0) (g':=λj=>if j<i+1 then (delay:Int) else 0) (λj _=>by
    by_cases h1:j=i
    · subst h1;simp
    · by_cases h2:j<i
      · simp[h1,h2,show j<i+1 from by omega]
      · simp[h1,h2,show ¬ j<i+1 from by omega])]at hs
  refine RN 3 ha hs λa ha=>?_
  have hs2:=St.allPush (f:=bbo) (x:=(some (⟨b33,0,none⟩:Addr),delay,List.replicate delay 0)) (by
    show St _ _ (Sl 5 1 (some (⟨b33,0,none⟩:Addr)) (List.replicate delay (0:UInt8)).length delay (bc (List.replicate delay 0))::_)
    rw[List.length_replicate]
    exact hs.sub (M:=Sl 5 1 (some ⟨b33,0,none⟩) delay delay (bc (List.replicate delay 0))::All bbo xs::blk b19 83 (rc0 n me id delay window guess order branches workers room b8 b11 b14 b17 ad36 (i+1) c36)::Sl 128 1 ad36 (i+1) c36 ((xs++[(some (⟨b33,0,none⟩:Addr),delay,List.replicate delay 0)]).map bbv)::blk b8 3 (ints .i64 n (λ_=>0))::blk b11 3 (ints .i64 n (λj=>if j<i+1 then (delay:Int) else 0))::blk b14 244 (rows (λ_:Pe=>[Value.int .i64 0,.int .u32 0]) (List.replicate n (pe0 0)))::blk b17 4 (List.replicate n (.bool false))::blk b1 27 [.int .i64 n,.int .i64 me,.int .i64 id,.int .i64 delay,.int .i64 window,.int .i64 guess,.int .i64 order,.int .i64 branches,.int .i64 workers,.int .i64 room]::L))
  exact⟨n-(i+1),by omega,i+1,xs++[(some (⟨b33,0,none⟩:Addr),delay,List.replicate delay 0)],ad36,c36,⟨rfl,by omega,by rw[prx,List.map_append,← prx,hxs,List.replicate_succ'];rfl⟩,ha.keep [1,3,4],hs2.sub⟩
 refine RT 3 ha hs ?_
 obtain rfl:i=n:=by omega
 obtain⟨lb,lo,rfl,_⟩:=(hs.pick (Sl 128 1 adL i cL (xs.map bbv))).slRd adL (by omega)
 rw[ints_congr (g:=λj=>if j<i then (delay:Int) else 0) (g':=λ_=>(delay:Int)) (λj hj=>by simp[hj])]at hs
 refine⟨⟨b19,lb,lo,cL,b8,b11,b14,b17⟩,rfl,?_⟩
 have hll:(newK ⟨i,me,id,delay,window,guess,order,branches,workers,room⟩).ls.length=i:=by simp[newK]
 have h9:=hs.sub (M:=Sl 128 1 (some ⟨lb,lo,none⟩) i cL (xs.map bbv)::All bbo xs::blk b19 83 (rc0 i me id delay window guess order branches workers room b8 b11 b14 b17 (some ⟨lb,lo,none⟩) i cL)::blk b8 3 (ints .i64 i (λ_=>0))::blk b11 3 (ints .i64 i (λ_=>(delay:Int)))::blk b14 244 (rows (λ_:Pe=>[Value.int .i64 0,.int .u32 0]) (List.replicate i (pe0 0)))::blk b17 4 (List.replicate i (.bool false))::L)
 have h8:=RLn.close (ls:=List.replicate i (List.replicate delay 0)) (by rw[List.length_replicate];exact h9) hxs
 replace h8:=St.sl0 (St.sl0 h8 68 1 none) 223 3 none
 refine St.shut (M:=[_,_,_,_,_,_,_,_]) (A:=RefS _ _) ?_ (λ_ h=>⟨⟨none,0,none,0⟩,h⟩)
 have hps:(newK ⟨i,me,id,delay,window,guess,order,branches,workers,room⟩).ps=List.replicate i (pe0 delay):=by simp[newK]
 rw[rcC,hll,hps,heC_new,haC_new,apC_new,wdC_new]
 exact h8.sub (M:=blk b19 83 (rc0 i me id delay window guess order branches workers room b8 b11 b14 b17 (some ⟨lb,lo,none⟩) i cL)::RLn lb lo cL (List.replicate i (List.replicate delay 0))::blk b8 3 (ints .i64 i (λ_=>0))::blk b11 3 (ints .i64 i (λ_=>(delay:Int)))::blk b14 244 (rows (λ_:Pe=>[Value.int .i64 0,.int .u32 0]) (List.replicate i (pe0 0)))::blk b17 4 (List.replicate i (.bool false))::Sl 68 1 none 0 0 []::Sl 223 3 none 0 0 []::L)
end
end
section
structure RgB where
 pb:Nat
 core:RcB
 adO:Option Addr
 cO:Nat
 adT:Option Addr
 cT:Nat
 gs:Gs
abbrev rgC (p:Pr)(B:RgB)(g:Nat→Int):List Value:=[pt B.core.cb,.string p.title,.slice B.adO p.ops.length B.cO,.int .i64 B.gs.kind,.int .i64 B.gs.order,.slice B.adT B.gs.table.length B.cT]++ints .i32 32 g
theorem rgC_pr {w:World}{b:Nat}{p:Pr}{B:RgB}{g:Nat→Int}(h:Rd w b 0 (rgC p B g)):Rd w b 1 (prV p B.adO B.cO):=h.part 1 2
theorem rgC_by {w:World}{b:Nat}{p:Pr}{B:RgB}{g:Nat→Int}(h:Rd w b 0 (rgC p B g)):Rd w b 3 (gsC B.gs B.adT B.cT):=h.part 3 3
theorem rgC_st {w:World}{b:Nat}{p:Pr}{B:RgB}{g:Nat→Int}(h:Rd w b 0 (rgC p B g)):Rd w b 6 (ints .i32 32 g):=by
 have h1:=h.part 6 32
 rwa [show ((rgC p B g).drop 6).take 32=ints .i32 32 g from by
   show (ints .i32 32 g).take 32=_
   exact List.take_of_length_le (by rw[ints_len];exact Nat.le_refl _)]at h1
theorem rgC_len (p:Pr)(B:RgB)(g:Nat→Int):(rgC p B g).length=38:=by rw[rgC,List.length_append,ints_len];rfl
theorem rgC_set (p:Pr)(B:RgB)(g g':Nat→Int):splice (rgC p B g) 6 (ints .i32 32 g')=rgC p B g':=by
 rw[splice,ints_len,List.drop_eq_nil_of_le (by rw[rgC_len];exact Nat.le_refl _),List.append_nil,rgC,rgC]
 congr 1
def RefG (W:World)(B:RgB)(p:Pr)(s:Pl):SP:=λh=>sepL [blk B.pb 65 (rgC p B s.g),RefS B.core s.k,RoP W p B.adO B.cO] h
section
variable {W w:World}{L R:List SP}{n c i cP cT:Nat}{ad adP adT:Option Addr}{B:RgB}{x:UInt8}{p:Pr}{s:Pl}{tb:List UInt8}{k:Ks}{C:RcB}{A:RcA}
theorem RefG.open (hs:St W w (RefG W B p s::L)):St W w (blk B.pb 65 (rgC p B s.g)::RefS B.core s.k::RoP W p B.adO B.cO::L) :=
 hs.open (M:=[_,_,_]) λ_ h=>h
theorem RefG.fold (hs:St W w L)(B:RgB)(p:Pr)(s:Pl)[kk:Arr L [blk B.pb 65 (rgC p B s.g),RefS B.core s.k,RoP W p B.adO B.cO] R]:St W w (RefG W B p s::R) :=
 St.shut (M:=[_,_,_]) (hs.perm kk.perm) λ_ h=>h
theorem ref_frontA (hs:St W w (RLn C.lb C.lo C.cL k.ls::blk C.cb 83 (rcC k C A)::L))(hk:WC k):Calls Tryz.prog 64 #[pt C.cb] w λr w'=>r=.returned (.int .i64 (frontK k))∧St W w' (RLn C.lb C.lo C.cL k.ls::blk C.cb 83 (rcC k C A)::L):=by
 have hn:=hk.n
 have hls:=hk.ls
 refine EN Tryz.func64 Tryz.ntmps64 rfl rfl λa ha=>?_
 refine RN 7 ha hs λa ha=>?_
 obtain⟨xs,hxs,hs⟩:=RLn.open hs
 have hxl:xs.length=k.ls.length:=by rw[← hxs,prx_len]
 rw[← hxl]at ha
 refine CL 0 ha hs (ref_front (xs:=xs) hs (by omega) (by omega) (λw' hw=>St.rdXe hw)) λa w ha hs=>?_
 refine RT 1 ha hs ?_
 exact⟨by rw[hxs];rfl,RLn.close hs hxs⟩
theorem ref_plays (hs:St W w (RefG W B p s::L))(hw:WP p s)(hpr:prOk p)(hsz:p.title.size≤1000000000):Calls Tryz.prog 60 #[pt B.pb] w λr w'=>r=.returned (.tuple #[])∧St W w' (RefG W B p (playP p s)::L):=by
 refine EN Tryz.func60 Tryz.ntmps60 rfl rfl λa ha=>?_
 refine RN 0 ha hs λa ha=>?_
 refine wp_loop_ghost (λμ a w=>∃ (i:Nat),(μ=frontK s.k-s.k.mr.length-i∧i≤frontK s.k-s.k.mr.length)∧Fr a 60 [(0,pt B.pb)]∧St W w (RefG W B p (playN p i s)::L)) (frontK s.k-s.k.mr.length) (⟨0,⟨rfl,by omega⟩,ha.keep [0],hs⟩) ?_
 clear ha hs
 rintro μ a w ⟨i,⟨rfl,hi⟩,ha,hs⟩
 obtain⟨hwi,hls,hml⟩:=hw.play i hi
 have hnx:playN p (i+1) s=play1 p (playN p i s):=playN_succ p i s
 have hlow:=hw.low
 have hfe:frontK (playN p i s).k=frontK s.k:=by rw[frontK,hls];rfl
 generalize hsi:playN p i s=si at hs hwi hls hml hnx hfe
 replace hs:=RefG.open hs
 have hne:=hwi.wc.lne
 have hl8:si.k.ls.length≤8:=by rw[hwi.wc.ls];exact hwi.wc.n.2
 have hl0:0<si.k.ls.length:=by rw[hwi.wc.ls];have:=hwi.wc.n;omega
 have hfr1:frontK si.k≤1000:=Nat.le_trans hwi.wc.frontt hwi.wc.headt
 obtain⟨A,hs⟩:=RefS.open (hs.pick (RefS B.core si.k))
 refine DWC 2 (λw0 w'=>Rd w' B.pb 0 (rgC p B si.g)∧Rd w' B.core.cb 0 (rcC si.k B.core A)) [11,12] [0,1,2,8,9,10,3003,4,5,3006,7,1011,1012,13] ha hs λa w ha hs hH=>?_
 have hC:=hH.at w ⟨hs.rdAll (b:=B.pb),hs.rdAll (b:=B.core.cb)⟩
 refine RH 6 ha hs hH hC λa ha=>?_
 refine QH ha (λw hc=>ld1 ha (hc.1 0 _ rfl)) hC λa ha=>?_
 refine RH 2 ha hs hH hC λa ha=>?_
 refine QH ha (λw hc=>ld1 ha (hc.2 16 _ rfl)) hC λa ha=>?_
 refine RH 1 ha hs hH hC λa ha=>?_
 refine SS ha (ld1 ha (hC.1 0 _ rfl)) λa ha=>?_
 refine RH 0 ha hs hH hC λa ha=>?_
 refine CL 0 ha hs (ref_frontA ((hs.pick (blk B.core.cb 83 (rcC si.k B.core A))).pick (RLn B.core.lb B.core.lo B.core.cL si.k.ls)) hwi.wc) λa w ha hs=>?_
 replace hC:=hH.at w ⟨hs.rdAll (b:=B.pb),hs.rdAll (b:=B.core.cb)⟩
 refine RH 1 ha hs hH hC λa ha=>?_
 refine IF 0 ha hs (λhc0 a ha=>?_) λhc0 a ha=>?_
 ·
  have hmf:si.k.mr.length<frontL si.k.ls:=by
    have:frontL si.k.ls=frontK si.k:=rfl
    omega
  have hmf2:si.k.mr.length<frontK si.k:=hmf
  refine RN 11 ha hs λa ha=>?_
  obtain⟨xs,hxs,hs⟩:=RLn.open (hs.pick (RLn B.core.lb B.core.lo B.core.cL si.k.ls))
  have hxl:xs.length=si.k.ls.length:=by rw[← hxs,prx_len]
  have hjl:=jointL_len si.k.ls si.k.mr.length
  refine DWC 0 (λw0 w'=>Rd w' B.pb 0 (rgC p B si.g)∧Rd w' B.core.cb 0 (rcC si.k B.core A)) [8,13,14,15,16,18] [0,1,2,3,5,6,7,9,10,11,12,17,3004,3008,1013,1014,1015,1016,1018,1019,20,21,22,23,24,1025] ha hs λa w ha hs hH=>?_
  have hC:=hH.at w ⟨hs.rdAll (b:=B.pb),hs.rdAll (b:=B.core.cb)⟩
  refine RH 12 ha hs hH hC λa ha=>?_
  refine QH ha (λw hc=>ex_loadN ha Tryz.underlying34 rfl Ty.t34 (rgC_pr hc.1)) hC λa ha=>?_
  refine QH ha (λw hc=>ex_loadN ha Tryz.underlying63 rfl Ty.t63 (rgC_st hc.1)) hC λa ha=>?_
  refine RH 0 ha hs hH hC λa ha=>?_
  refine SS ha (ld1 ha (hC.1 0 _ rfl)) λa ha=>?_
  refine RH 2 ha hs hH hC λa ha=>?_
  refine SS ha (ld1 ha (hC.2 10 _ rfl)) λa ha=>?_
  rw[← hxl]at ha
  refine RH 0 ha hs hH hC λa ha=>?_
  refine CL2 0 ha hs (ref_joint (xs:=xs) (f:=si.k.mr.length) hs (by omega) (by omega) (λw' hw=>St.rdXe hw) (by rw[hxs];exact hmf)) λadj cj a w ha hs=>?_
  replace hC:=hH.at w ⟨hs.rdAll (b:=B.pb),hs.rdAll (b:=B.core.cb)⟩
  rw[hxs]at ha hs
  refine RH 0 ha hs hH hC λa ha=>?_
  refine CL1 0 ha hs (refStep_spec (b:=jointL si.k.ls si.k.mr.length) (fr:=si.k.mr.length) (hs.pick (RoP W p B.adO B.cO)) hpr hsz (hwi.gok hpr) (by omega) (by omega) (λw' hw=>(hw.pick (Sl 5 1 adj (jointL si.k.ls si.k.mr.length).length cj (bc (jointL si.k.ls si.k.mr.length)))).rdB adj _ rfl rfl)) λnst a w ha ⟨hgk,hs⟩=>?_
  refine RN 5 ha hs λa ha=>?_
  refine st_storeN ha rfl hs Ty.t63 ints_one (by rw[ints_len,rgC_len];decide) λa w ha hs=>?_
  rw[rgC_set]at hs
  refine RN 0 ha hs λa ha=>?_
  replace hs:=RLn.close (hs.sub (M:=Sl 128 1 (some ⟨B.core.lb,B.core.lo,none⟩) si.k.ls.length B.core.cL (xs.map bbv)::All bbo xs::blk B.pb 65 (rgC p B (frameI p si.k.mr.length (jointL si.k.ls si.k.mr.length) si.g))::RoP W p B.adO B.cO::blk B.core.cb 83 (rcC si.k B.core A)::blk B.core.hb 3 (heC si.k.ps)::blk B.core.ab 3 (haC si.k.ps)::blk B.core.wb 244 (rows wdC si.k.ps)::blk B.core.xb 4 (apC si.k.ps)::Sl 68 1 A.adM si.k.mr.length A.cM (mrC si.k.mr)::Sl 223 3 A.adE si.k.ev.length A.cE (rows rawC si.k.ev)::L)) hxs
  replace hs:=RefS.fold hs B.core si.k A
  refine DWC 0 (λw0 w'=>Rd w' B.pb 0 (rgC p B (frameI p si.k.mr.length (jointL si.k.ls si.k.mr.length) si.g))) [7,8] [0,1,2,4,5,6,3003,1007,1008,1009] ha hs λa w ha hs hH=>?_
  have hC:=hH.at w (hs.rdAll (b:=B.pb))
  refine RH 6 ha hs hH hC λa ha=>?_
  refine QH ha (λw hc=>ld1 ha (hc 0 _ rfl)) hC λa ha=>?_
  refine RH 0 ha hs hH hC λa ha=>?_
  refine SS ha (ex_loadN ha Tryz.underlying63 rfl Ty.t63 (rgC_st hC)) λa ha=>?_
  refine RH 0 ha hs hH hC λa ha=>?_
  refine CL 0 ha hs (refSumOf_spec hs) λa w ha hs=>?_
  replace hC:=hH.at w (hs.rdAll (b:=B.pb))
  refine RH 0 ha hs hH hC λa ha=>?_
  refine CL 0 ha hs (ref_mark (hs.pick (RefS B.core si.k)) hwi.wc (by omega) (crcSum_lt _)) λa w ha hs=>?_
  refine RN 0 ha hs λa ha=>?_
  exact⟨frontK s.k-s.k.mr.length-(i+1),by omega,i+1,⟨rfl,by omega⟩,ha.keep [0],by
    rw[hnx]
    show St W w (RefG W B p ⟨markK si.k (crcSum (gameB (frameI p si.k.mr.length (jointL si.k.ls si.k.mr.length) si.g))),frameI p si.k.mr.length (jointL si.k.ls si.k.mr.length) si.g⟩::L)
    exact (RefG.fold hs B p ⟨markK si.k (crcSum (gameB (frameI p si.k.mr.length (jointL si.k.ls si.k.mr.length) si.g))),frameI p si.k.mr.length (jointL si.k.ls si.k.mr.length) si.g⟩).sub⟩
 refine RT 0 ha hs ?_
 obtain rfl:i=frontK s.k-s.k.mr.length:=by
   have:frontL si.k.ls=frontK si.k:=rfl
   omega
 refine⟨rfl,?_⟩
 rw[playP,hsi]
 exact (RefG.fold (RefS.fold hs B.core si.k A) B p si).sub
theorem refP_press (hs:St W w (RefG W B p s::L))(hw:WF' p s)(hpr:prOk p)(hsz:p.title.size≤1000000000):Calls Tryz.prog 21 #[pt B.pb,.int .u8 (x.toNat:Nat)] w λr w'=>r=.returned (.int .i64 (pressP p x s).1)∧St W w' (RefG W B p (pressP p x s).2::L):=by
 have h1:=press_ext x s.k
 have hwp:=hw.toWP.more (hw.wc.press x) (hw.held.press x) h1.1 h1.2
 replace hs:=RefG.open hs
 refine EN Tryz.func21 Tryz.ntmps21 rfl rfl λa ha=>?_
 refine CL 8 ha hs (ref_press (x:=x) (hs.pick (RefS B.core s.k)) hw.wc) λa w ha hs=>?_
 refine RN 1 ha hs λa ha=>?_
 replace hs:=RefG.fold hs B p ⟨(pressK x s.k).2,s.g⟩
 refine CL 2 ha hs (ref_plays hs hwp hpr hsz) λa w ha hs=>?_
 refine RT 3 ha hs ?_
 exact⟨rfl,hs⟩
theorem refP_conf (hs:St W w (RefG W B p s::L))(hw:WF' p s):Calls Tryz.prog 62 #[pt B.pb] w λr w'=>∃ ad c,r=.returned (.tuple #[.slice ad 128 c,.int .i64 (confP s).2])∧St W w' (Sl 5 1 ad 128 c (bc (confP s).1)::RefG W B p s::L):=by
 replace hs:=RefG.open hs
 refine EN Tryz.func62 Tryz.ntmps62 rfl rfl λa ha=>?_
 refine DWC 4 (λw0 w'=>Rd w' B.pb 0 (rgC p B s.g)) [4,8] [0,1,2,5,6,7,3003,3008,1004,1009,10,11] ha hs λa w ha hs hH=>?_
 have hC:=hH.at w (hs.rdAll (b:=B.pb))
 refine RH 6 ha hs hH hC λa ha=>?_
 refine QH ha (λw hc=>ex_loadN ha Tryz.underlying63 rfl Ty.t63 (rgC_st hc)) hC λa ha=>?_
 refine QH ha (λw hc=>ld1 ha (hc 0 _ rfl)) hC λa ha=>?_
 refine RH 0 ha hs hH hC λa ha=>?_
 refine CL2 0 ha hs (refBytes_spec hs) λad c a w ha hs=>?_
 replace hC:=hH.at w (hs.rdAll (b:=B.pb))
 refine RH 0 ha hs hH hC λa ha=>?_
 refine CL 0 ha hs (ref_frontC (hs.pick (RefS B.core s.k)) hw.wc) λa w ha hs=>?_
 refine RN 2 ha hs λa ha=>?_
 refine RT 0 ha hs ?_
 exact⟨ad,c,rfl,(RefG.fold hs B p s).sub (M:=Sl 5 1 ad 128 c (bc (gameB s.g))::RefG W B p s::L)⟩
theorem ref_headA (hs:St W w (RLn C.lb C.lo C.cL k.ls::blk C.cb 83 (rcC k C A)::L))(hk:WC k):Calls Tryz.prog 38 #[pt C.cb] w λr w'=>r=.returned (.int .i64 (headK k))∧St W w' (RLn C.lb C.lo C.cL k.ls::blk C.cb 83 (rcC k C A)::L):=by
 have hme:k.me<k.ls.length:=by rw[hk.ls];exact hk.me
 refine EN Tryz.func38 Tryz.ntmps38 rfl rfl λa ha=>?_
 refine DWO 3 [8] [0,1,2,4,5,6,7,3003,1008,9,10,1011,12,13] ha hs λa w ha hs hH hC=>?_
 obtain⟨xs,hxs,hs⟩:=RLn.open hs
 have hxl:xs.length=k.ls.length:=by rw[← hxs,prx_len]
 obtain⟨bl,ol,y,hbe,hy,hcy,hry⟩:=(St.rdXe hs).at (i:=k.me) (by omega)
 cases hbe
 have hyl:headK k=y.2.2.length:=by
   show (k.ls.getD k.me []).length=_
   rw[← hxs,prx_get hy]
 replace hH:=Hd.old hs
 refine RH 11 ha hs hH hC λa ha=>?_
 refine SS ha (ld1 ha (hcy)) λa ha=>?_
 rw[bbv]at ha
 refine RH 2 ha hs hH hC λa ha=>?_
 refine RT 0 ha hs ?_
 exact⟨by rw[hyl],RLn.close hs hxs⟩
theorem refP_disp (hs:St W w (RefG W B p s::L))(hw:WF' p s)(hpr:prOk p)(hsz:p.title.size≤1000000000)(hgs:mayGs B.gs)(hT:RdB W B.adT B.gs.table.length B.gs.table):Calls Tryz.prog 63 #[pt B.pb] w λr w'=>∃ ad c,r=.returned (.tuple #[.slice ad 128 c,.int .i64 (dispG p B.gs s).2])∧St W w' (Sl 5 1 ad 128 c (bc (dispG p B.gs s).1)::RefG W B p s::L):=by
 have hl8:s.k.ls.length≤8:=by rw[hw.wc.ls];exact hw.wc.n.2
 have hl0:0<s.k.ls.length:=by rw[hw.wc.ls];have:=hw.wc.n;omega
 have hhd:=hw.wc.headt
 have hfr:frontK s.k≤headK s.k:=hw.wc.frontt
 replace hs:=RefG.open hs
 refine EN Tryz.func63 Tryz.ntmps63 rfl rfl λa ha=>?_
 refine DWC 5 (λw0 w'=>Rd w' B.pb 0 (rgC p B s.g)) [4,8] [0,1,2,5,6,7,3003,3008,1004,1009,10] ha hs λa w ha hs hH=>?_
 have hC:=hH.at w (hs.rdAll (b:=B.pb))
 refine RH 6 ha hs hH hC λa ha=>?_
 refine QH ha (λw hc=>ld1 ha (hc 0 _ rfl)) hC λa ha=>?_
 refine QH ha (λw hc=>ld1 ha (hc 0 _ rfl)) hC λa ha=>?_
 refine RH 0 ha hs hH hC λa ha=>?_
 refine CL 0 ha hs (ref_head (hs.pick (RefS B.core s.k)) hw.wc) λa w ha hs=>?_
 replace hC:=hH.at w (hs.rdAll (b:=B.pb))
 refine RH 0 ha hs hH hC λa ha=>?_
 refine CL 0 ha hs (ref_frontC hs hw.wc) λa w ha hs=>?_
 refine RN 1 ha hs λa ha=>?_
 refine IF 0 ha hs (λhc0 a ha=>?_) λhc0 a ha=>?_
 ·
  replace hs:=RefG.fold hs B p s
  refine CL2 2 ha hs (refP_conf hs hw) λad c a w ha hs=>?_
  refine RT 4 ha hs ?_
  refine⟨ad,c,?_,?_⟩
  · rw[dispG,if_pos (by omega)]
  · rw[dispG,if_pos (by omega)];exact hs
 refine RN 1 ha hs λa ha=>?_
 obtain⟨A,hs⟩:=RefS.open (hs.pick (RefS B.core s.k))
 refine DWC 0 (λw0 w'=>Rd w' B.pb 0 (rgC p B s.g)∧Rd w' B.core.cb 0 (rcC s.k B.core A)) [7,11,12,16,17,18,19,23,27,28,29,31] [0,1,2,4,5,6,8,9,10,13,14,15,20,21,22,24,25,26,3003,3007,3011,3016,3017,3018,3019,3023,3027,2012,2028,2029,2030,1031,1032] ha hs λa w ha hs hH=>?_
 have hC:=hH.at w ⟨hs.rdAll (b:=B.pb),hs.rdAll (b:=B.core.cb)⟩
 refine RH 18 ha hs hH hC λa ha=>?_
 refine QH ha (λw hc=>ex_loadN ha Tryz.underlying34 rfl Ty.t34 (rgC_pr hc.1)) hC λa ha=>?_
 refine QH ha (λw hc=>ex_loadN ha Tryz.underlying63 rfl Ty.t63 (rgC_st hc.1)) hC λa ha=>?_
 refine QH ha (λw hc=>ld1 ha (hc.1 0 _ rfl)) hC λa ha=>?_
 refine QH ha (λw hc=>ld1 ha (hc.1 0 _ rfl)) hC λa ha=>?_
 refine RH 2 ha hs hH hC λa ha=>?_
 refine QH ha (λw hc=>ld1 ha (hc.2 10 _ rfl)) hC λa ha=>?_
 refine QH ha (λw hc=>ex_loadN ha Tryz.underlying61 rfl Ty.t61 (rgC_by hc.1)) hC λa ha=>?_
 refine QH ha (λw hc=>ld1 ha (hc.1 0 _ rfl)) hC λa ha=>?_
 refine RH 0 ha hs hH hC λa ha=>?_
 refine DN [(12,[2028,2029,2030,1031,1032]),(31,[1012,1028,1029,1030,1032])] (by kernel_rfl) rfl ⟨⟨_,rfl,?_⟩,⟨_,rfl,?_⟩,trivial⟩
 ·
  refine RH 0 ha hs hH hC λa ha=>?_
  refine CL 0 ha hs (ref_frontA ((hs.pick (blk B.core.cb 83 (rcC s.k B.core A))).pick (RLn B.core.lb B.core.lo B.core.cL s.k.ls)) hw.wc) λa w ha hs=>?_
  replace hC:=hH.at w ⟨hs.rdAll (b:=B.pb),hs.rdAll (b:=B.core.cb)⟩
  refine RH 0 ha hs hH hC λa ha=>?_
  refine DN [(28,[2029,2030,1031,1032]),(31,[1028,1029,1030,1032])] (by kernel_rfl) rfl ⟨⟨_,rfl,?_⟩,⟨_,rfl,?_⟩,trivial⟩
  ·
   refine RH 0 ha hs hH hC λa ha=>?_
   refine CL 0 ha hs (ref_headA ((hs.pick (blk B.core.cb 83 (rcC s.k B.core A))).pick (RLn B.core.lb B.core.lo B.core.cL s.k.ls)) hw.wc) λa w ha hs=>?_
   replace hC:=hH.at w ⟨hs.rdAll (b:=B.pb),hs.rdAll (b:=B.core.cb)⟩
   refine RH 0 ha hs hH hC λa ha=>?_
   refine DN [(29,[2030,1031,1032]),(31,[1029,1030,1032])] (by kernel_rfl) rfl ⟨⟨_,rfl,?_⟩,⟨_,rfl,?_⟩,trivial⟩
   ·
    obtain⟨xs,hxs,hs⟩:=RLn.open (hs.pick (RLn B.core.lb B.core.lo B.core.cL s.k.ls))
    have hxl:xs.length=s.k.ls.length:=by rw[← hxs,prx_len]
    rw[← hxl]at ha
    refine RH 0 ha hs hH hC λa ha=>?_
    refine CL3 0 ha hs (ref_aheadG (xs:=xs) (b:=B.gs) (r:=0) (to:=headK s.k) (by decide) hs hgs (by omega) (by omega) (by rw[hxs];exact hw.wc.ln) hhd (λw' hw'=>St.rdXe hw') (λw' hw'=>hT.old hw')) λadh ch X a w ha ⟨⟨hFX,hX⟩,hs⟩=>?_
    replace hC:=hH.at w ⟨hs.rdAll (b:=B.pb),hs.rdAll (b:=B.core.cb)⟩
    have hXf:=hX rfl
    subst hXf
    rw[aheadX_full,hxs]at hs
    rw[hxs]at ha
    have hal:(aheadL B.gs s.k.ls (headK s.k)).length=headK s.k-frontL s.k.ls:=aheadL_len _ _ _
    have hal1:∀ b∈aheadL B.gs s.k.ls (headK s.k),b.length≤1099511627776:=λb hb=>by
      rw[aheadL,List.mem_map]at hb
      obtain⟨i,_,rfl⟩:=hb
      rw[jointL_len,fullL,List.length_map];omega
    obtain⟨ys,hy1,hy2,hs⟩:=OwnBB.open hs
    refine RH 0 ha hs hH hC λa ha=>?_
    refine DN [(30,[1031,1032]),(31,[1030,1032])] (by kernel_rfl) rfl ⟨⟨_,rfl,?_⟩,⟨_,rfl,?_⟩,trivial⟩
    ·
     refine RH 0 ha hs hH hC λa ha=>?_
     refine CL 0 ha hs (refFold_len (P:=aheadL B.gs s.k.ls (headK s.k)) (zs:=ys) (fr:=frontK s.k) (hs.pick (RoP W p B.adO B.cO)) hal hpr hsz (hw.gok hpr) ⟨by omega,hal1⟩ hy1 (by omega) (λw' hw'=>St.rdX (hw'.sub (M:=Sl 22 1 adh (headK s.k-frontL s.k.ls) ch (ys.map bbv)::All bbo ys::[])))) λa w ha ⟨hgk,hs⟩=>?_
     refine RN 0 ha hs λa ha=>?_
     refine st_alloc ha rfl hs Ty.t63 rfl λb4 a w ha hs ho=>?_
     clear ho
     replace hC:=hH.at w ⟨hs.rdAll (b:=B.pb),hs.rdAll (b:=B.core.cb)⟩
     refine RH 0 ha hs hH hC λa ha=>?_
     refine SA 0 ha hs λa w ha hs=>?_
     refine RN 0 ha hs λa ha=>?_
     replace hs:=RLn.close (hs.sub (M:=Sl 128 1 (some ⟨B.core.lb,B.core.lo,none⟩) s.k.ls.length B.core.cL (xs.map bbv)::All bbo xs::blk b4 63 (ints .i32 32 (foldI p (frontK s.k) s.g (aheadL B.gs s.k.ls (headK s.k))))::blk B.pb 65 (rgC p B s.g)::RoP W p B.adO B.cO::blk B.core.cb 83 (rcC s.k B.core A)::blk B.core.hb 3 (heC s.k.ps)::blk B.core.ab 3 (haC s.k.ps)::blk B.core.wb 244 (rows wdC s.k.ps)::blk B.core.xb 4 (apC s.k.ps)::Sl 68 1 A.adM s.k.mr.length A.cM (mrC s.k.mr)::Sl 223 3 A.adE s.k.ev.length A.cE (rows rawC s.k.ev)::L)) hxs
     replace hs:=RefS.fold hs B.core s.k A
     refine DWC 1 (λw0 w'=>Rd w' b4 0 (ints .i32 32 (foldI p (frontK s.k) s.g (aheadL B.gs s.k.ls (headK s.k))))∧Rd w' B.pb 0 (rgC p B s.g)) [1,5] [2,3,4,3000,3005,1001,1006,7,8] ha hs λa w ha hs hH=>?_
     have hC:=hH.at w ⟨hs.rdAll (b:=b4),hs.rdAll (b:=B.pb)⟩
     refine RH 3 ha hs hH hC λa ha=>?_
     refine QH ha (λw hc=>ex_loadN ha Tryz.underlying63 rfl Ty.t63 (hc.1)) hC λa ha=>?_
     refine QH ha (λw hc=>ld1 ha (hc.2 0 _ rfl)) hC λa ha=>?_
     refine RH 0 ha hs hH hC λa ha=>?_
     refine CL2 0 ha hs (refBytes_spec hs) λad2 c2 a w ha hs=>?_
     replace hC:=hH.at w ⟨hs.rdAll (b:=b4),hs.rdAll (b:=B.pb)⟩
     refine RH 0 ha hs hH hC λa ha=>?_
     refine CL 0 ha hs (ref_head (hs.pick (RefS B.core s.k)) hw.wc) λa w ha hs=>?_
     refine RN 2 ha hs λa ha=>?_
     refine RT 0 ha hs ?_
     refine⟨ad2,c2,?_,?_⟩
     · rw[dispG,if_neg (by omega)]
     · rw[dispG,if_neg (by omega)]
       exact (RefG.fold hs B p s).sub (M:=Sl 5 1 ad2 128 c2 (bc (gameB (foldI p (frontK s.k) s.g (aheadL B.gs s.k.ls (headK s.k)))))::RefG W B p s::L)
    refine RH 0 ha hs hH hC λa ha=>?_
    refine st_alloc ha rfl hs Ty.t63 rfl λb4 a w ha hs ho=>?_
    clear ho
    replace hC:=hH.at w ⟨hs.rdAll (b:=B.pb),hs.rdAll (b:=B.core.cb)⟩
    refine RH 0 ha hs hH hC λa ha=>?_
    refine CL 0 ha hs (refFold_len (P:=aheadL B.gs s.k.ls (headK s.k)) (zs:=ys) (fr:=frontK s.k) (hs.pick (RoP W p B.adO B.cO)) hal hpr hsz (hw.gok hpr) ⟨by omega,hal1⟩ hy1 (by omega) (λw' hw'=>St.rdX (hw'.sub (M:=Sl 22 1 adh (headK s.k-frontL s.k.ls) ch (ys.map bbv)::All bbo ys::[])))) λa w ha ⟨hgk,hs⟩=>?_
    refine SA 0 ha hs λa w ha hs=>?_
    refine RN 0 ha hs λa ha=>?_
    replace hs:=RLn.close (hs.sub (M:=Sl 128 1 (some ⟨B.core.lb,B.core.lo,none⟩) s.k.ls.length B.core.cL (xs.map bbv)::All bbo xs::blk b4 63 (ints .i32 32 (foldI p (frontK s.k) s.g (aheadL B.gs s.k.ls (headK s.k))))::blk B.pb 65 (rgC p B s.g)::RoP W p B.adO B.cO::blk B.core.cb 83 (rcC s.k B.core A)::blk B.core.hb 3 (heC s.k.ps)::blk B.core.ab 3 (haC s.k.ps)::blk B.core.wb 244 (rows wdC s.k.ps)::blk B.core.xb 4 (apC s.k.ps)::Sl 68 1 A.adM s.k.mr.length A.cM (mrC s.k.mr)::Sl 223 3 A.adE s.k.ev.length A.cE (rows rawC s.k.ev)::L)) hxs
    replace hs:=RefS.fold hs B.core s.k A
    refine DWC 1 (λw0 w'=>Rd w' b4 0 (ints .i32 32 (foldI p (frontK s.k) s.g (aheadL B.gs s.k.ls (headK s.k))))∧Rd w' B.pb 0 (rgC p B s.g)) [1,5] [2,3,4,3000,3005,1001,1006,7,8] ha hs λa w ha hs hH=>?_
    have hC:=hH.at w ⟨hs.rdAll (b:=b4),hs.rdAll (b:=B.pb)⟩
    refine RH 3 ha hs hH hC λa ha=>?_
    refine QH ha (λw hc=>ex_loadN ha Tryz.underlying63 rfl Ty.t63 (hc.1)) hC λa ha=>?_
    refine QH ha (λw hc=>ld1 ha (hc.2 0 _ rfl)) hC λa ha=>?_
    refine RH 0 ha hs hH hC λa ha=>?_
    refine CL2 0 ha hs (refBytes_spec hs) λad2 c2 a w ha hs=>?_
    replace hC:=hH.at w ⟨hs.rdAll (b:=b4),hs.rdAll (b:=B.pb)⟩
    refine RH 0 ha hs hH hC λa ha=>?_
    refine CL 0 ha hs (ref_head (hs.pick (RefS B.core s.k)) hw.wc) λa w ha hs=>?_
    refine RN 2 ha hs λa ha=>?_
    refine RT 0 ha hs ?_
    refine⟨ad2,c2,?_,?_⟩
    · rw[dispG,if_neg (by omega)]
    · rw[dispG,if_neg (by omega)]
      exact (RefG.fold hs B p s).sub (M:=Sl 5 1 ad2 128 c2 (bc (gameB (foldI p (frontK s.k) s.g (aheadL B.gs s.k.ls (headK s.k)))))::RefG W B p s::L)
   refine RH 0 ha hs hH hC λa ha=>?_
   refine st_alloc ha rfl hs Ty.t63 rfl λb4 a w ha hs ho=>?_
   clear ho
   replace hC:=hH.at w ⟨hs.rdAll (b:=B.pb),hs.rdAll (b:=B.core.cb)⟩
   obtain⟨xs,hxs,hs⟩:=RLn.open (hs.pick (RLn B.core.lb B.core.lo B.core.cL s.k.ls))
   have hxl:xs.length=s.k.ls.length:=by rw[← hxs,prx_len]
   rw[← hxl]at ha
   refine RH 0 ha hs hH hC λa ha=>?_
   refine CL3 0 ha hs (ref_aheadG (xs:=xs) (b:=B.gs) (r:=0) (to:=headK s.k) (by decide) hs hgs (by omega) (by omega) (by rw[hxs];exact hw.wc.ln) hhd (λw' hw'=>St.rdXe hw') (λw' hw'=>hT.old hw')) λadh ch X a w ha ⟨⟨hFX,hX⟩,hs⟩=>?_
   replace hC:=hH.at w ⟨hs.rdAll (b:=B.pb),hs.rdAll (b:=B.core.cb)⟩
   have hXf:=hX rfl
   subst hXf
   rw[aheadX_full,hxs]at hs
   rw[hxs]at ha
   have hal:(aheadL B.gs s.k.ls (headK s.k)).length=headK s.k-frontL s.k.ls:=aheadL_len _ _ _
   have hal1:∀ b∈aheadL B.gs s.k.ls (headK s.k),b.length≤1099511627776:=λb hb=>by
     rw[aheadL,List.mem_map]at hb
     obtain⟨i,_,rfl⟩:=hb
     rw[jointL_len,fullL,List.length_map];omega
   obtain⟨ys,hy1,hy2,hs⟩:=OwnBB.open hs
   refine RH 0 ha hs hH hC λa ha=>?_
   refine CL 0 ha hs (refFold_len (P:=aheadL B.gs s.k.ls (headK s.k)) (zs:=ys) (fr:=frontK s.k) (hs.pick (RoP W p B.adO B.cO)) hal hpr hsz (hw.gok hpr) ⟨by omega,hal1⟩ hy1 (by omega) (λw' hw'=>St.rdX (hw'.sub (M:=Sl 22 1 adh (headK s.k-frontL s.k.ls) ch (ys.map bbv)::All bbo ys::[])))) λa w ha ⟨hgk,hs⟩=>?_
   refine SA 0 ha hs λa w ha hs=>?_
   refine RN 0 ha hs λa ha=>?_
   replace hs:=RLn.close (hs.sub (M:=Sl 128 1 (some ⟨B.core.lb,B.core.lo,none⟩) s.k.ls.length B.core.cL (xs.map bbv)::All bbo xs::blk b4 63 (ints .i32 32 (foldI p (frontK s.k) s.g (aheadL B.gs s.k.ls (headK s.k))))::blk B.pb 65 (rgC p B s.g)::RoP W p B.adO B.cO::blk B.core.cb 83 (rcC s.k B.core A)::blk B.core.hb 3 (heC s.k.ps)::blk B.core.ab 3 (haC s.k.ps)::blk B.core.wb 244 (rows wdC s.k.ps)::blk B.core.xb 4 (apC s.k.ps)::Sl 68 1 A.adM s.k.mr.length A.cM (mrC s.k.mr)::Sl 223 3 A.adE s.k.ev.length A.cE (rows rawC s.k.ev)::L)) hxs
   replace hs:=RefS.fold hs B.core s.k A
   refine DWC 1 (λw0 w'=>Rd w' b4 0 (ints .i32 32 (foldI p (frontK s.k) s.g (aheadL B.gs s.k.ls (headK s.k))))∧Rd w' B.pb 0 (rgC p B s.g)) [1,5] [2,3,4,3000,3005,1001,1006,7,8] ha hs λa w ha hs hH=>?_
   have hC:=hH.at w ⟨hs.rdAll (b:=b4),hs.rdAll (b:=B.pb)⟩
   refine RH 3 ha hs hH hC λa ha=>?_
   refine QH ha (λw hc=>ex_loadN ha Tryz.underlying63 rfl Ty.t63 (hc.1)) hC λa ha=>?_
   refine QH ha (λw hc=>ld1 ha (hc.2 0 _ rfl)) hC λa ha=>?_
   refine RH 0 ha hs hH hC λa ha=>?_
   refine CL2 0 ha hs (refBytes_spec hs) λad2 c2 a w ha hs=>?_
   replace hC:=hH.at w ⟨hs.rdAll (b:=b4),hs.rdAll (b:=B.pb)⟩
   refine RH 0 ha hs hH hC λa ha=>?_
   refine CL 0 ha hs (ref_head (hs.pick (RefS B.core s.k)) hw.wc) λa w ha hs=>?_
   refine RN 2 ha hs λa ha=>?_
   refine RT 0 ha hs ?_
   refine⟨ad2,c2,?_,?_⟩
   · rw[dispG,if_neg (by omega)]
   · rw[dispG,if_neg (by omega)]
     exact (RefG.fold hs B p s).sub (M:=Sl 5 1 ad2 128 c2 (bc (gameB (foldI p (frontK s.k) s.g (aheadL B.gs s.k.ls (headK s.k)))))::RefG W B p s::L)
  refine RH 0 ha hs hH hC λa ha=>?_
  refine st_alloc ha rfl hs Ty.t63 rfl λb4 a w ha hs ho=>?_
  clear ho
  replace hC:=hH.at w ⟨hs.rdAll (b:=B.pb),hs.rdAll (b:=B.core.cb)⟩
  refine RH 0 ha hs hH hC λa ha=>?_
  refine CL 0 ha hs (ref_headA ((hs.pick (blk B.core.cb 83 (rcC s.k B.core A))).pick (RLn B.core.lb B.core.lo B.core.cL s.k.ls)) hw.wc) λa w ha hs=>?_
  replace hC:=hH.at w ⟨hs.rdAll (b:=B.pb),hs.rdAll (b:=B.core.cb)⟩
  obtain⟨xs,hxs,hs⟩:=RLn.open (hs.pick (RLn B.core.lb B.core.lo B.core.cL s.k.ls))
  have hxl:xs.length=s.k.ls.length:=by rw[← hxs,prx_len]
  rw[← hxl]at ha
  refine RH 0 ha hs hH hC λa ha=>?_
  refine CL3 0 ha hs (ref_aheadG (xs:=xs) (b:=B.gs) (r:=0) (to:=headK s.k) (by decide) hs hgs (by omega) (by omega) (by rw[hxs];exact hw.wc.ln) hhd (λw' hw'=>St.rdXe hw') (λw' hw'=>hT.old hw')) λadh ch X a w ha ⟨⟨hFX,hX⟩,hs⟩=>?_
  replace hC:=hH.at w ⟨hs.rdAll (b:=B.pb),hs.rdAll (b:=B.core.cb)⟩
  have hXf:=hX rfl
  subst hXf
  rw[aheadX_full,hxs]at hs
  rw[hxs]at ha
  have hal:(aheadL B.gs s.k.ls (headK s.k)).length=headK s.k-frontL s.k.ls:=aheadL_len _ _ _
  have hal1:∀ b∈aheadL B.gs s.k.ls (headK s.k),b.length≤1099511627776:=λb hb=>by
    rw[aheadL,List.mem_map]at hb
    obtain⟨i,_,rfl⟩:=hb
    rw[jointL_len,fullL,List.length_map];omega
  obtain⟨ys,hy1,hy2,hs⟩:=OwnBB.open hs
  refine RH 0 ha hs hH hC λa ha=>?_
  refine CL 0 ha hs (refFold_len (P:=aheadL B.gs s.k.ls (headK s.k)) (zs:=ys) (fr:=frontK s.k) (hs.pick (RoP W p B.adO B.cO)) hal hpr hsz (hw.gok hpr) ⟨by omega,hal1⟩ hy1 (by omega) (λw' hw'=>St.rdX (hw'.sub (M:=Sl 22 1 adh (headK s.k-frontL s.k.ls) ch (ys.map bbv)::All bbo ys::[])))) λa w ha ⟨hgk,hs⟩=>?_
  refine SA 0 ha hs λa w ha hs=>?_
  refine RN 0 ha hs λa ha=>?_
  replace hs:=RLn.close (hs.sub (M:=Sl 128 1 (some ⟨B.core.lb,B.core.lo,none⟩) s.k.ls.length B.core.cL (xs.map bbv)::All bbo xs::blk b4 63 (ints .i32 32 (foldI p (frontK s.k) s.g (aheadL B.gs s.k.ls (headK s.k))))::blk B.pb 65 (rgC p B s.g)::RoP W p B.adO B.cO::blk B.core.cb 83 (rcC s.k B.core A)::blk B.core.hb 3 (heC s.k.ps)::blk B.core.ab 3 (haC s.k.ps)::blk B.core.wb 244 (rows wdC s.k.ps)::blk B.core.xb 4 (apC s.k.ps)::Sl 68 1 A.adM s.k.mr.length A.cM (mrC s.k.mr)::Sl 223 3 A.adE s.k.ev.length A.cE (rows rawC s.k.ev)::L)) hxs
  replace hs:=RefS.fold hs B.core s.k A
  refine DWC 1 (λw0 w'=>Rd w' b4 0 (ints .i32 32 (foldI p (frontK s.k) s.g (aheadL B.gs s.k.ls (headK s.k))))∧Rd w' B.pb 0 (rgC p B s.g)) [1,5] [2,3,4,3000,3005,1001,1006,7,8] ha hs λa w ha hs hH=>?_
  have hC:=hH.at w ⟨hs.rdAll (b:=b4),hs.rdAll (b:=B.pb)⟩
  refine RH 3 ha hs hH hC λa ha=>?_
  refine QH ha (λw hc=>ex_loadN ha Tryz.underlying63 rfl Ty.t63 (hc.1)) hC λa ha=>?_
  refine QH ha (λw hc=>ld1 ha (hc.2 0 _ rfl)) hC λa ha=>?_
  refine RH 0 ha hs hH hC λa ha=>?_
  refine CL2 0 ha hs (refBytes_spec hs) λad2 c2 a w ha hs=>?_
  replace hC:=hH.at w ⟨hs.rdAll (b:=b4),hs.rdAll (b:=B.pb)⟩
  refine RH 0 ha hs hH hC λa ha=>?_
  refine CL 0 ha hs (ref_head (hs.pick (RefS B.core s.k)) hw.wc) λa w ha hs=>?_
  refine RN 2 ha hs λa ha=>?_
  refine RT 0 ha hs ?_
  refine⟨ad2,c2,?_,?_⟩
  · rw[dispG,if_neg (by omega)]
  · rw[dispG,if_neg (by omega)]
    exact (RefG.fold hs B p s).sub (M:=Sl 5 1 ad2 128 c2 (bc (gameB (foldI p (frontK s.k) s.g (aheadL B.gs s.k.ls (headK s.k)))))::RefG W B p s::L)
 refine RH 0 ha hs hH hC λa ha=>?_
 refine st_alloc ha rfl hs Ty.t63 rfl λb4 a w ha hs ho=>?_
 clear ho
 replace hC:=hH.at w ⟨hs.rdAll (b:=B.pb),hs.rdAll (b:=B.core.cb)⟩
 refine RH 0 ha hs hH hC λa ha=>?_
 refine CL 0 ha hs (ref_frontA ((hs.pick (blk B.core.cb 83 (rcC s.k B.core A))).pick (RLn B.core.lb B.core.lo B.core.cL s.k.ls)) hw.wc) λa w ha hs=>?_
 replace hC:=hH.at w ⟨hs.rdAll (b:=B.pb),hs.rdAll (b:=B.core.cb)⟩
 refine RH 0 ha hs hH hC λa ha=>?_
 refine CL 0 ha hs (ref_headA ((hs.pick (blk B.core.cb 83 (rcC s.k B.core A))).pick (RLn B.core.lb B.core.lo B.core.cL s.k.ls)) hw.wc) λa w ha hs=>?_
 replace hC:=hH.at w ⟨hs.rdAll (b:=B.pb),hs.rdAll (b:=B.core.cb)⟩
 obtain⟨xs,hxs,hs⟩:=RLn.open (hs.pick (RLn B.core.lb B.core.lo B.core.cL s.k.ls))
 have hxl:xs.length=s.k.ls.length:=by rw[← hxs,prx_len]
 rw[← hxl]at ha
 refine RH 0 ha hs hH hC λa ha=>?_
 refine CL3 0 ha hs (ref_aheadG (xs:=xs) (b:=B.gs) (r:=0) (to:=headK s.k) (by decide) hs hgs (by omega) (by omega) (by rw[hxs];exact hw.wc.ln) hhd (λw' hw'=>St.rdXe hw') (λw' hw'=>hT.old hw')) λadh ch X a w ha ⟨⟨hFX,hX⟩,hs⟩=>?_
 replace hC:=hH.at w ⟨hs.rdAll (b:=B.pb),hs.rdAll (b:=B.core.cb)⟩
 have hXf:=hX rfl
 subst hXf
 rw[aheadX_full,hxs]at hs
 rw[hxs]at ha
 have hal:(aheadL B.gs s.k.ls (headK s.k)).length=headK s.k-frontL s.k.ls:=aheadL_len _ _ _
 have hal1:∀ b∈aheadL B.gs s.k.ls (headK s.k),b.length≤1099511627776:=λb hb=>by
   rw[aheadL,List.mem_map]at hb
   obtain⟨i,_,rfl⟩:=hb
   rw[jointL_len,fullL,List.length_map];omega
 obtain⟨ys,hy1,hy2,hs⟩:=OwnBB.open hs
 refine RH 0 ha hs hH hC λa ha=>?_
 refine CL 0 ha hs (refFold_len (P:=aheadL B.gs s.k.ls (headK s.k)) (zs:=ys) (fr:=frontK s.k) (hs.pick (RoP W p B.adO B.cO)) hal hpr hsz (hw.gok hpr) ⟨by omega,hal1⟩ hy1 (by omega) (λw' hw'=>St.rdX (hw'.sub (M:=Sl 22 1 adh (headK s.k-frontL s.k.ls) ch (ys.map bbv)::All bbo ys::[])))) λa w ha ⟨hgk,hs⟩=>?_
 refine SA 0 ha hs λa w ha hs=>?_
 refine RN 0 ha hs λa ha=>?_
 replace hs:=RLn.close (hs.sub (M:=Sl 128 1 (some ⟨B.core.lb,B.core.lo,none⟩) s.k.ls.length B.core.cL (xs.map bbv)::All bbo xs::blk b4 63 (ints .i32 32 (foldI p (frontK s.k) s.g (aheadL B.gs s.k.ls (headK s.k))))::blk B.pb 65 (rgC p B s.g)::RoP W p B.adO B.cO::blk B.core.cb 83 (rcC s.k B.core A)::blk B.core.hb 3 (heC s.k.ps)::blk B.core.ab 3 (haC s.k.ps)::blk B.core.wb 244 (rows wdC s.k.ps)::blk B.core.xb 4 (apC s.k.ps)::Sl 68 1 A.adM s.k.mr.length A.cM (mrC s.k.mr)::Sl 223 3 A.adE s.k.ev.length A.cE (rows rawC s.k.ev)::L)) hxs
 replace hs:=RefS.fold hs B.core s.k A
 refine DWC 1 (λw0 w'=>Rd w' b4 0 (ints .i32 32 (foldI p (frontK s.k) s.g (aheadL B.gs s.k.ls (headK s.k))))∧Rd w' B.pb 0 (rgC p B s.g)) [1,5] [2,3,4,3000,3005,1001,1006,7,8] ha hs λa w ha hs hH=>?_
 have hC:=hH.at w ⟨hs.rdAll (b:=b4),hs.rdAll (b:=B.pb)⟩
 refine RH 3 ha hs hH hC λa ha=>?_
 refine QH ha (λw hc=>ex_loadN ha Tryz.underlying63 rfl Ty.t63 (hc.1)) hC λa ha=>?_
 refine QH ha (λw hc=>ld1 ha (hc.2 0 _ rfl)) hC λa ha=>?_
 refine RH 0 ha hs hH hC λa ha=>?_
 refine CL2 0 ha hs (refBytes_spec hs) λad2 c2 a w ha hs=>?_
 replace hC:=hH.at w ⟨hs.rdAll (b:=b4),hs.rdAll (b:=B.pb)⟩
 refine RH 0 ha hs hH hC λa ha=>?_
 refine CL 0 ha hs (ref_head (hs.pick (RefS B.core s.k)) hw.wc) λa w ha hs=>?_
 refine RN 2 ha hs λa ha=>?_
 refine RT 0 ha hs ?_
 refine⟨ad2,c2,?_,?_⟩
 · rw[dispG,if_neg (by omega)]
 · rw[dispG,if_neg (by omega)]
   exact (RefG.fold hs B p s).sub (M:=Sl 5 1 ad2 128 c2 (bc (gameB (foldI p (frontK s.k) s.g (aheadL B.gs s.k.ls (headK s.k)))))::RefG W B p s::L)
theorem refP_new {n me delay window:Nat}{id guess order branches workers room:Int}(hs:St W w (RoP W p adP cP::L))(hm:mayCf ⟨n,me,id,delay,window,guess,order,branches,workers,room⟩)(hpr:prOk p)(hsz:p.title.size≤1000000000) :
   Calls Tryz.prog 20 #[.agg (cfC ⟨n,me,id,delay,window,guess,order,branches,workers,room⟩).toArray,.agg (prV p adP cP).toArray,.slice adT tb.length cT] w λr w'=>∃ B:RgB,r=.returned (pt B.pb)∧(B.gs=⟨guess,order,tb⟩∧B.adT=adT)∧St W w' (RefG W B p (newP p ⟨n,me,id,delay,window,guess,order,branches,workers,room⟩)::L):=by
 refine EN Tryz.func20 Tryz.ntmps20 rfl rfl λa ha=>?_
 refine BX 1 ha hs λb3 a w ha hs=>?_
 change St W w (blk b3 27 (cfC ⟨n,me,id,delay,window,guess,order,branches,workers,room⟩)::_) at hs
 refine BX 0 ha hs λb4 a w ha hs=>?_
 change St W w (blk b4 34 [.string p.title,.slice adP p.ops.length cP]::_) at hs
 refine DWC 2 (λw0 w'=>Rd w' b3 0 (cfC ⟨n,me,id,delay,window,guess,order,branches,workers,room⟩)∧Rd w' b4 0 [.string p.title,.slice adP p.ops.length cP]) [1,2,4,6,8] [3,5,7,3000,3002,3004,3006,3008,1001,9,1010,11] ha hs λa w ha hs hH=>?_
 have hC:=hH.at w ⟨hs.rdAll (b:=b3),hs.rdAll (b:=b4)⟩
 refine RH 3 ha hs hH hC λa ha=>?_
 refine QH ha (λw hc=>ex_loadN ha Tryz.underlying27 rfl Ty.t27 (hc.1)) hC λa ha=>?_
 refine QH ha (λw hc=>ex_loadN ha Tryz.underlying34 rfl Ty.t34 (hc.2)) hC λa ha=>?_
 refine QH ha (λw hc=>ld1 ha (hc.1 5 _ rfl)) hC λa ha=>?_
 refine QH ha (λw hc=>ld1 ha (hc.1 6 _ rfl)) hC λa ha=>?_
 refine RH 1 ha hs hH hC λa ha=>?_
 refine CL1 0 ha hs (ref_new hs hm) λBc a w ha hs=>?_
 replace hC:=hH.at w ⟨hs.rdAll (b:=b3),hs.rdAll (b:=b4)⟩
 refine RH 1 ha hs hH hC λa ha=>?_
 refine st_box ha rfl hs rfl λb18 a w ha hs ho=>?_
 clear ho
 change St W w (blk b18 65 (rgC p ⟨b18,Bc,adP,cP,adT,cT,⟨guess,order,tb⟩⟩ zeroG)::_) at hs
 refine RN 1 ha hs λa ha=>?_
 replace hs:=RefG.fold hs ⟨b18,Bc,adP,cP,adT,cT,⟨guess,order,tb⟩⟩ p ⟨newK ⟨n,me,id,delay,window,guess,order,branches,workers,room⟩,zeroG⟩
 refine CL 2 ha hs (ref_plays hs (newP_ok hm) hpr hsz) λa w ha hs=>?_
 refine RT 3 ha hs ?_
 have h9:St W w (RefG W ⟨b18,Bc,adP,cP,adT,cT,⟨guess,order,tb⟩⟩ p (newP p ⟨n,me,id,delay,window,guess,order,branches,workers,room⟩)::_):=hs
 exact⟨⟨b18,Bc,adP,cP,adT,cT,⟨guess,order,tb⟩⟩,rfl,⟨rfl,rfl⟩,h9.sub⟩
end
end
end Go.Proofs.YtdilfdkendjjhaaGreat
