/- The document's player without its game: how it lies in memory; quintainref21.within, May, New, Head, Front, event, held, Mark, Told. -/
import Derived.Test.YtagpkhbkdbaigaaGreatCore
import Derived.Test.YtagpkhbkdbaigaaGreatRefA
import Derived.Test.YtagpkhbkdbaigaaGreatDrawN
namespace Go.Proofs.YtagpkhbkdbaigaaGreat
open Go.RowKit
set_option linter.unusedVariables false
set_option linter.unusedSimpArgs false
set_option maxRecDepth 10000
set_option synthInstance.maxSize 4000
set_option synthInstance.maxHeartbeats 400000
theorem made1 (z : Value) (h : z.cells=#[z]) (n : Nat) : (madeCells z.cells (n*1)).toList=List.replicate n z:=by
 apply List.ext_getElem?
 intro i
 rw [madeCells,Array.getElem?_toList,Array.getElem?_map,Array.getElem?_range,h,List.getElem?_replicate]
 by_cases hi : i < n
 · simp [hi,Nat.mod_one]
 · simp [hi]
theorem made2 (n : Nat) : (madeCells (Value.agg #[.int .i64 0,.int .u32 0]).cells (n*2)).toList=rows (fun _ : Pe=>[Value.int .i64 0,.int .u32 0]) (List.replicate n (pe0 0)):=by
 have hl : ∀ m : Nat,(madeCells (Value.agg #[.int .i64 0,.int .u32 0]).cells m).toList=(List.range m).map fun i=>if i % 2=0 then Value.int .i64 0 else .int .u32 0:=by
   intro m
   apply List.ext_getElem?
   intro i
   rw [madeCells,Array.getElem?_toList,Array.getElem?_map,Array.getElem?_range,List.getElem?_map]
   by_cases hi : i < m
   · rcases Nat.mod_two_eq_zero_or_one i with h | h <;> simp [hi,Value.cells,h]
   · simp [hi]
 rw [hl]
 induction n with
 | zero=>rfl
 | succ n ih =>
   rw [Nat.succ_mul,List.replicate_succ',rows_app,← ih,List.range_succ,List.range_succ]
   simp only [List.map_append,List.append_assoc]
   congr 1
   have h1 : n*2 % 2=0:=by omega
   have h2 : ¬ (n*2+1) % 2=0:=by omega
   simp [h1,h2,rows]
def RLn (lb lo c : Nat) (ls : List (List UInt8)) : SP:=fun h=>∃ xs : List BBx,prx xs=ls∧sepL [Sl 54 1 (some ⟨lb,lo,none⟩) ls.length c (xs.map bbv),All bbo xs] h
structure RcB where
 cb : Nat
 lb : Nat
 lo : Nat
 cL : Nat
 hb : Nat
 ab : Nat
 wb : Nat
 xb : Nat
structure RcA where
 adM : Option Addr
 cM : Nat
 adE : Option Addr
 cE : Nat
abbrev rcC (k : Ks) (B : RcB) (A : RcA) : List Value:=[.int .i64 k.n,.int .i64 k.me,.int .i64 k.id,.int .i64 k.delay,.int .i64 k.window,.int .i64 k.guess,.int .i64 k.order,.int .i64 k.branches,.int .i64 k.workers,.int .i64 k.room,
 .slice (some ⟨B.lb,B.lo,none⟩) k.ls.length B.cL,.int .i64 k.now,.slice (some ⟨B.hb,0,none⟩) k.n k.n,.slice (some ⟨B.ab,0,none⟩) k.n k.n,.slice (some ⟨B.wb,0,none⟩) k.n k.n,.slice (some ⟨B.xb,0,none⟩) k.n k.n,.slice A.adM k.mr.length A.cM,.slice A.adE k.ev.length A.cE,.bool k.cl]
def heC (l : List Pe) : List Value:=l.map fun p=>Value.int .i64 (p.heard : Int)
def haC (l : List Pe) : List Value:=l.map fun p=>Value.int .i64 (p.has : Int)
def apC (l : List Pe) : List Value:=l.map fun p=>Value.bool p.apart
def wdC (p : Pe) : List Value:=[.int .i64 p.frame,.int .u32 p.sum]
theorem wdC_len (p : Pe) : (wdC p).length=2:=rfl
theorem wdC_one (p : Pe) : ∀ v∈wdC p,v.oneCell'=true:=by
 intro v hv
 simp [wdC] at hv
 rcases hv with rfl | rfl <;> rfl
def RefS (B : RcB) (k : Ks) : SP:=fun h=>∃ A : RcA,sepL [blk B.cb 127 (rcC k B A),RLn B.lb B.lo B.cL k.ls,blk B.hb 3 (heC k.ps),blk B.ab 3 (haC k.ps),blk B.wb 210 (rows wdC k.ps),blk B.xb 4 (apC k.ps),Sl 38 1 A.adM k.mr.length A.cM (mrC k.mr),Sl 144 3 A.adE k.ev.length A.cE (rows rawC k.ev)] h
section
variable {W w : World} {L L' R : List SP} {n c m lb lo i f cl : Nat} {ad : Option Addr} {ls : List (List UInt8)} {k : Ks} {A : RcA} {B : RcB} {x : UInt8} {bs : List UInt8} {e : Evt} {cf : Cf}
theorem RLn.open (hs : St W w (RLn lb lo c ls::L)) : ∃ xs : List BBx,prx xs=ls∧St W w (Sl 54 1 (some ⟨lb,lo,none⟩) ls.length c (xs.map bbv)::All bbo xs::L):=by
 obtain ⟨xs,h1,hs⟩:=hs.exi (ι:=List BBx) (p:=fun xs=>prx xs=ls) (B:=fun xs h=>sepL [Sl 54 1 (some ⟨lb,lo,none⟩) ls.length c (xs.map bbv),All bbo xs] h) fun _ ⟨xs,h1,h2⟩=>⟨xs,h1,h2⟩
 exact ⟨xs,h1,hs.open (M:=[_,_]) fun _ h=>h⟩
theorem RLn.close {xs : List BBx} (hs : St W w (Sl 54 1 (some ⟨lb,lo,none⟩) ls.length c (xs.map bbv)::All bbo xs::L)) (h : prx xs=ls) : St W w (RLn lb lo c ls::L) :=
 St.shut (M:=[_,_]) hs fun _ h'=>⟨xs,h,h'⟩
theorem St.rdXe {xs : List BBx} {el : TypeId} {m : Nat} (hs : St W w (Sl el 1 ad m c (xs.map bbv)::All bbo xs::L)) : RdX w ad xs:=by
 have hl:=(hs.sl ad).1
 rw [List.length_map,Nat.mul_one] at hl
 refine ⟨fun h0=>?_,fun x hx=>?_⟩
 · obtain ⟨b,off,h1,h2⟩:=hs.slRd ad (by omega)
   exact ⟨b,off,h1,h2⟩
 · obtain ⟨i,hi,rfl⟩:=List.getElem_of_mem hx
   have h2:=(hs.tail).allOut hi
   exact St.rdB (L:=bbo xs[i]::_) h2 _ _ (k:=(PickSl.head : PickSl (Sl 5 1 xs[i].1 xs[i].2.2.length xs[i].2.1 (bc xs[i].2.2)::_) xs[i].1 _ _ _ _ _ _)) rfl rfl
theorem RefS.open (hs : St W w (RefS B k::L)) : ∃ A : RcA,St W w (blk B.cb 127 (rcC k B A)::RLn B.lb B.lo B.cL k.ls::blk B.hb 3 (heC k.ps)::blk B.ab 3 (haC k.ps)::blk B.wb 210 (rows wdC k.ps)::blk B.xb 4 (apC k.ps)::Sl 38 1 A.adM k.mr.length A.cM (mrC k.mr)::Sl 144 3 A.adE k.ev.length A.cE (rows rawC k.ev)::L):=by
 obtain ⟨A,_,hs⟩:=hs.exi (ι:=RcA) (p:=fun _=>True) (B:=fun A h=>sepL [blk B.cb 127 (rcC k B A),RLn B.lb B.lo B.cL k.ls,blk B.hb 3 (heC k.ps),blk B.ab 3 (haC k.ps),blk B.wb 210 (rows wdC k.ps),blk B.xb 4 (apC k.ps),Sl 38 1 A.adM k.mr.length A.cM (mrC k.mr),Sl 144 3 A.adE k.ev.length A.cE (rows rawC k.ev)] h) fun _ ⟨A,h⟩=>⟨A,trivial,h⟩
 exact ⟨A,hs.open (M:=[_,_,_,_,_,_,_,_]) fun _ h=>h⟩
theorem RefS.fold (hs : St W w L) (B : RcB) (k : Ks) (A : RcA) [kk : Arr L [blk B.cb 127 (rcC k B A),RLn B.lb B.lo B.cL k.ls,blk B.hb 3 (heC k.ps),blk B.ab 3 (haC k.ps),blk B.wb 210 (rows wdC k.ps),blk B.xb 4 (apC k.ps),Sl 38 1 A.adM k.mr.length A.cM (mrC k.mr),Sl 144 3 A.adE k.ev.length A.cE (rows rawC k.ev)] R] : St W w (RefS B k::R) :=
 St.shut (M:=[_,_,_,_,_,_,_,_]) (hs.perm kk.perm) fun _ h=>⟨A,h⟩
end
end Go.Proofs.YtagpkhbkdbaigaaGreat
/- quintainref21.New, Head, Front, event, held, Mark, Told, Press; quintainref12.Line.Put, From. -/
namespace Go.Proofs.YtagpkhbkdbaigaaGreat
open Go.RowKit
set_option linter.unusedVariables false
set_option linter.unusedSimpArgs false
set_option maxRecDepth 10000
set_option synthInstance.maxSize 4000
set_option synthInstance.maxHeartbeats 400000
theorem heC_at {l : List Pe} {i : Nat} {p : Pe} (h : l[i]?=some p) : (heC l)[i]?=some (.int .i64 p.heard):=by rw [heC,List.getElem?_map,h]; rfl
theorem haC_at {l : List Pe} {i : Nat} {p : Pe} (h : l[i]?=some p) : (haC l)[i]?=some (.int .i64 p.has):=by rw [haC,List.getElem?_map,h]; rfl
theorem apC_at {l : List Pe} {i : Nat} {p : Pe} (h : l[i]?=some p) : (apC l)[i]?=some (.bool p.apart):=by rw [apC,List.getElem?_map,h]; rfl
theorem map_set1 {α β : Type} (f : α→β) {l : List α} {i : Nat} {x : α} {v : β} (h : f x=v) : (l.map f).set i v=(l.set i x).map f:=by rw [← h,map_set]
theorem map_keep {β : Type} (f : Pe→β) {l : List Pe} {i : Nat} {p q : Pe} (h : l[i]?=some p) (hf : f q=f p) : (l.set i q).map f=l.map f:=by
 apply List.ext_getElem?
 intro j
 rw [List.getElem?_map,List.getElem?_map,List.getElem?_set]
 by_cases hj : i=j
 · subst hj
   have hi:=(List.getElem?_eq_some_iff.1 h).1
   rw [if_pos rfl,if_pos hi,h]
   simp [hf]
 · rw [if_neg hj]
theorem rows_keep (f : Pe→List Value) {l : List Pe} {i : Nat} {p q : Pe} (h : l[i]?=some p) (hf : f q=f p) : rows f (l.set i q)=rows f l:=by
 rw [rows,rows,List.flatMap_def,List.flatMap_def,map_keep f h hf]
theorem heC_keep {l : List Pe} {i : Nat} {p : Pe} (h : l[i]?=some p) (q : Pe) (hf : q.heard=p.heard) : heC (l.set i q)=heC l:=map_keep _ h (by rw [hf])
theorem haC_keep {l : List Pe} {i : Nat} {p : Pe} (h : l[i]?=some p) (q : Pe) (hf : q.has=p.has) : haC (l.set i q)=haC l:=map_keep _ h (by rw [hf])
theorem apC_keep {l : List Pe} {i : Nat} {p : Pe} (h : l[i]?=some p) (q : Pe) (hf : q.apart=p.apart) : apC (l.set i q)=apC l:=map_keep _ h (by rw [hf])
theorem wdC_keep {l : List Pe} {i : Nat} {p : Pe} (h : l[i]?=some p) (q : Pe) (hf : q.frame=p.frame) (hs : q.sum=p.sum) : rows wdC (l.set i q)=rows wdC l:=rows_keep _ h (by rw [wdC,wdC,hf,hs])
theorem heC_set {l : List Pe} {i : Nat} (q : Pe) {v : Int} (h : (q.heard : Int)=v) : (heC l).set i (.int .i64 v)=heC (l.set i q):=map_set1 _ (by rw [h])
theorem haC_set {l : List Pe} {i : Nat} (q : Pe) {v : Int} (h : (q.has : Int)=v) : (haC l).set i (.int .i64 v)=haC (l.set i q):=map_set1 _ (by rw [h])
section
variable {W w : World} {L L' R : List SP} {n c m lb lo i f cl to : Nat} {ad : Option Addr} {ls : List (List UInt8)} {k : Ks} {A : RcA} {B : RcB} {x : UInt8} {bs : List UInt8} {e : Evt} {cf : Cf}
theorem ref_head (hs : St W w (RefS B k::L)) (hk : WC k) : Calls Tryz.prog 120 #[.pointer (some ⟨B.cb,0,none⟩)] w fun r w'=>r=.returned (.int .i64 (headK k))∧St W w' (RefS B k::L):=by
 have hme : k.me < k.ls.length:=by rw [hk.ls]; exact hk.me
 obtain ⟨A,hs⟩:=RefS.open hs
 refine calls_enter Tryz.func120 rfl Tryz.ntmps120 (Nat.le_of_ble_eq_true rfl) ?_
 intro a ha
 replace ha : Fr a 16 [(0,_)]:=ha
 refine WS<|WR ?_
 refine S1 ha fun a ha=>?_
 refine LN<|TN<|WS ?_
 obtain ⟨xs,hxs,hs⟩:=RLn.open (hs.pick (RLn B.lb B.lo B.cL k.ls))
 have hxl : xs.length=k.ls.length:=by rw [← hxs,prx_len]
 obtain ⟨bl,ol,y,hbe,hy,hcy,hry⟩:=(St.rdXe hs.drew).at (i:=k.me) (by omega)
 cases hbe
 have hyl : headK k=y.2.2.length:=by
   show (k.ls.getD k.me []).length=_
   rw [← hxs,prx_get hy]
 refine DW (m:=14) (Old w.drew) [8] [0,1,2,4,5,6,7,3,8,9,10,11,12,13] Ty.mixed (pk_then pk_body) (fun hpk=>?_)
 replace hs:=hs.drew
 have hC:=Old.refl w.drew
 generalize w.drew=w at hs hC hpk hcy hry ⊢
 iterate 7 (refine DP hpk ha rfl fun a ha=>?_)
 refine DL hpk ha rfl (fun w hc=>hc.cell (hs.rd1 (b:=B.cb) rfl)) hC fun a ha=>?_
 refine D1 rfl (st_set ha rfl (ex_load1 ha Tryz.underlying3 rfl (hs.rd1 (b:=B.cb) rfl)) rfl fun a ha=>?_)
 refine ⟨fun _=>hC,?_⟩
 refine DQ hpk ha rfl rfl (fun w=>ex_indexAddr ha Tryz.underlying55 Ty.t54 hme) fun a ha=>?_
 rw [Nat.mul_one] at ha
 refine DP hpk ha rfl fun a ha=>?_
 refine D1 rfl (st_set ha rfl (ex_load1 ha Tryz.underlying22 rfl (hcy)) rfl fun a ha=>?_)
 refine ⟨fun h=>absurd h (by decide),?_⟩
 rw [bbv] at ha
 refine DP hpk ha rfl fun a ha=>?_
 replace ha:=ha.del 2
 refine DP hpk ha rfl fun a ha=>?_
 refine DD<|TN<|wp_ret ?_
 refine ret1 ha rfl ?_
 refine ⟨by rw [hyl],?_⟩
 exact (RefS.fold (RLn.close hs hxs) B k A).sub
theorem ref_frontC (hs : St W w (RefS B k::L)) (hk : WC k) : Calls Tryz.prog 111 #[.pointer (some ⟨B.cb,0,none⟩)] w fun r w'=>r=.returned (.int .i64 (frontK k))∧St W w' (RefS B k::L):=by
 have hn:=hk.n
 have hls:=hk.ls
 obtain ⟨A,hs⟩:=RefS.open hs
 refine calls_enter Tryz.func111 rfl Tryz.ntmps111 (Nat.le_of_ble_eq_true rfl) ?_
 intro a ha
 replace ha : Fr a 8 [(0,_)]:=ha
 refine WS<|WR ?_
 refine S1 ha fun a ha=>?_
 refine LN<|TN<|WS<|WR ?_
 iterate 3 (refine S1 ha fun a ha=>?_)
 refine SL ha (hs.rd1 rfl) fun a ha=>?_
 obtain ⟨xs,hxs,hs⟩:=RLn.open (hs.pick (RLn B.lb B.lo B.cL k.ls))
 have hxl : xs.length=k.ls.length:=by rw [← hxs,prx_len]
 rw [← hxl] at ha
 refine SK (st_call ha rfl Ty.c57 rfl (ref_front (xs:=xs) hs (by omega) (by omega) (fun w' hw=>St.rdXe hw)) ?_); clear ha hs
 rintro e w ⟨rfl,hs⟩
 refine ⟨_,rfl,?_⟩
 intro a ha
 refine S1d ha fun a ha=>?_
 refine LN<|TN<|wp_ret ?_
 refine ret1 ha rfl ?_
 refine ⟨by rw [hxs]; rfl,?_⟩
 exact (RefS.fold (RLn.close hs hxs) B k A).sub
theorem ref_event {kd pl fr : Nat} (hs : St W w (RefS B k::L)) (hl : k.ev.length≤100) : Calls Tryz.prog 115 #[.pointer (some ⟨B.cb,0,none⟩),.int .i64 kd,.int .i64 pl,.int .i64 fr] w fun r w'=>r=.returned (.tuple #[])∧St W w' (RefS B { k with ev:=k.ev++[(kd,pl,fr)] }::L):=by
 obtain ⟨A,hs⟩:=RefS.open hs
 refine calls_enter Tryz.func115 rfl Tryz.ntmps115 (Nat.le_of_ble_eq_true rfl) ?_
 intro a ha
 replace ha : Fr a 21 [(0,_),(1,_),(2,_),(3,_)]:=ha
 refine WR ?_
 iterate 4 (refine S1 ha fun a ha=>?_)
 refine SL ha (hs.rd1 rfl) fun a ha=>?_
 iterate 3 (refine S1 ha fun a ha=>?_)
 refine SK (st_set ha rfl (ex_build ha Ty.b144 Ty.t144 rfl) rfl fun a ha=>?_)
 refine SK (st_buildSlice ha rfl hs Tryz.underlying125 Ty.t144 rfl rfl rfl rfl (by decide) (by decide) fun b17 a w ha hs ho=>?_)
 clear ho
 refine SK (st_append ha rfl hs Tryz.underlying125 Ty.t144 rfl rfl hs.rdAll rfl (rawC_one (kd,pl,fr)) (by decide) (by decide) (by omega) fun ad18 c18 a w ha hs=>?_)
 rw [show rows rawC k.ev++_=rows rawC (k.ev++[(kd,pl,fr)]) from by rw [rows_app]; rfl,show k.ev.length+1=(k.ev++[(kd,pl,fr)]).length from by simp] at hs
 rw [show k.ev.length+1=(k.ev++[(kd,pl,fr)]).length from by simp] at ha
 iterate 2 (refine S1 ha fun a ha=>?_)
 refine SK (st_store ha rfl hs Ty.t125 rfl (by simp) fun a w ha hs=>?_)
 refine LN ?_
 refine end0 ha rfl ?_
 exact ⟨rfl,(RefS.fold hs B { k with ev:=k.ev++[(kd,pl,fr)] } { A with adE:=ad18,cE:=c18 }).sub⟩
theorem ref_told (hs : St W w (RefS B k::L)) : Calls Tryz.prog 78 #[.pointer (some ⟨B.cb,0,none⟩)] w fun r w'=>∃ ad c,r=.returned (.slice ad k.ev.length c)∧St W w' (Sl 144 3 ad k.ev.length c (rows rawC k.ev)::RefS B { k with ev:=[] }::L):=by
 obtain ⟨A,hs⟩:=RefS.open hs
 refine calls_enter Tryz.func78 rfl Tryz.ntmps78 (Nat.le_of_ble_eq_true rfl) ?_
 intro a ha
 replace ha : Fr a 12 [(0,_)]:=ha
 refine WS<|WR ?_
 refine S1 ha fun a ha=>?_
 refine LN<|TN<|WS<|WR ?_
 iterate 3 (refine S1 ha fun a ha=>?_)
 refine SL ha (hs.rd1 rfl) fun a ha=>?_
 refine S1 ha fun a ha=>?_
 refine LN<|TN<|WS<|WR ?_
 iterate 3 (refine S1 ha fun a ha=>?_)
 refine SK (st_store ha rfl hs Ty.t125 rfl (by simp) fun a w ha hs=>?_)
 refine LN<|TN<|WS<|WR ?_
 refine S1 ha fun a ha=>?_
 refine S1d ha fun a ha=>?_
 refine LN<|TN<|wp_ret ?_
 refine ret1 ha rfl ?_
 refine ⟨A.adE,A.cE,rfl,?_⟩
 replace hs:=hs.sl0 144 3 none
 have h2 : St W w (blk B.cb 127 (rcC { k with ev:=[] } B ⟨A.adM,A.cM,none,0⟩)::RLn B.lb B.lo B.cL k.ls::blk B.hb 3 (heC k.ps)::blk B.ab 3 (haC k.ps)::blk B.wb 210 (rows wdC k.ps)::blk B.xb 4 (apC k.ps)::Sl 38 1 A.adM k.mr.length A.cM (mrC k.mr)::Sl 144 3 none 0 0 []::Sl 144 3 A.adE k.ev.length A.cE (rows rawC k.ev)::L):=hs.sub (M:=blk B.cb 127 _::RLn B.lb B.lo B.cL k.ls::blk B.hb 3 (heC k.ps)::blk B.ab 3 (haC k.ps)::blk B.wb 210 (rows wdC k.ps)::blk B.xb 4 (apC k.ps)::Sl 38 1 A.adM k.mr.length A.cM (mrC k.mr)::Sl 144 3 none 0 0 []::Sl 144 3 A.adE k.ev.length A.cE (rows rawC k.ev)::L)
 refine St.perm (L:=RefS B { k with ev:=[] }::Sl 144 3 A.adE k.ev.length A.cE (rows rawC k.ev)::L) ?_ (List.Perm.swap _ _ _)
 exact St.shut (M:=[_,_,_,_,_,_,_,_]) h2 fun _ h=>⟨⟨A.adM,A.cM,none,0⟩,h⟩
theorem ref_held (hs : St W w (RefS B k::L)) (hk : WC k) : Calls Tryz.prog 142 #[.pointer (some ⟨B.cb,0,none⟩)] w fun r w'=>r=.returned (.tuple #[])∧St W w' (RefS B (holdK k)::L):=by
 have hpl : k.ps.length=k.n:=hk.ps
 have hn:=hk.n
 refine calls_enter Tryz.func142 rfl Tryz.ntmps142 (Nat.le_of_ble_eq_true rfl) ?_
 intro a ha
 replace ha : Fr a 68 [(0,_)]:=ha
 refine WS<|WR ?_
 refine S1 ha fun a ha=>?_
 refine LN<|TN<|wp_block ?_
 refine wp_loop_ghost (fun μ a w=>∃ (i : Nat),(μ=k.n - i∧i≤k.n)∧Fr a 68 [(0,.pointer (some ⟨B.cb,0,none⟩)),(2,.int .i64 i)]∧St W w (RefS B (holdN k i)::L)) (k.n) ?_ ?_
 · exact ⟨0,⟨rfl,by omega⟩,ha.keep [0,2],hs⟩
 ·
  clear ha hs
  rintro μ a w ⟨i,⟨rfl,hi⟩,ha,hs⟩
  have hkk:=hk.holdN (i:=i) hi
  have hkl:=holdN_len k i
  have hkn : (holdN k i).n=k.n:=by obtain ⟨ps,ev,h1,_⟩:=holdN_eq k i; rw [h1]
  have hnx : holdN k (i+1)=hold1 (holdN k i) i:=rfl
  rw [hold1] at hnx
  generalize hge : holdN k i=kk at hs hkk hkl hnx hkn
  obtain ⟨A,hs⟩:=RefS.open hs
  refine WS<|WS<|WR ?_
  iterate 5 (refine S1 ha fun a ha=>?_)
  refine SL ha (hs.rd1 rfl) fun a ha=>?_
  refine S1 ha fun a ha=>?_
  refine LN<|TN ?_
  refine WI ha (fun hc0=>?_) (fun hc0=>?_)
  ·
   have hil : i < kk.ps.length:=by omega
   have hpt:=hkk.pet (i:=i) (by omega)
   have hat:=peK_at hil
   have hrp:=rows_part wdC_len (hs.rdAll (b:=B.wb)) hat
   rw [Nat.zero_add] at hrp
   refine WK<|TN<|WS<|wp_block<|WS<|WR ?_
   iterate 3 (refine S1 ha fun a ha=>?_)
   refine SL ha (hs.rd1 (b:=B.cb) rfl) fun a ha=>?_
   refine S1 ha fun a ha=>?_
   refine SK (st_set ha rfl (ex_indexAddr ha Tryz.underlying123 Ty.t210 (by omega)) rfl fun a ha=>?_)
   rw [Nat.zero_add] at ha
   refine SK (st_set ha rfl (ex_loadN ha Tryz.underlying210 rfl Ty.t210 (hrp)) rfl fun a ha=>?_)
   refine SK (st_alloc ha rfl hs Ty.t210 rfl fun b3 a w ha hs ho=>?_)
   clear ho
   refine SK (st_storeAll ha rfl hs Ty.t210 (wdC_one _) (by rfl) fun a w ha hs=>?_)
   refine LN<|TN<|WS ?_
   have hrc : Rd w.drew B.cb 0 (rcC kk B A):=hs.drew.rdAll (b:=B.cb)
   have hrw : Rd w.drew b3 0 (wdC (peK kk i)):=hs.drew.rdAll (b:=b3)
   have hra:=hs.drew.rd1 (b:=B.xb) (apC_at hat)
   refine DW (m:=37) (Old w.drew) [19,20,29,30,34] [0,1,2,4,3,5,6,7,8,9,10,11,12,13,14,16,17,18,15,19,20,21,22,23,24,25,26,28,33,27,29,30,31,32,34,35,36] Ty.mixed (pk_then (pk_blk (pk_then (pk_then (pk_blk pk_body))))) (fun hpk=>?_)
   replace hs:=hs.drew
   have hC:=Old.refl w.drew
   generalize w.drew=w at hs hC hpk hrc hrw hra ⊢
   iterate 4 (refine DP hpk ha rfl fun a ha=>?_)
   refine D1 rfl (st_set ha rfl (ex_load1 ha Tryz.underlying124 rfl (hrc 15 _ rfl)) rfl fun a ha=>?_)
   refine ⟨fun h=>absurd h (by decide),?_⟩
   refine DQ hpk ha rfl rfl (fun w=>ex_indexAddr ha Tryz.underlying124 Ty.t4 (by omega)) fun a ha=>?_
   rw [Nat.zero_add,Nat.mul_one] at ha
   refine D1 rfl (st_set ha rfl (ex_load1 ha Tryz.underlying4 rfl (hra)) rfl fun a ha=>?_)
   refine ⟨fun h=>absurd h (by decide),?_⟩
   iterate 2 (refine DP hpk ha rfl fun a ha=>?_)
   refine ha.by (s:=28) (fun hg8 ha=>?_) (fun hg8 ha=>?_)
   ·
    refine DPg (s:=28) hpk ha rfl fun a ha=>?_
    refine D1 rfl (st_set ha (wgT ha rfl (s:=28)) (ex_load1 ha Tryz.underlying3 rfl (hrw 0 _ rfl)) rfl fun a ha=>?_)
    refine ⟨fun h=>absurd h (by decide),?_⟩
    refine DPg (s:=28) hpk ha rfl fun a ha=>?_
    refine DT hpk ha rfl fun a ha=>?_
    refine DP hpk ha rfl fun a ha=>?_
    refine ha.by (s:=33) (fun hg13 ha=>?_) (fun hg13 ha=>?_)
    ·
     iterate 4 (refine DPg (s:=33) hpk ha rfl fun a ha=>?_)
     refine DH hpk ha rfl (wgT ha rfl (s:=33)) (fun w hc=>ex_load1 ha Tryz.underlying3 rfl (hc.cell (hrw 0 _ rfl))) hC fun a ha=>?_
     refine D1 rfl (st_set ha (wgT ha rfl (s:=33)) (ex_load1 ha Tryz.underlying109 rfl (hrc 16 _ rfl)) rfl fun a ha=>?_)
     refine ⟨fun _=>hC,?_⟩
     refine D1 rfl (st_set ha (wgT ha rfl (s:=33)) (ex_len ha Tryz.underlying109) rfl fun a ha=>?_)
     refine ⟨fun _=>hC,?_⟩
     refine DPg (s:=33) hpk ha rfl fun a ha=>?_
     refine DT hpk ha rfl fun a ha=>?_
     refine DP hpk ha rfl fun a ha=>?_
     refine ha.by (s:=43) (fun hg23 ha=>?_) (fun hg23 ha=>?_)
     ·
      have hml : (peK kk i).frame - 1 < kk.mr.length:=by omega
      obtain ⟨bm,om,hme,hrm⟩:=(hs.pick (Sl 38 1 A.adM kk.mr.length A.cM (mrC kk.mr))).slRd A.adM (by omega)
      have hrc2:=hrc 16 _ rfl
      rw [hme] at hrc2
      iterate 5 (refine DPg (s:=43) hpk ha rfl fun a ha=>?_)
      refine DH hpk ha rfl (wgT ha rfl (s:=43)) (fun w hc=>ex_load1 ha Tryz.underlying109 rfl (hc.cell (hrc2))) hC fun a ha=>?_
      refine DH hpk ha rfl (wgT ha rfl (s:=43)) (fun w hc=>ex_load1 ha Tryz.underlying3 rfl (hc.cell (hrw 0 _ rfl))) hC fun a ha=>?_
      refine DH hpk ha rfl (wgT ha rfl (s:=43)) (fun w hc=>ex_subI ha (by omega) (by omega)) hC fun a ha=>?_
      rw [show (((peK kk i).frame : Nat) : Int) - 1=(((peK kk i).frame - 1 : Nat) : Int) from by omega] at ha
      refine DQ hpk ha rfl (wgT ha rfl (s:=43)) (fun w=>ex_indexAddr ha Tryz.underlying109 Ty.t38 hml) fun a ha=>?_
      rw [Nat.mul_one] at ha
      refine DH hpk ha rfl (wgT ha rfl (s:=43)) (fun w hc=>ex_load1 ha Tryz.underlying38 rfl (hc.cell (hrm ((peK kk i).frame - 1) _ (mrC_get hml)))) hC fun a ha=>?_
      refine D1 rfl (st_set ha (wgT ha rfl (s:=43)) (ex_load1 ha Tryz.underlying38 rfl (hrw 1 _ rfl)) rfl fun a ha=>?_)
      refine ⟨fun _=>hC,?_⟩
      refine DPg (s:=43) hpk ha rfl fun a ha=>?_
      refine DT hpk ha rfl fun a ha=>?_
      refine DD<|TN ?_
      refine WI ha (fun hc1=>?_) (fun hc1=>?_)
      ·
       refine WS ?_
       rw [if_pos ⟨hg8,by omega,by omega,by omega⟩] at hnx
       refine WR ?_
       iterate 3 (refine S1 ha fun a ha=>?_)
       refine SL ha (hs.rd1 (b:=B.cb) rfl) fun a ha=>?_
       refine S1 ha fun a ha=>?_
       refine SK (st_set ha rfl (ex_indexAddr ha Tryz.underlying124 Ty.t4 (by omega)) rfl fun a ha=>?_)
       rw [Nat.zero_add,Nat.mul_one] at ha
       refine SK (st_store ha rfl hs Ty.t4 rfl (by rw [apC,List.length_map]; exact hil) fun a w ha hs=>?_)
       rw [show (apC kk.ps).set i (.bool true)=apC (kk.ps.set i { peK kk i with apart:=true }) from map_set1 _ rfl,← heC_keep hat { peK kk i with apart:=true } rfl,← haC_keep hat { peK kk i with apart:=true } rfl,← wdC_keep hat { peK kk i with apart:=true } rfl rfl] at hs
       replace hs:=RefS.fold hs B { kk with ps:=kk.ps.set i { peK kk i with apart:=true } } A
       refine LN<|TN<|WR ?_
       iterate 3 (refine S1 ha fun a ha=>?_)
       refine SL ha (hs.rd1 (b:=b3) rfl) fun a ha=>?_
       refine SK (st_call ha rfl Ty.c115 rfl (ref_event (kd:=3) (pl:=i) (fr:=(peK kk i).frame) hs (by have:=hkk.evl; show kk.ev.length≤100; omega)) ?_); clear ha hs
       rintro e w ⟨rfl,hs⟩
       refine ⟨_,rfl,?_⟩
       intro a ha
       refine LN<|BN<|TN<|WR ?_
       refine S1 ha fun a ha=>?_
       refine SK (st_set ha rfl (ex_addI ha (by omega) (by omega)) rfl fun a ha=>?_)
       refine S1d ha fun a ha=>?_
       refine LN<|TN ?_
       exact ⟨k.n - (i+1),by omega,i+1,⟨rfl,by omega⟩,ha.keep [0,2],by rw [hnx]; exact hs.sub⟩
      ·
       refine WK<|BN<|TN<|WR ?_
       refine S1 ha fun a ha=>?_
       refine SK (st_set ha rfl (ex_addI ha (by omega) (by omega)) rfl fun a ha=>?_)
       refine S1d ha fun a ha=>?_
       refine LN<|TN ?_
       rw [if_neg (fun h=>by have:=h.2.2.2; omega)] at hnx
       exact ⟨k.n - (i+1),by omega,i+1,⟨rfl,by omega⟩,ha.keep [0,2],by rw [hnx]; exact (RefS.fold hs B kk A).sub⟩
     ·
      iterate 5 (refine DO (s:=43) hpk ha rfl fun a ha=>?_)
      iterate 3 (refine DOH (s:=43) hpk ha rfl hC fun a ha=>?_)
      refine DO (s:=43) hpk ha rfl fun a ha=>?_
      iterate 2 (refine DOH (s:=43) hpk ha rfl hC fun a ha=>?_)
      refine DO (s:=43) hpk ha rfl fun a ha=>?_
      refine DF hpk ha rfl fun a ha=>?_
      refine DD<|TN<|WFa ha<|WK<|BN<|TN<|WR ?_
      refine S1 ha fun a ha=>?_
      refine SK (st_set ha rfl (ex_addI ha (by omega) (by omega)) rfl fun a ha=>?_)
      refine S1d ha fun a ha=>?_
      refine LN<|TN ?_
      rw [if_neg (fun h=>by have:=h.2.2.1; omega)] at hnx
      exact ⟨k.n - (i+1),by omega,i+1,⟨rfl,by omega⟩,ha.keep [0,2],by rw [hnx]; exact (RefS.fold hs B kk A).sub⟩
    ·
     iterate 4 (refine DO (s:=33) hpk ha rfl fun a ha=>?_)
     iterate 3 (refine DOH (s:=33) hpk ha rfl hC fun a ha=>?_)
     refine DO (s:=33) hpk ha rfl fun a ha=>?_
     refine DF hpk ha rfl fun a ha=>?_
     refine DP hpk ha rfl fun a ha=>?_
     iterate 5 (refine DO (s:=43) hpk ha rfl fun a ha=>?_)
     iterate 3 (refine DOH (s:=43) hpk ha rfl hC fun a ha=>?_)
     refine DO (s:=43) hpk ha rfl fun a ha=>?_
     iterate 2 (refine DOH (s:=43) hpk ha rfl hC fun a ha=>?_)
     refine DO (s:=43) hpk ha rfl fun a ha=>?_
     refine DF hpk ha rfl fun a ha=>?_
     refine DD<|TN<|WFa ha<|WK<|BN<|TN<|WR ?_
     refine S1 ha fun a ha=>?_
     refine SK (st_set ha rfl (ex_addI ha (by omega) (by omega)) rfl fun a ha=>?_)
     refine S1d ha fun a ha=>?_
     refine LN<|TN ?_
     rw [if_neg (fun h=>by have:=h.2.1; omega)] at hnx
     exact ⟨k.n - (i+1),by omega,i+1,⟨rfl,by omega⟩,ha.keep [0,2],by rw [hnx]; exact (RefS.fold hs B kk A).sub⟩
   ·
    iterate 3 (refine DO (s:=28) hpk ha rfl fun a ha=>?_)
    refine DF hpk ha rfl fun a ha=>?_
    refine DP hpk ha rfl fun a ha=>?_
    iterate 4 (refine DO (s:=33) hpk ha rfl fun a ha=>?_)
    iterate 3 (refine DOH (s:=33) hpk ha rfl hC fun a ha=>?_)
    refine DO (s:=33) hpk ha rfl fun a ha=>?_
    refine DF hpk ha rfl fun a ha=>?_
    refine DP hpk ha rfl fun a ha=>?_
    iterate 5 (refine DO (s:=43) hpk ha rfl fun a ha=>?_)
    iterate 3 (refine DOH (s:=43) hpk ha rfl hC fun a ha=>?_)
    refine DO (s:=43) hpk ha rfl fun a ha=>?_
    iterate 2 (refine DOH (s:=43) hpk ha rfl hC fun a ha=>?_)
    refine DO (s:=43) hpk ha rfl fun a ha=>?_
    refine DF hpk ha rfl fun a ha=>?_
    refine DD<|TN<|WFa ha<|WK<|BN<|TN<|WR ?_
    refine S1 ha fun a ha=>?_
    refine SK (st_set ha rfl (ex_addI ha (by omega) (by omega)) rfl fun a ha=>?_)
    refine S1d ha fun a ha=>?_
    refine LN<|TN ?_
    rw [if_neg (fun h=>by have:=h.1; rw [hg8] at this; cases this)] at hnx
    exact ⟨k.n - (i+1),by omega,i+1,⟨rfl,by omega⟩,ha.keep [0,2],by rw [hnx]; exact (RefS.fold hs B kk A).sub⟩
  ·
   refine wp_exit<|TE<|TE<|blk_e ?_
   refine end0 ha rfl ?_
   obtain rfl : i=k.n:=by omega
   refine ⟨rfl,?_⟩
   rw [holdK,hpl,hge]
   exact (RefS.fold hs B kk A).sub
theorem ref_mark {s : Nat} (hs : St W w (RefS B k::L)) (hk : WC k) (hl : k.mr.length < 1000) (hss : s < 4294967296) : Calls Tryz.prog 112 #[.pointer (some ⟨B.cb,0,none⟩),.int .u32 s] w fun r w'=>r=.returned (.tuple #[])∧St W w' (RefS B (markK k s)::L):=by
 have hkm : WC { k with mr := k.mr ++ [s] } := { hk with
     mr:=by show (k.mr++[s]).length≤1000; rw [List.length_append,List.length_singleton]; omega
     mrs:=fun x hx=>by
       rcases List.mem_append.1 hx with hx | hx
       · exact hk.mrs x hx
       · rw [List.mem_singleton] at hx; rw [hx]; exact hss }
 obtain ⟨A,hs⟩:=RefS.open hs
 refine calls_enter Tryz.func112 rfl Tryz.ntmps112 (Nat.le_of_ble_eq_true rfl) ?_
 intro a ha
 replace ha : Fr a 22 [(0,_),(1,_)]:=ha
 refine WS<|WS<|WR ?_
 iterate 3 (refine S1 ha fun a ha=>?_)
 refine SL ha (hs.rd1 rfl) fun a ha=>?_
 iterate 2 (refine S1 ha fun a ha=>?_)
 refine LN<|TN ?_
 rw [decide_eq_true (by omega)] at ha
 refine WTr ha<|WR ?_
 iterate 4 (refine S1 ha fun a ha=>?_)
 refine SL ha (hs.rd1 rfl) fun a ha=>?_
 refine S1 ha fun a ha=>?_
 refine SK (st_buildSlice ha rfl hs Tryz.underlying109 Ty.t38 rfl rfl rfl rfl (by decide) (by decide) fun b16 a w ha hs ho=>?_)
 clear ho
 refine SK (st_append ha rfl hs Tryz.underlying109 Ty.t38 rfl rfl hs.rdAll rfl (by simp [Value.oneCell']) (by decide) (by decide) (by omega) fun ad17 c17 a w ha hs=>?_)
 rw [show mrC k.mr++_=mrC (k.mr++[s]) from by rw [mrC,mrC,List.map_append]; rfl,show k.mr.length+1=(k.mr++[s]).length from by simp] at hs
 rw [show k.mr.length+1=(k.mr++[s]).length from by simp] at ha
 iterate 2 (refine S1 ha fun a ha=>?_)
 refine SK (st_store ha rfl hs Ty.t109 rfl (by simp) fun a w ha hs=>?_)
 refine LN ?_
 replace hs:=RefS.fold hs B { k with mr:=k.mr++[s] } { A with adM:=ad17,cM:=c17 }
 refine TN<|WR ?_
 refine S1 ha fun a ha=>?_
 refine SK (st_call ha rfl Ty.c142 rfl (ref_held hs hkm) ?_); clear ha hs
 rintro e w ⟨rfl,hs⟩
 refine ⟨_,rfl,?_⟩
 intro a ha
 refine LN ?_
 refine end0 ha rfl ?_
 exact ⟨rfl,by rw [markK,if_pos hl]; exact hs.sub⟩
theorem ref_press (hs : St W w (RefS B k::L)) (hk : WC k) : Calls Tryz.prog 114 #[.pointer (some ⟨B.cb,0,none⟩),.int .u8 (x.toNat : Nat)] w fun r w'=>r=.returned (.int .i64 (pressK x k).1)∧St W w' (RefS B (pressK x k).2::L):=by
 have hme : k.me < k.ls.length:=by rw [hk.ls]; exact hk.me
 have hhd:=hk.headt
 have hfr:=hk.frontt
 obtain ⟨A0,hs⟩:=RefS.open hs
 refine calls_enter Tryz.func114 rfl Tryz.ntmps114 (Nat.le_of_ble_eq_true rfl) ?_
 intro a ha
 replace ha : Fr a 47 [(0,_),(1,_)]:=ha
 refine WS<|WR ?_
 refine S1 ha fun a ha=>?_
 refine LN<|TN<|WS<|wp_block<|WS<|WR ?_
 iterate 3 (refine S1 ha fun a ha=>?_)
 refine SL ha (hs.rd1 (b:=B.cb) rfl) fun a ha=>?_
 refine S1 ha fun a ha=>?_
 refine LN<|TN ?_
 refine WI ha (fun hc0=>?_) (fun hc0=>?_)
 ·
  replace hs:=RefS.fold hs B k A0
  refine WS<|WR ?_
  refine S1d ha fun a ha=>?_
  refine LN<|TN<|wp_ret<|BR<|TR ?_
  refine ret1 ha rfl ?_
  exact ⟨by rw [pressK,if_pos hc0],by rw [pressK,if_pos hc0]; exact hs⟩
 ·
  have hcl : ¬ k.cl=true:=by rw [hc0]; decide
  replace hs:=RefS.fold hs B k A0
  refine WS<|WR ?_
  refine S1 ha fun a ha=>?_
  refine SK (st_call ha rfl Ty.c120 rfl (ref_head hs hk) ?_); clear ha hs
  rintro e w ⟨rfl,hs⟩
  refine ⟨_,rfl,?_⟩
  intro a ha
  iterate 2 (refine S1 ha fun a ha=>?_)
  refine LN<|TN ?_
  refine WI ha (fun hc1=>?_) (fun hc1=>?_)
  ·
   refine WS<|WR ?_
   refine S1d ha fun a ha=>?_
   refine LN<|TN<|wp_ret<|BR<|TR ?_
   refine ret1 ha rfl ?_
   exact ⟨by rw [pressK,if_neg hcl,if_pos (by omega)],by rw [pressK,if_neg hcl,if_pos (by omega)]; exact hs⟩
  ·
   refine WS ?_
   refine DW (m:=12) (fun w'=>w'.cell? ⟨B.cb,4,none⟩=some (.int .i64 k.window)) [1,3,4] [0,2,5,6,7,8,9,1,3,4,10,11] Ty.mixed (pk_then (pk_blk (pk_then pk_body))) (fun hpk=>?_)
   replace hs:=hs.drew
   generalize w.drew=w at hs hpk ⊢
   have hC : w.cell? ⟨B.cb,4,none⟩=some (.int .i64 k.window):=by
     obtain ⟨A1,hs⟩:=RefS.open hs
     exact hs.rd1 (b:=B.cb) rfl
   iterate 6 (refine DP hpk ha rfl fun a ha=>?_)
   refine DL hpk ha rfl (fun w hc=>hc) hC fun a ha=>?_
   refine D1 rfl (st_call ha rfl Ty.c120 rfl (ref_head hs hk) ?_); clear ha hs
   rintro e w ⟨rfl,hs⟩
   refine ⟨_,rfl,?_⟩
   intro a ha
   replace hC : (fun w'=>w'.cell? ⟨B.cb,4,none⟩=some (.int .i64 k.window)) w:=(by obtain ⟨A1,hs⟩:=RefS.open hs; exact hs.rd1 (b:=B.cb) rfl)
   refine ⟨fun _=>hC,?_⟩
   refine D1 rfl (st_call ha rfl Ty.c111 rfl (ref_frontC hs hk) ?_); clear ha hs
   rintro e w ⟨rfl,hs⟩
   refine ⟨_,rfl,?_⟩
   intro a ha
   replace hC : (fun w'=>w'.cell? ⟨B.cb,4,none⟩=some (.int .i64 k.window)) w:=(by obtain ⟨A1,hs⟩:=RefS.open hs; exact hs.rd1 (b:=B.cb) rfl)
   refine ⟨fun _=>hC,?_⟩
   refine D1 rfl (st_set ha rfl (ex_subI ha (by omega) (by omega)) rfl fun a ha=>?_)
   replace hC : (fun w'=>w'.cell? ⟨B.cb,4,none⟩=some (.int .i64 k.window)) w:=hC
   refine ⟨fun _=>hC,?_⟩
   iterate 2 (refine DP hpk ha rfl fun a ha=>?_)
   refine DD<|TN ?_
   refine WI ha (fun hc2=>?_) (fun hc2=>?_)
   ·
    refine WS<|WR ?_
    refine S1d ha fun a ha=>?_
    refine LN<|TN<|wp_ret<|BR<|TR ?_
    refine ret1 ha rfl ?_
    exact ⟨by rw [pressK,if_neg hcl,if_neg (by omega),if_pos (by omega)],by rw [pressK,if_neg hcl,if_neg (by omega),if_pos (by omega)]; exact hs⟩
   ·
    refine WK<|BN<|TN<|WS ?_
    obtain ⟨A,hs⟩:=RefS.open hs
    have hpk : pressK x k=(0,{ k with ls:=k.ls.set k.me (k.ls.getD k.me []++[x]) }):=by rw [pressK,if_neg hcl,if_neg (by omega),if_neg (by omega)]
    rw [hpk]
    obtain ⟨xs,hxs,hs⟩:=RLn.open (hs.pick (RLn B.lb B.lo B.cL k.ls))
    have hxl : xs.length=k.ls.length:=by rw [← hxs,prx_len]
    obtain ⟨y,hy⟩ : ∃ y,xs[k.me]?=some y:=⟨_,List.getElem?_eq_getElem (by omega)⟩
    obtain ⟨hyi,hye⟩:=List.getElem?_eq_some_iff.1 hy
    have hyl : k.ls.getD k.me []=y.2.2:=by rw [← hxs,prx_get hy]
    refine DW (m:=11) (Old w.drew) [8] [0,1,2,4,5,6,7,3,8,9,10] Ty.mixed (pk_then pk_body) (fun hpk=>?_)
    replace hs:=hs.drew
    have hC:=Old.refl w.drew
    generalize w.drew=w at hs hC hpk ⊢
    iterate 7 (refine DP hpk ha rfl fun a ha=>?_)
    refine DL hpk ha rfl (fun w hc=>hc.cell (hs.rd1 (b:=B.cb) rfl)) hC fun a ha=>?_
    refine D1 rfl (st_set ha rfl (ex_load1 ha Tryz.underlying3 rfl (hs.rd1 (b:=B.cb) rfl)) rfl fun a ha=>?_)
    refine ⟨fun _=>hC,?_⟩
    refine DQ hpk ha rfl rfl (fun w=>ex_indexAddr ha Tryz.underlying55 Ty.t54 hme) fun a ha=>?_
    rw [Nat.mul_one] at ha
    refine DP hpk ha rfl fun a ha=>?_
    refine DD<|TN<|WS<|WR ?_
    iterate 4 (refine S1 ha fun a ha=>?_)
    refine SL ha ((hs.slRdAt B.lb B.lo (by omega)) k.me (bbv y) (by rw [List.getElem?_map,hy]; rfl)) fun a ha=>?_
    rw [bbv] at ha
    replace hs:=(hs.pick (All bbo xs)).allOut hyi
    rw [hye] at hs
    have hs0 : St W w (Sl 5 1 y.1 y.2.2.length y.2.1 (bc y.2.2)::_):=hs
    clear hs
    have hs:=hs0
    clear hs0
    have hhl : y.2.2.length≤1000:=by rw [← hyl]; exact hhd
    refine S1 ha fun a ha=>?_
    refine SK (st_buildSlice ha rfl hs Tryz.underlying22 Ty.t5 rfl rfl rfl rfl (by decide) (by decide) fun b43 a w ha hs ho=>?_)
    clear ho
    refine SK (st_append ha rfl hs Tryz.underlying22 Ty.t5 rfl rfl hs.rdAll rfl (bc_one [x]) (by decide) (by decide) (by omega) fun ad44 c44 a w ha hs=>?_)
    rw [show bc y.2.2++_=bc (y.2.2++[x]) from (bc_app _ [_]).symm,show y.2.2.length+1=(y.2.2++[x]).length from by simp] at hs
    rw [show y.2.2.length+1=(y.2.2++[x]).length from by simp] at ha
    iterate 2 (refine S1 ha fun a ha=>?_)
    refine SK (st_storeS (off:=B.lo) (k:=k.me) ha rfl hs Ty.t22 rfl (by omega) (by rw [List.length_map]; exact hyi) fun a w ha hs=>?_)
    rw [show (xs.map bbv).set k.me (.slice ad44 (y.2.2++[x]).length c44)=(xs.set k.me (ad44,c44,y.2.2++[x])).map bbv from map_set1 _ rfl] at hs
    have h2:=hs.arr (M:=[Sl 5 1 ad44 (y.2.2++[x]).length c44 (bc (y.2.2++[x])),All bbo (xs.eraseIdx k.me)])
    simp only [List.cons_append,List.nil_append] at h2
    have h3:=St.allPut (f:=bbo) (x:=(ad44,c44,y.2.2++[x])) hyi h2
    have hls : (k.ls.set k.me (k.ls.getD k.me []++[x])).length=k.ls.length:=List.length_set
    have hpr : prx (xs.set k.me (ad44,c44,y.2.2++[x]))=k.ls.set k.me (k.ls.getD k.me []++[x]):=by rw [prx,map_set,← prx,hxs,hyl]
    have h4:=h3.arr (M:=[Sl 54 1 (some ⟨B.lb,B.lo,none⟩) k.ls.length B.cL ((xs.set k.me (ad44,c44,y.2.2++[x])).map bbv),All bbo (xs.set k.me (ad44,c44,y.2.2++[x]))])
    simp only [List.cons_append,List.nil_append] at h4
    rw [show k.ls.length=(k.ls.set k.me (k.ls.getD k.me []++[x])).length from hls.symm] at h4
    have h5:=RLn.close (xs:=xs.set k.me (ad44,c44,y.2.2++[x])) h4 hpr
    clear hs
    have hs:=h5
    rw [show rcC k B A=rcC { k with ls:=k.ls.set k.me (k.ls.getD k.me []++[x]) } B A from by simp only [rcC,List.length_set]] at hs
    refine LN<|TN<|WS<|WR ?_
    refine S1d ha fun a ha=>?_
    refine LN<|TN<|wp_ret ?_
    refine ret1 ha rfl ?_
    exact ⟨rfl,(RefS.fold hs B { k with ls:=k.ls.set k.me (k.ls.getD k.me []++[x]) } A).sub⟩
end
end Go.Proofs.YtagpkhbkdbaigaaGreat
/- quintainref12.Line.Put, From; quintainref21.New, Quit. -/
namespace Go.Proofs.YtagpkhbkdbaigaaGreat
open Go.RowKit
set_option linter.unusedVariables false
set_option linter.unusedSimpArgs false
set_option maxRecDepth 10000
set_option synthInstance.maxSize 4000
set_option synthInstance.maxHeartbeats 400000
section
variable {W w : World} {L L' R : List SP} {n c m lb lo i f cl to : Nat} {ad : Option Addr} {ls : List (List UInt8)} {k : Ks} {A : RcA} {B : RcB} {x : UInt8} {bs : List UInt8} {e : Evt} {cf : Cf}
theorem RLn.out {ls : List (List UInt8)} (hs : St W w (RLn lb lo c ls::L)) (hi : i < ls.length) : ∃ (xs : List BBx) (y : BBx),prx xs=ls∧xs[i]?=some y∧y.2.2=ls.getD i [] ∧
   St W w (Sl 5 1 y.1 y.2.2.length y.2.1 (bc y.2.2)::Sl 54 1 (some ⟨lb,lo,none⟩) ls.length c (xs.map bbv)::All bbo (xs.eraseIdx i)::L):=by
 obtain ⟨xs,hxs,hs⟩:=RLn.open hs
 have hxl : xs.length=ls.length:=by rw [← hxs,prx_len]
 have hy : xs[i]?=some xs[i]:=List.getElem?_eq_getElem (by omega)
 refine ⟨xs,xs[i],hxs,hy,by have:=prx_get hy; rw [hxs] at this; exact this.symm,?_⟩
 have h1:=(hs.pick (All bbo xs)).allOut (i:=i) (by omega)
 exact St.sub (M:=bbo xs[i]::Sl 54 1 (some ⟨lb,lo,none⟩) ls.length c (xs.map bbv)::All bbo (xs.eraseIdx i)::L) h1
theorem RLn.put {xs : List BBx} {q : List UInt8} (hs : St W w L) (hxs : prx xs=ls) (hi : i < ls.length) [kk : Arr L [Sl 5 1 ad q.length cl (bc q),Sl 54 1 (some ⟨lb,lo,none⟩) ls.length c ((xs.map bbv).set i (.slice ad q.length cl)),All bbo (xs.eraseIdx i)] R] : St W w (RLn lb lo c (ls.set i q)::R):=by
 have hxl : xs.length=ls.length:=by rw [← hxs,prx_len]
 have h1 : St W w (bbo (ad,cl,q)::Sl 54 1 (some ⟨lb,lo,none⟩) ls.length c ((xs.map bbv).set i (.slice ad q.length cl))::All bbo (xs.eraseIdx i)::R):=hs.perm kk.perm
 rw [show (xs.map bbv).set i (.slice ad q.length cl)=(xs.set i (ad,cl,q)).map bbv from map_set1 _ rfl] at h1
 have h2:=St.allPut (f:=bbo) (x:=(ad,cl,q)) (l:=xs) (i:=i) (by omega) (h1.sub (M:=bbo (ad,cl,q)::All bbo (xs.eraseIdx i)::Sl 54 1 (some ⟨lb,lo,none⟩) ls.length c ((xs.set i (ad,cl,q)).map bbv)::R))
 refine RLn.close (xs:=xs.set i (ad,cl,q)) ?_ (by rw [prx,map_set,← prx,hxs])
 rw [List.length_set]
 exact h2.perm (List.Perm.swap _ _ _)
theorem RLn.hd (hs : St W w (RLn lb lo c ls::L)) (hi : i < ls.length) : ∃ ad c',w.cell? ⟨lb,lo+i,none⟩=some (.slice ad (ls.getD i []).length c'):=by
 obtain ⟨xs,y,h1,h2,h3,h4⟩:=RLn.out hs hi
 rw [← h3]
 exact ⟨_,_,(h4.tail.slRdAt lb lo (by omega)) i (bbv y) (by rw [List.getElem?_map,h2]; rfl)⟩
theorem ref_put {f : Nat} (hs : St W w (RLn lb lo c ls::L)) (hi : i < ls.length) (hl : (ls.getD i []).length≤1000) (hb : bs.length≤65536) (hp : ∀ w',St W w' L→RdB w' ad bs.length bs) :
   Calls Tryz.prog 144 #[.pointer (some ⟨lb,lo+i,none⟩),.int .i64 f,.slice ad bs.length cl] w fun r w'=>∃ n er : Int,r=.returned (.tuple #[.int .i64 n,.int .i64 er])∧St W w' (RLn lb lo c (ls.set i (putLn (ls.getD i []) f bs))::L):=by
 obtain ⟨l0,hl0⟩ : ∃ l0,l0=ls.getD i []:=⟨_,rfl⟩
 rw [← hl0]
 rw [← hl0] at hl
 have hls0 : ls.set i l0=ls:=by rw [hl0]; exact set_same
 refine calls_enter Tryz.func144 rfl Tryz.ntmps144 (Nat.le_of_ble_eq_true rfl) ?_
 intro a ha
 replace ha : Fr a 57 [(0,_),(1,_),(2,_)]:=ha
 refine WS<|WR ?_
 iterate 2 (refine S1 ha fun a ha=>?_)
 refine LN<|TN<|WS<|WS<|WR ?_
 iterate 2 (refine S1 ha fun a ha=>?_)
 refine LN<|TN ?_
 rw [decide_eq_false (by omega)] at ha
 refine WFa ha<|WK<|TN<|WS<|WS ?_
 obtain ⟨adh,ch,hch⟩:=RLn.hd hs hi
 rw [← hl0] at hch
 refine WR ?_
 iterate 4 (refine S1 ha fun a ha=>?_)
 refine SL ha (hch) fun a ha=>?_
 iterate 2 (refine S1 ha fun a ha=>?_)
 refine LN<|TN ?_
 refine WI ha (fun hc1=>?_) (fun hc1=>?_)
 ·
  refine WS<|WR ?_
  iterate 2 (refine S1d ha fun a ha=>?_)
  refine LN<|TN<|wp_ret<|TR ?_
  refine ret2 ha rfl ?_
  exact ⟨_,_,rfl,by rw [putLn,if_pos (by omega),hls0]; exact hs⟩
 ·
  refine WK<|TN<|WS<|WR ?_
  refine S1 ha fun a ha=>?_
  refine LN<|TN<|WS<|WS<|WR ?_
  refine S1 ha fun a ha=>?_
  refine LN ?_
  have hfl : f≤l0.length:=by omega
  refine TN<|wp_block ?_
  refine wp_loop_ghost (fun μ a w=>∃ (j : Nat) (q : List UInt8),(μ=bs.length - j∧j≤bs.length∧q=l0++(bs.drop (l0.length - f)).take (j - (l0.length - f))∧q.length=l0.length+(j - (l0.length - f))∧q.length≤1000)∧Fr a 57 [(0,.pointer (some ⟨lb,lo+i,none⟩)),(1,.int .i64 f),(2,.slice ad bs.length cl),(8,.int .i64 (j - (l0.length - f) : Nat)),(9,.int .i64 j)]∧St W w (RLn lb lo c (ls.set i q)::L)) (bs.length) ?_ ?_
  · exact ⟨0,l0,⟨rfl,by omega,by rw [Nat.zero_sub,List.take_zero,List.append_nil],by omega,hl⟩,by rw [Nat.zero_sub]; exact ha.keep [0,1,2,8,9],by rw [hls0]; exact hs⟩
  ·
   clear ha hs
   rintro μ a w ⟨j,q,⟨rfl,hj,hq,hql,hq1⟩,ha,hs⟩
   refine WS<|WS<|WR ?_
   iterate 4 (refine S1 ha fun a ha=>?_)
   refine LN<|TN ?_
   refine WI ha (fun hc2=>?_) (fun hc2=>?_)
   ·
    have hi2 : i < (ls.set i q).length:=by rw [List.length_set]; exact hi
    have hgd : (ls.set i q).getD i []=q:=by rw [List.getD_eq_getElem?_getD,List.getElem?_set_self hi]; rfl
    obtain ⟨adq,cq,hcy⟩:=RLn.hd hs hi2
    rw [hgd] at hcy
    have hjb : j < bs.length:=by omega
    have hpg:=(hp _ hs.tail).get (by omega)
    refine WK<|TN<|WS<|wp_block<|WS<|WS<|WR ?_
    iterate 4 (refine S1 ha fun a ha=>?_)
    refine SL ha (hcy) fun a ha=>?_
    iterate 2 (refine S1 ha fun a ha=>?_)
    refine SK (st_set ha rfl (ex_subI ha (by omega) (by omega)) rfl fun a ha=>?_)
    refine S1 ha fun a ha=>?_
    refine LN<|TN ?_
    refine WI ha (fun hc3=>?_) (fun hc3=>?_)
    ·
     refine wp_exit<|TE<|blk_e<|TN<|WR ?_
     refine S1 ha fun a ha=>?_
     refine SK (st_set ha rfl (ex_addI ha (by omega) (by omega)) rfl fun a ha=>?_)
     refine S1d ha fun a ha=>?_
     refine LN<|TN ?_
     exact ⟨bs.length - (j+1),by omega,j+1,q,⟨rfl,by omega,by rw [hq,show j - (l0.length - f)=0 from by omega,show j+1 - (l0.length - f)=0 from by omega],by omega,hq1⟩,by rw [show j+1 - (l0.length - f)=j - (l0.length - f) from by omega]; exact ha.keep [0,1,2,8,9],hs⟩
    ·
     refine WK<|TN<|WS<|WS<|WR ?_
     iterate 3 (refine S1 ha fun a ha=>?_)
     refine SL ha (hcy) fun a ha=>?_
     iterate 2 (refine S1 ha fun a ha=>?_)
     refine LN<|TN ?_
     refine WI ha (fun hc4=>?_) (fun hc4=>?_)
     ·
      refine WS<|WR ?_
      iterate 3 (refine S1 ha fun a ha=>?_)
      refine LN<|TN<|wp_ret<|TR<|BR<|TR<|TR<|BR<|TR ?_
      refine ret2 ha rfl ?_
      exact ⟨_,_,rfl,by rw [putLn,if_neg (by omega),show 1000 - l0.length=j - (l0.length - f) from by omega,← hq]; exact hs⟩
     ·
      refine WK<|TN<|WS ?_
      obtain ⟨bb,oo,rfl,_⟩:=hpg
      obtain ⟨xs,y,hxs,hy,hyq,hs⟩:=RLn.out hs hi2
      rw [hgd] at hyq
      rw [hyq] at hs
      have hcw:=(hs.drew.tail.slRdAt lb lo (by omega)) i (bbv y) (by rw [List.getElem?_map,hy]; rfl)
      rw [bbv,hyq] at hcw
      have hrb:=(hp _ hs.drew.tail.tail.tail).rd (by omega)
      have hxi : i < xs.length:=(List.getElem?_eq_some_iff.1 hy).1
      refine DW (m:=14) (Old w.drew) [8,9] [0,1,2,3,5,6,7,4,8,9,10,11,12,13] Ty.mixed (pk_then (pk_blk (pk_then (pk_then (pk_blk (pk_then pk_body)))))) (fun hpk=>?_)
      replace hs:=hs.drew
      have hC:=Old.refl w.drew
      generalize w.drew=w at hs hC hpk hcw hrb ⊢
      iterate 6 (refine DP hpk ha rfl fun a ha=>?_)
      refine DQ hpk ha rfl rfl (fun w=>ex_indexAddr ha Tryz.underlying22 Ty.t5 (by omega)) fun a ha=>?_
      rw [Nat.mul_one] at ha
      refine DL hpk ha rfl (fun w hc=>hc.cell (hcw)) hC fun a ha=>?_
      refine D1 rfl (st_set ha rfl (ex_load1 ha Tryz.underlying5 rfl (hrb j _ (bc_at hjb))) rfl fun a ha=>?_)
      refine ⟨fun _=>hC,?_⟩
      refine D1 rfl (st_buildSlice ha rfl hs Tryz.underlying22 Ty.t5 rfl rfl rfl rfl (by decide) (by decide) fun b50 a w ha hs ho=>?_)
      (try replace hC:=hC.trans ho); clear ho
      refine ⟨fun _=>hC,?_⟩
      refine D1 rfl (st_append ha rfl hs Tryz.underlying22 Ty.t5 rfl rfl hs.rdAll rfl (bc_one [bs[j]]) (by decide) (by decide) (by omega) fun ad51 c51 a w ha hs=>?_)
      refine ⟨fun h=>absurd h (by decide),?_⟩
      rw [show bc q++_=bc (q++[bs[j]]) from (bc_app _ [_]).symm,show q.length+1=(q++[bs[j]]).length from by simp] at hs
      rw [show q.length+1=(q++[bs[j]]).length from by simp] at ha
      iterate 2 (refine DP hpk ha rfl fun a ha=>?_)
      refine D1 rfl (st_storeS (off:=lo) (k:=i) ha rfl hs Ty.t22 rfl (by omega) (by rw [List.length_map]; exact hxi) fun a w ha hs=>?_)
      refine ⟨fun h=>absurd h (by decide),?_⟩
      refine DD<|TN<|WR ?_
      refine S1 ha fun a ha=>?_
      refine SK (st_set ha rfl (ex_addI ha (by omega) (by omega)) rfl fun a ha=>?_)
      refine S1d ha fun a ha=>?_
      refine LN<|BN<|TN<|WR ?_
      refine S1 ha fun a ha=>?_
      refine SK (st_set ha rfl (ex_addI ha (by omega) (by omega)) rfl fun a ha=>?_)
      refine S1d ha fun a ha=>?_
      refine LN<|TN ?_
      have h9:=RLn.put (q:=q++[bs[j]]) (ad:=ad51) (cl:=c51) (lb:=lb) (lo:=lo) (c:=c) hs hxs hi2
      rw [List.set_set] at h9
      exact ⟨bs.length - (j+1),by omega,j+1,q++[bs[j]],⟨rfl,by omega,by rw [putLn_add hfl hjb (by omega) (by omega),← hq],by rw [List.length_append,List.length_singleton]; omega,by rw [List.length_append,List.length_singleton]; omega⟩,by rw [show ((j+1 - (l0.length - f) : Nat) : Int)=((j - (l0.length - f) : Nat) : Int)+1 from by omega]; exact ha.keep [0,1,2,8,9],h9.sub⟩
   ·
    refine wp_exit<|TE<|TE<|blk_e<|TN<|WS<|WR ?_
    iterate 3 (refine S1 ha fun a ha=>?_)
    refine LN<|TN<|wp_ret ?_
    refine ret2 ha rfl ?_
    obtain rfl : j=bs.length:=by omega
    refine ⟨_,_,rfl,?_⟩
    rw [putLn,if_neg (by omega),List.take_of_length_le (by rw [List.length_drop]; omega)]
    rw [hq,List.take_of_length_le (by rw [List.length_drop]; omega)] at hs
    exact hs
abbrev rc0 (n me : Nat) (id : Int) (delay window : Nat) (guess order branches workers room : Int) (b8 b11 b14 b17 : Nat) (ad : Option Addr) (i c : Nat) : List Value:=[.int .i64 n,.int .i64 me,.int .i64 id,.int .i64 delay,.int .i64 window,.int .i64 guess,.int .i64 order,.int .i64 branches,.int .i64 workers,.int .i64 room,.slice ad i c,.int .i64 0,.slice (some ⟨b8,0,none⟩) n n,.slice (some ⟨b11,0,none⟩) n n,.slice (some ⟨b14,0,none⟩) n n,.slice (some ⟨b17,0,none⟩) n n,.slice none 0 0,.slice none 0 0,.bool false]
theorem heC_new (n d : Nat) : heC (List.replicate n (pe0 d))=ints .i64 n (fun _=>0):=by rw [heC,List.map_replicate]; exact rep_ints _ _ _
theorem haC_new (n d : Nat) : haC (List.replicate n (pe0 d))=ints .i64 n (fun _=>d):=by rw [haC,List.map_replicate]; exact rep_ints _ _ _
theorem apC_new (n d : Nat) : apC (List.replicate n (pe0 d))=List.replicate n (.bool false):=by rw [apC,List.map_replicate]; rfl
theorem wdC_new (n d : Nat) : rows wdC (List.replicate n (pe0 d))=rows (fun _ : Pe=>[Value.int .i64 0,.int .u32 0]) (List.replicate n (pe0 0)):=by
 induction n with
 | zero=>rfl
 | succ n ih=>rw [List.replicate_succ,List.replicate_succ,rows_cons,rows_cons,ih]; rfl
theorem bc_zero (d : Nat) : List.replicate d (Value.int .u8 0)=bc (List.replicate d 0):=by rw [bc,List.map_replicate]; rfl
theorem ref_new {n me delay window : Nat} {id guess order branches workers room : Int} (hs : St W w L) (h : mayCf ⟨n,me,id,delay,window,guess,order,branches,workers,room⟩) :
   Calls Tryz.prog 67 #[.agg (cfC ⟨n,me,id,delay,window,guess,order,branches,workers,room⟩).toArray] w fun r w'=>∃ B : RcB,r=.returned (.pointer (some ⟨B.cb,0,none⟩))∧St W w' (RefS B (newK ⟨n,me,id,delay,window,guess,order,branches,workers,room⟩)::L):=by
 obtain ⟨⟨h1,h2,h3⟩,⟨h4,h5,h6,h7⟩,h8,h9,h10,h11⟩:=h
 simp only [inI] at *
 refine calls_enter Tryz.func67 rfl Tryz.ntmps67 (Nat.le_of_ble_eq_true rfl) ?_
 intro a ha
 replace ha : Fr a 48 [(0,_)]:=ha
 refine WS<|WR ?_
 refine SK (st_box ha rfl hs rfl fun b1 a w ha hs ho=>?_)
 clear ho
 change St W w (blk b1 30 [.int .i64 n,.int .i64 me,.int .i64 id,.int .i64 delay,.int .i64 window,.int .i64 guess,.int .i64 order,.int .i64 branches,.int .i64 workers,.int .i64 room]::_) at hs
 refine S1 ha fun a ha=>?_
 refine LN<|TN ?_
 refine wp_seq_cut (M:=fun a w=>∃ b8 b11 b14 b17 b19 : Nat,Fr a 48 [(1,.pointer (some ⟨b1,0,none⟩)),(3,.pointer (some ⟨b19,0,none⟩))]∧St W w (blk b19 127 [.int .i64 n,.int .i64 me,.int .i64 id,.int .i64 delay,.int .i64 window,.int .i64 guess,.int .i64 order,.int .i64 branches,.int .i64 workers,.int .i64 room,.slice none 0 0,.int .i64 0,.slice (some ⟨b8,0,none⟩) n n,.slice (some ⟨b11,0,none⟩) n n,.slice (some ⟨b14,0,none⟩) n n,.slice (some ⟨b17,0,none⟩) n n,.slice none 0 0,.slice none 0 0,.bool false]::blk b8 3 (List.replicate n (.int .i64 0))::blk b11 3 (List.replicate n (.int .i64 0))::blk b14 210 (rows (fun _ : Pe=>[Value.int .i64 0,.int .u32 0]) (List.replicate n (pe0 0)))::blk b17 4 (List.replicate n (.bool false))::blk b1 30 [.int .i64 n,.int .i64 me,.int .i64 id,.int .i64 delay,.int .i64 window,.int .i64 guess,.int .i64 order,.int .i64 branches,.int .i64 workers,.int .i64 room]::L)) ?_ ?_
 ·
  refine DW (m:=16) (Old w.drew) [2,3,5,6,8,9,11,12] [1,4,7,10,0,2,5,8,11,3,6,9,12,13,14,15] Ty.mixed (pk_then pk_body) (fun hpk=>?_)
  replace hs:=hs.drew
  have hC:=Old.refl w.drew
  generalize w.drew=w at hs hC hpk ⊢
  iterate 4 (refine DP hpk ha rfl fun a ha=>?_)
  refine DH hpk ha rfl rfl (fun w hc=>ex_loadN ha Tryz.underlying30 rfl Ty.t30 (hc.rd (hs.rdAll (b:=b1)))) hC fun a ha=>?_
  iterate 4 (refine DL hpk ha rfl (fun w hc=>hc.cell (hs.rd1 rfl)) hC fun a ha=>?_)
  refine DN [(3,[6,9,12,13,14,15]),(6,[3,9,12,13,14,15]),(9,[3,6,12,13,14,15]),(12,[3,6,9,13,14,15])] (by kernel_rfl) rfl ⟨⟨_,rfl,?_⟩,⟨_,rfl,?_⟩,⟨_,rfl,?_⟩,⟨_,rfl,?_⟩,trivial⟩
  ·
   refine st_makeSlice ha rfl hs Tryz.underlying63 Ty.t3 rfl (by omega) (by omega) fun b8 a w ha hs ho=>?_
   (try replace hC:=hC.trans ho); clear ho
   refine ⟨fun _=>hC,?_⟩
   rw [made1 _ rfl] at hs
   refine DN [(6,[9,12,13,14,15]),(9,[6,12,13,14,15]),(12,[6,9,13,14,15])] (by kernel_rfl) rfl ⟨⟨_,rfl,?_⟩,⟨_,rfl,?_⟩,⟨_,rfl,?_⟩,trivial⟩
   ·
    refine st_makeSlice ha rfl hs Tryz.underlying63 Ty.t3 rfl (by omega) (by omega) fun b11 a w ha hs ho=>?_
    (try replace hC:=hC.trans ho); clear ho
    refine ⟨fun _=>hC,?_⟩
    rw [made1 _ rfl] at hs
    refine DN [(9,[12,13,14,15]),(12,[9,13,14,15])] (by kernel_rfl) rfl ⟨⟨_,rfl,?_⟩,⟨_,rfl,?_⟩,trivial⟩
    ·
     refine st_makeSlice ha rfl hs Tryz.underlying123 Ty.t210 rfl (by omega) (by omega) fun b14 a w ha hs ho=>?_
     (try replace hC:=hC.trans ho); clear ho
     refine ⟨fun _=>hC,?_⟩
     rw [made2] at hs
     refine D1 rfl (st_makeSlice ha rfl hs Tryz.underlying124 Ty.t4 rfl (by omega) (by omega) fun b17 a w ha hs ho=>?_)
     (try replace hC:=hC.trans ho); clear ho
     refine ⟨fun _=>hC,?_⟩
     rw [made1 _ rfl] at hs
     refine DQ hpk ha rfl rfl (fun w=>ex_build ha Ty.b127 Ty.t127 rfl) fun a ha=>?_
     refine D1 rfl (st_box ha rfl hs rfl fun b19 a w ha hs ho=>?_)
     (try replace hC:=hC.trans ho); clear ho
     refine ⟨fun h=>absurd h (by decide),?_⟩
     refine DP hpk ha rfl fun a ha=>?_
     refine DD<|TN ?_
     exact ⟨b8,b11,b14,b17,b19,ha.keep [1,3],hs.sub⟩
    ·
     refine st_makeSlice ha rfl hs Tryz.underlying124 Ty.t4 rfl (by omega) (by omega) fun b17 a w ha hs ho=>?_
     (try replace hC:=hC.trans ho); clear ho
     refine ⟨fun _=>hC,?_⟩
     rw [made1 _ rfl] at hs
     refine D1 rfl (st_makeSlice ha rfl hs Tryz.underlying123 Ty.t210 rfl (by omega) (by omega) fun b14 a w ha hs ho=>?_)
     (try replace hC:=hC.trans ho); clear ho
     refine ⟨fun _=>hC,?_⟩
     rw [made2] at hs
     refine DQ hpk ha rfl rfl (fun w=>ex_build ha Ty.b127 Ty.t127 rfl) fun a ha=>?_
     refine D1 rfl (st_box ha rfl hs rfl fun b19 a w ha hs ho=>?_)
     (try replace hC:=hC.trans ho); clear ho
     refine ⟨fun h=>absurd h (by decide),?_⟩
     refine DP hpk ha rfl fun a ha=>?_
     refine DD<|TN ?_
     exact ⟨b8,b11,b14,b17,b19,ha.keep [1,3],hs.sub⟩
   ·
    refine st_makeSlice ha rfl hs Tryz.underlying123 Ty.t210 rfl (by omega) (by omega) fun b14 a w ha hs ho=>?_
    (try replace hC:=hC.trans ho); clear ho
    refine ⟨fun _=>hC,?_⟩
    rw [made2] at hs
    refine DN [(6,[12,13,14,15]),(12,[6,13,14,15])] (by kernel_rfl) rfl ⟨⟨_,rfl,?_⟩,⟨_,rfl,?_⟩,trivial⟩
    ·
     refine st_makeSlice ha rfl hs Tryz.underlying63 Ty.t3 rfl (by omega) (by omega) fun b11 a w ha hs ho=>?_
     (try replace hC:=hC.trans ho); clear ho
     refine ⟨fun _=>hC,?_⟩
     rw [made1 _ rfl] at hs
     refine D1 rfl (st_makeSlice ha rfl hs Tryz.underlying124 Ty.t4 rfl (by omega) (by omega) fun b17 a w ha hs ho=>?_)
     (try replace hC:=hC.trans ho); clear ho
     refine ⟨fun _=>hC,?_⟩
     rw [made1 _ rfl] at hs
     refine DQ hpk ha rfl rfl (fun w=>ex_build ha Ty.b127 Ty.t127 rfl) fun a ha=>?_
     refine D1 rfl (st_box ha rfl hs rfl fun b19 a w ha hs ho=>?_)
     (try replace hC:=hC.trans ho); clear ho
     refine ⟨fun h=>absurd h (by decide),?_⟩
     refine DP hpk ha rfl fun a ha=>?_
     refine DD<|TN ?_
     exact ⟨b8,b11,b14,b17,b19,ha.keep [1,3],hs.sub⟩
    ·
     refine st_makeSlice ha rfl hs Tryz.underlying124 Ty.t4 rfl (by omega) (by omega) fun b17 a w ha hs ho=>?_
     (try replace hC:=hC.trans ho); clear ho
     refine ⟨fun _=>hC,?_⟩
     rw [made1 _ rfl] at hs
     refine D1 rfl (st_makeSlice ha rfl hs Tryz.underlying63 Ty.t3 rfl (by omega) (by omega) fun b11 a w ha hs ho=>?_)
     (try replace hC:=hC.trans ho); clear ho
     refine ⟨fun _=>hC,?_⟩
     rw [made1 _ rfl] at hs
     refine DQ hpk ha rfl rfl (fun w=>ex_build ha Ty.b127 Ty.t127 rfl) fun a ha=>?_
     refine D1 rfl (st_box ha rfl hs rfl fun b19 a w ha hs ho=>?_)
     (try replace hC:=hC.trans ho); clear ho
     refine ⟨fun h=>absurd h (by decide),?_⟩
     refine DP hpk ha rfl fun a ha=>?_
     refine DD<|TN ?_
     exact ⟨b8,b11,b14,b17,b19,ha.keep [1,3],hs.sub⟩
   ·
    refine st_makeSlice ha rfl hs Tryz.underlying124 Ty.t4 rfl (by omega) (by omega) fun b17 a w ha hs ho=>?_
    (try replace hC:=hC.trans ho); clear ho
    refine ⟨fun _=>hC,?_⟩
    rw [made1 _ rfl] at hs
    refine DN [(6,[9,13,14,15]),(9,[6,13,14,15])] (by kernel_rfl) rfl ⟨⟨_,rfl,?_⟩,⟨_,rfl,?_⟩,trivial⟩
    ·
     refine st_makeSlice ha rfl hs Tryz.underlying63 Ty.t3 rfl (by omega) (by omega) fun b11 a w ha hs ho=>?_
     (try replace hC:=hC.trans ho); clear ho
     refine ⟨fun _=>hC,?_⟩
     rw [made1 _ rfl] at hs
     refine D1 rfl (st_makeSlice ha rfl hs Tryz.underlying123 Ty.t210 rfl (by omega) (by omega) fun b14 a w ha hs ho=>?_)
     (try replace hC:=hC.trans ho); clear ho
     refine ⟨fun _=>hC,?_⟩
     rw [made2] at hs
     refine DQ hpk ha rfl rfl (fun w=>ex_build ha Ty.b127 Ty.t127 rfl) fun a ha=>?_
     refine D1 rfl (st_box ha rfl hs rfl fun b19 a w ha hs ho=>?_)
     (try replace hC:=hC.trans ho); clear ho
     refine ⟨fun h=>absurd h (by decide),?_⟩
     refine DP hpk ha rfl fun a ha=>?_
     refine DD<|TN ?_
     exact ⟨b8,b11,b14,b17,b19,ha.keep [1,3],hs.sub⟩
    ·
     refine st_makeSlice ha rfl hs Tryz.underlying123 Ty.t210 rfl (by omega) (by omega) fun b14 a w ha hs ho=>?_
     (try replace hC:=hC.trans ho); clear ho
     refine ⟨fun _=>hC,?_⟩
     rw [made2] at hs
     refine D1 rfl (st_makeSlice ha rfl hs Tryz.underlying63 Ty.t3 rfl (by omega) (by omega) fun b11 a w ha hs ho=>?_)
     (try replace hC:=hC.trans ho); clear ho
     refine ⟨fun _=>hC,?_⟩
     rw [made1 _ rfl] at hs
     refine DQ hpk ha rfl rfl (fun w=>ex_build ha Ty.b127 Ty.t127 rfl) fun a ha=>?_
     refine D1 rfl (st_box ha rfl hs rfl fun b19 a w ha hs ho=>?_)
     (try replace hC:=hC.trans ho); clear ho
     refine ⟨fun h=>absurd h (by decide),?_⟩
     refine DP hpk ha rfl fun a ha=>?_
     refine DD<|TN ?_
     exact ⟨b8,b11,b14,b17,b19,ha.keep [1,3],hs.sub⟩
  ·
   refine st_makeSlice ha rfl hs Tryz.underlying63 Ty.t3 rfl (by omega) (by omega) fun b11 a w ha hs ho=>?_
   (try replace hC:=hC.trans ho); clear ho
   refine ⟨fun _=>hC,?_⟩
   rw [made1 _ rfl] at hs
   refine DN [(3,[9,12,13,14,15]),(9,[3,12,13,14,15]),(12,[3,9,13,14,15])] (by kernel_rfl) rfl ⟨⟨_,rfl,?_⟩,⟨_,rfl,?_⟩,⟨_,rfl,?_⟩,trivial⟩
   ·
    refine st_makeSlice ha rfl hs Tryz.underlying63 Ty.t3 rfl (by omega) (by omega) fun b8 a w ha hs ho=>?_
    (try replace hC:=hC.trans ho); clear ho
    refine ⟨fun _=>hC,?_⟩
    rw [made1 _ rfl] at hs
    refine DN [(9,[12,13,14,15]),(12,[9,13,14,15])] (by kernel_rfl) rfl ⟨⟨_,rfl,?_⟩,⟨_,rfl,?_⟩,trivial⟩
    ·
     refine st_makeSlice ha rfl hs Tryz.underlying123 Ty.t210 rfl (by omega) (by omega) fun b14 a w ha hs ho=>?_
     (try replace hC:=hC.trans ho); clear ho
     refine ⟨fun _=>hC,?_⟩
     rw [made2] at hs
     refine D1 rfl (st_makeSlice ha rfl hs Tryz.underlying124 Ty.t4 rfl (by omega) (by omega) fun b17 a w ha hs ho=>?_)
     (try replace hC:=hC.trans ho); clear ho
     refine ⟨fun _=>hC,?_⟩
     rw [made1 _ rfl] at hs
     refine DQ hpk ha rfl rfl (fun w=>ex_build ha Ty.b127 Ty.t127 rfl) fun a ha=>?_
     refine D1 rfl (st_box ha rfl hs rfl fun b19 a w ha hs ho=>?_)
     (try replace hC:=hC.trans ho); clear ho
     refine ⟨fun h=>absurd h (by decide),?_⟩
     refine DP hpk ha rfl fun a ha=>?_
     refine DD<|TN ?_
     exact ⟨b8,b11,b14,b17,b19,ha.keep [1,3],hs.sub⟩
    ·
     refine st_makeSlice ha rfl hs Tryz.underlying124 Ty.t4 rfl (by omega) (by omega) fun b17 a w ha hs ho=>?_
     (try replace hC:=hC.trans ho); clear ho
     refine ⟨fun _=>hC,?_⟩
     rw [made1 _ rfl] at hs
     refine D1 rfl (st_makeSlice ha rfl hs Tryz.underlying123 Ty.t210 rfl (by omega) (by omega) fun b14 a w ha hs ho=>?_)
     (try replace hC:=hC.trans ho); clear ho
     refine ⟨fun _=>hC,?_⟩
     rw [made2] at hs
     refine DQ hpk ha rfl rfl (fun w=>ex_build ha Ty.b127 Ty.t127 rfl) fun a ha=>?_
     refine D1 rfl (st_box ha rfl hs rfl fun b19 a w ha hs ho=>?_)
     (try replace hC:=hC.trans ho); clear ho
     refine ⟨fun h=>absurd h (by decide),?_⟩
     refine DP hpk ha rfl fun a ha=>?_
     refine DD<|TN ?_
     exact ⟨b8,b11,b14,b17,b19,ha.keep [1,3],hs.sub⟩
   ·
    refine st_makeSlice ha rfl hs Tryz.underlying123 Ty.t210 rfl (by omega) (by omega) fun b14 a w ha hs ho=>?_
    (try replace hC:=hC.trans ho); clear ho
    refine ⟨fun _=>hC,?_⟩
    rw [made2] at hs
    refine DN [(3,[12,13,14,15]),(12,[3,13,14,15])] (by kernel_rfl) rfl ⟨⟨_,rfl,?_⟩,⟨_,rfl,?_⟩,trivial⟩
    ·
     refine st_makeSlice ha rfl hs Tryz.underlying63 Ty.t3 rfl (by omega) (by omega) fun b8 a w ha hs ho=>?_
     (try replace hC:=hC.trans ho); clear ho
     refine ⟨fun _=>hC,?_⟩
     rw [made1 _ rfl] at hs
     refine D1 rfl (st_makeSlice ha rfl hs Tryz.underlying124 Ty.t4 rfl (by omega) (by omega) fun b17 a w ha hs ho=>?_)
     (try replace hC:=hC.trans ho); clear ho
     refine ⟨fun _=>hC,?_⟩
     rw [made1 _ rfl] at hs
     refine DQ hpk ha rfl rfl (fun w=>ex_build ha Ty.b127 Ty.t127 rfl) fun a ha=>?_
     refine D1 rfl (st_box ha rfl hs rfl fun b19 a w ha hs ho=>?_)
     (try replace hC:=hC.trans ho); clear ho
     refine ⟨fun h=>absurd h (by decide),?_⟩
     refine DP hpk ha rfl fun a ha=>?_
     refine DD<|TN ?_
     exact ⟨b8,b11,b14,b17,b19,ha.keep [1,3],hs.sub⟩
    ·
     refine st_makeSlice ha rfl hs Tryz.underlying124 Ty.t4 rfl (by omega) (by omega) fun b17 a w ha hs ho=>?_
     (try replace hC:=hC.trans ho); clear ho
     refine ⟨fun _=>hC,?_⟩
     rw [made1 _ rfl] at hs
     refine D1 rfl (st_makeSlice ha rfl hs Tryz.underlying63 Ty.t3 rfl (by omega) (by omega) fun b8 a w ha hs ho=>?_)
     (try replace hC:=hC.trans ho); clear ho
     refine ⟨fun _=>hC,?_⟩
     rw [made1 _ rfl] at hs
     refine DQ hpk ha rfl rfl (fun w=>ex_build ha Ty.b127 Ty.t127 rfl) fun a ha=>?_
     refine D1 rfl (st_box ha rfl hs rfl fun b19 a w ha hs ho=>?_)
     (try replace hC:=hC.trans ho); clear ho
     refine ⟨fun h=>absurd h (by decide),?_⟩
     refine DP hpk ha rfl fun a ha=>?_
     refine DD<|TN ?_
     exact ⟨b8,b11,b14,b17,b19,ha.keep [1,3],hs.sub⟩
   ·
    refine st_makeSlice ha rfl hs Tryz.underlying124 Ty.t4 rfl (by omega) (by omega) fun b17 a w ha hs ho=>?_
    (try replace hC:=hC.trans ho); clear ho
    refine ⟨fun _=>hC,?_⟩
    rw [made1 _ rfl] at hs
    refine DN [(3,[9,13,14,15]),(9,[3,13,14,15])] (by kernel_rfl) rfl ⟨⟨_,rfl,?_⟩,⟨_,rfl,?_⟩,trivial⟩
    ·
     refine st_makeSlice ha rfl hs Tryz.underlying63 Ty.t3 rfl (by omega) (by omega) fun b8 a w ha hs ho=>?_
     (try replace hC:=hC.trans ho); clear ho
     refine ⟨fun _=>hC,?_⟩
     rw [made1 _ rfl] at hs
     refine D1 rfl (st_makeSlice ha rfl hs Tryz.underlying123 Ty.t210 rfl (by omega) (by omega) fun b14 a w ha hs ho=>?_)
     (try replace hC:=hC.trans ho); clear ho
     refine ⟨fun _=>hC,?_⟩
     rw [made2] at hs
     refine DQ hpk ha rfl rfl (fun w=>ex_build ha Ty.b127 Ty.t127 rfl) fun a ha=>?_
     refine D1 rfl (st_box ha rfl hs rfl fun b19 a w ha hs ho=>?_)
     (try replace hC:=hC.trans ho); clear ho
     refine ⟨fun h=>absurd h (by decide),?_⟩
     refine DP hpk ha rfl fun a ha=>?_
     refine DD<|TN ?_
     exact ⟨b8,b11,b14,b17,b19,ha.keep [1,3],hs.sub⟩
    ·
     refine st_makeSlice ha rfl hs Tryz.underlying123 Ty.t210 rfl (by omega) (by omega) fun b14 a w ha hs ho=>?_
     (try replace hC:=hC.trans ho); clear ho
     refine ⟨fun _=>hC,?_⟩
     rw [made2] at hs
     refine D1 rfl (st_makeSlice ha rfl hs Tryz.underlying63 Ty.t3 rfl (by omega) (by omega) fun b8 a w ha hs ho=>?_)
     (try replace hC:=hC.trans ho); clear ho
     refine ⟨fun _=>hC,?_⟩
     rw [made1 _ rfl] at hs
     refine DQ hpk ha rfl rfl (fun w=>ex_build ha Ty.b127 Ty.t127 rfl) fun a ha=>?_
     refine D1 rfl (st_box ha rfl hs rfl fun b19 a w ha hs ho=>?_)
     (try replace hC:=hC.trans ho); clear ho
     refine ⟨fun h=>absurd h (by decide),?_⟩
     refine DP hpk ha rfl fun a ha=>?_
     refine DD<|TN ?_
     exact ⟨b8,b11,b14,b17,b19,ha.keep [1,3],hs.sub⟩
  ·
   refine st_makeSlice ha rfl hs Tryz.underlying123 Ty.t210 rfl (by omega) (by omega) fun b14 a w ha hs ho=>?_
   (try replace hC:=hC.trans ho); clear ho
   refine ⟨fun _=>hC,?_⟩
   rw [made2] at hs
   refine DN [(3,[6,12,13,14,15]),(6,[3,12,13,14,15]),(12,[3,6,13,14,15])] (by kernel_rfl) rfl ⟨⟨_,rfl,?_⟩,⟨_,rfl,?_⟩,⟨_,rfl,?_⟩,trivial⟩
   ·
    refine st_makeSlice ha rfl hs Tryz.underlying63 Ty.t3 rfl (by omega) (by omega) fun b8 a w ha hs ho=>?_
    (try replace hC:=hC.trans ho); clear ho
    refine ⟨fun _=>hC,?_⟩
    rw [made1 _ rfl] at hs
    refine DN [(6,[12,13,14,15]),(12,[6,13,14,15])] (by kernel_rfl) rfl ⟨⟨_,rfl,?_⟩,⟨_,rfl,?_⟩,trivial⟩
    ·
     refine st_makeSlice ha rfl hs Tryz.underlying63 Ty.t3 rfl (by omega) (by omega) fun b11 a w ha hs ho=>?_
     (try replace hC:=hC.trans ho); clear ho
     refine ⟨fun _=>hC,?_⟩
     rw [made1 _ rfl] at hs
     refine D1 rfl (st_makeSlice ha rfl hs Tryz.underlying124 Ty.t4 rfl (by omega) (by omega) fun b17 a w ha hs ho=>?_)
     (try replace hC:=hC.trans ho); clear ho
     refine ⟨fun _=>hC,?_⟩
     rw [made1 _ rfl] at hs
     refine DQ hpk ha rfl rfl (fun w=>ex_build ha Ty.b127 Ty.t127 rfl) fun a ha=>?_
     refine D1 rfl (st_box ha rfl hs rfl fun b19 a w ha hs ho=>?_)
     (try replace hC:=hC.trans ho); clear ho
     refine ⟨fun h=>absurd h (by decide),?_⟩
     refine DP hpk ha rfl fun a ha=>?_
     refine DD<|TN ?_
     exact ⟨b8,b11,b14,b17,b19,ha.keep [1,3],hs.sub⟩
    ·
     refine st_makeSlice ha rfl hs Tryz.underlying124 Ty.t4 rfl (by omega) (by omega) fun b17 a w ha hs ho=>?_
     (try replace hC:=hC.trans ho); clear ho
     refine ⟨fun _=>hC,?_⟩
     rw [made1 _ rfl] at hs
     refine D1 rfl (st_makeSlice ha rfl hs Tryz.underlying63 Ty.t3 rfl (by omega) (by omega) fun b11 a w ha hs ho=>?_)
     (try replace hC:=hC.trans ho); clear ho
     refine ⟨fun _=>hC,?_⟩
     rw [made1 _ rfl] at hs
     refine DQ hpk ha rfl rfl (fun w=>ex_build ha Ty.b127 Ty.t127 rfl) fun a ha=>?_
     refine D1 rfl (st_box ha rfl hs rfl fun b19 a w ha hs ho=>?_)
     (try replace hC:=hC.trans ho); clear ho
     refine ⟨fun h=>absurd h (by decide),?_⟩
     refine DP hpk ha rfl fun a ha=>?_
     refine DD<|TN ?_
     exact ⟨b8,b11,b14,b17,b19,ha.keep [1,3],hs.sub⟩
   ·
    refine st_makeSlice ha rfl hs Tryz.underlying63 Ty.t3 rfl (by omega) (by omega) fun b11 a w ha hs ho=>?_
    (try replace hC:=hC.trans ho); clear ho
    refine ⟨fun _=>hC,?_⟩
    rw [made1 _ rfl] at hs
    refine DN [(3,[12,13,14,15]),(12,[3,13,14,15])] (by kernel_rfl) rfl ⟨⟨_,rfl,?_⟩,⟨_,rfl,?_⟩,trivial⟩
    ·
     refine st_makeSlice ha rfl hs Tryz.underlying63 Ty.t3 rfl (by omega) (by omega) fun b8 a w ha hs ho=>?_
     (try replace hC:=hC.trans ho); clear ho
     refine ⟨fun _=>hC,?_⟩
     rw [made1 _ rfl] at hs
     refine D1 rfl (st_makeSlice ha rfl hs Tryz.underlying124 Ty.t4 rfl (by omega) (by omega) fun b17 a w ha hs ho=>?_)
     (try replace hC:=hC.trans ho); clear ho
     refine ⟨fun _=>hC,?_⟩
     rw [made1 _ rfl] at hs
     refine DQ hpk ha rfl rfl (fun w=>ex_build ha Ty.b127 Ty.t127 rfl) fun a ha=>?_
     refine D1 rfl (st_box ha rfl hs rfl fun b19 a w ha hs ho=>?_)
     (try replace hC:=hC.trans ho); clear ho
     refine ⟨fun h=>absurd h (by decide),?_⟩
     refine DP hpk ha rfl fun a ha=>?_
     refine DD<|TN ?_
     exact ⟨b8,b11,b14,b17,b19,ha.keep [1,3],hs.sub⟩
    ·
     refine st_makeSlice ha rfl hs Tryz.underlying124 Ty.t4 rfl (by omega) (by omega) fun b17 a w ha hs ho=>?_
     (try replace hC:=hC.trans ho); clear ho
     refine ⟨fun _=>hC,?_⟩
     rw [made1 _ rfl] at hs
     refine D1 rfl (st_makeSlice ha rfl hs Tryz.underlying63 Ty.t3 rfl (by omega) (by omega) fun b8 a w ha hs ho=>?_)
     (try replace hC:=hC.trans ho); clear ho
     refine ⟨fun _=>hC,?_⟩
     rw [made1 _ rfl] at hs
     refine DQ hpk ha rfl rfl (fun w=>ex_build ha Ty.b127 Ty.t127 rfl) fun a ha=>?_
     refine D1 rfl (st_box ha rfl hs rfl fun b19 a w ha hs ho=>?_)
     (try replace hC:=hC.trans ho); clear ho
     refine ⟨fun h=>absurd h (by decide),?_⟩
     refine DP hpk ha rfl fun a ha=>?_
     refine DD<|TN ?_
     exact ⟨b8,b11,b14,b17,b19,ha.keep [1,3],hs.sub⟩
   ·
    refine st_makeSlice ha rfl hs Tryz.underlying124 Ty.t4 rfl (by omega) (by omega) fun b17 a w ha hs ho=>?_
    (try replace hC:=hC.trans ho); clear ho
    refine ⟨fun _=>hC,?_⟩
    rw [made1 _ rfl] at hs
    refine DN [(3,[6,13,14,15]),(6,[3,13,14,15])] (by kernel_rfl) rfl ⟨⟨_,rfl,?_⟩,⟨_,rfl,?_⟩,trivial⟩
    ·
     refine st_makeSlice ha rfl hs Tryz.underlying63 Ty.t3 rfl (by omega) (by omega) fun b8 a w ha hs ho=>?_
     (try replace hC:=hC.trans ho); clear ho
     refine ⟨fun _=>hC,?_⟩
     rw [made1 _ rfl] at hs
     refine D1 rfl (st_makeSlice ha rfl hs Tryz.underlying63 Ty.t3 rfl (by omega) (by omega) fun b11 a w ha hs ho=>?_)
     (try replace hC:=hC.trans ho); clear ho
     refine ⟨fun _=>hC,?_⟩
     rw [made1 _ rfl] at hs
     refine DQ hpk ha rfl rfl (fun w=>ex_build ha Ty.b127 Ty.t127 rfl) fun a ha=>?_
     refine D1 rfl (st_box ha rfl hs rfl fun b19 a w ha hs ho=>?_)
     (try replace hC:=hC.trans ho); clear ho
     refine ⟨fun h=>absurd h (by decide),?_⟩
     refine DP hpk ha rfl fun a ha=>?_
     refine DD<|TN ?_
     exact ⟨b8,b11,b14,b17,b19,ha.keep [1,3],hs.sub⟩
    ·
     refine st_makeSlice ha rfl hs Tryz.underlying63 Ty.t3 rfl (by omega) (by omega) fun b11 a w ha hs ho=>?_
     (try replace hC:=hC.trans ho); clear ho
     refine ⟨fun _=>hC,?_⟩
     rw [made1 _ rfl] at hs
     refine D1 rfl (st_makeSlice ha rfl hs Tryz.underlying63 Ty.t3 rfl (by omega) (by omega) fun b8 a w ha hs ho=>?_)
     (try replace hC:=hC.trans ho); clear ho
     refine ⟨fun _=>hC,?_⟩
     rw [made1 _ rfl] at hs
     refine DQ hpk ha rfl rfl (fun w=>ex_build ha Ty.b127 Ty.t127 rfl) fun a ha=>?_
     refine D1 rfl (st_box ha rfl hs rfl fun b19 a w ha hs ho=>?_)
     (try replace hC:=hC.trans ho); clear ho
     refine ⟨fun h=>absurd h (by decide),?_⟩
     refine DP hpk ha rfl fun a ha=>?_
     refine DD<|TN ?_
     exact ⟨b8,b11,b14,b17,b19,ha.keep [1,3],hs.sub⟩
  ·
   refine st_makeSlice ha rfl hs Tryz.underlying124 Ty.t4 rfl (by omega) (by omega) fun b17 a w ha hs ho=>?_
   (try replace hC:=hC.trans ho); clear ho
   refine ⟨fun _=>hC,?_⟩
   rw [made1 _ rfl] at hs
   refine DN [(3,[6,9,13,14,15]),(6,[3,9,13,14,15]),(9,[3,6,13,14,15])] (by kernel_rfl) rfl ⟨⟨_,rfl,?_⟩,⟨_,rfl,?_⟩,⟨_,rfl,?_⟩,trivial⟩
   ·
    refine st_makeSlice ha rfl hs Tryz.underlying63 Ty.t3 rfl (by omega) (by omega) fun b8 a w ha hs ho=>?_
    (try replace hC:=hC.trans ho); clear ho
    refine ⟨fun _=>hC,?_⟩
    rw [made1 _ rfl] at hs
    refine DN [(6,[9,13,14,15]),(9,[6,13,14,15])] (by kernel_rfl) rfl ⟨⟨_,rfl,?_⟩,⟨_,rfl,?_⟩,trivial⟩
    ·
     refine st_makeSlice ha rfl hs Tryz.underlying63 Ty.t3 rfl (by omega) (by omega) fun b11 a w ha hs ho=>?_
     (try replace hC:=hC.trans ho); clear ho
     refine ⟨fun _=>hC,?_⟩
     rw [made1 _ rfl] at hs
     refine D1 rfl (st_makeSlice ha rfl hs Tryz.underlying123 Ty.t210 rfl (by omega) (by omega) fun b14 a w ha hs ho=>?_)
     (try replace hC:=hC.trans ho); clear ho
     refine ⟨fun _=>hC,?_⟩
     rw [made2] at hs
     refine DQ hpk ha rfl rfl (fun w=>ex_build ha Ty.b127 Ty.t127 rfl) fun a ha=>?_
     refine D1 rfl (st_box ha rfl hs rfl fun b19 a w ha hs ho=>?_)
     (try replace hC:=hC.trans ho); clear ho
     refine ⟨fun h=>absurd h (by decide),?_⟩
     refine DP hpk ha rfl fun a ha=>?_
     refine DD<|TN ?_
     exact ⟨b8,b11,b14,b17,b19,ha.keep [1,3],hs.sub⟩
    ·
     refine st_makeSlice ha rfl hs Tryz.underlying123 Ty.t210 rfl (by omega) (by omega) fun b14 a w ha hs ho=>?_
     (try replace hC:=hC.trans ho); clear ho
     refine ⟨fun _=>hC,?_⟩
     rw [made2] at hs
     refine D1 rfl (st_makeSlice ha rfl hs Tryz.underlying63 Ty.t3 rfl (by omega) (by omega) fun b11 a w ha hs ho=>?_)
     (try replace hC:=hC.trans ho); clear ho
     refine ⟨fun _=>hC,?_⟩
     rw [made1 _ rfl] at hs
     refine DQ hpk ha rfl rfl (fun w=>ex_build ha Ty.b127 Ty.t127 rfl) fun a ha=>?_
     refine D1 rfl (st_box ha rfl hs rfl fun b19 a w ha hs ho=>?_)
     (try replace hC:=hC.trans ho); clear ho
     refine ⟨fun h=>absurd h (by decide),?_⟩
     refine DP hpk ha rfl fun a ha=>?_
     refine DD<|TN ?_
     exact ⟨b8,b11,b14,b17,b19,ha.keep [1,3],hs.sub⟩
   ·
    refine st_makeSlice ha rfl hs Tryz.underlying63 Ty.t3 rfl (by omega) (by omega) fun b11 a w ha hs ho=>?_
    (try replace hC:=hC.trans ho); clear ho
    refine ⟨fun _=>hC,?_⟩
    rw [made1 _ rfl] at hs
    refine DN [(3,[9,13,14,15]),(9,[3,13,14,15])] (by kernel_rfl) rfl ⟨⟨_,rfl,?_⟩,⟨_,rfl,?_⟩,trivial⟩
    ·
     refine st_makeSlice ha rfl hs Tryz.underlying63 Ty.t3 rfl (by omega) (by omega) fun b8 a w ha hs ho=>?_
     (try replace hC:=hC.trans ho); clear ho
     refine ⟨fun _=>hC,?_⟩
     rw [made1 _ rfl] at hs
     refine D1 rfl (st_makeSlice ha rfl hs Tryz.underlying123 Ty.t210 rfl (by omega) (by omega) fun b14 a w ha hs ho=>?_)
     (try replace hC:=hC.trans ho); clear ho
     refine ⟨fun _=>hC,?_⟩
     rw [made2] at hs
     refine DQ hpk ha rfl rfl (fun w=>ex_build ha Ty.b127 Ty.t127 rfl) fun a ha=>?_
     refine D1 rfl (st_box ha rfl hs rfl fun b19 a w ha hs ho=>?_)
     (try replace hC:=hC.trans ho); clear ho
     refine ⟨fun h=>absurd h (by decide),?_⟩
     refine DP hpk ha rfl fun a ha=>?_
     refine DD<|TN ?_
     exact ⟨b8,b11,b14,b17,b19,ha.keep [1,3],hs.sub⟩
    ·
     refine st_makeSlice ha rfl hs Tryz.underlying123 Ty.t210 rfl (by omega) (by omega) fun b14 a w ha hs ho=>?_
     (try replace hC:=hC.trans ho); clear ho
     refine ⟨fun _=>hC,?_⟩
     rw [made2] at hs
     refine D1 rfl (st_makeSlice ha rfl hs Tryz.underlying63 Ty.t3 rfl (by omega) (by omega) fun b8 a w ha hs ho=>?_)
     (try replace hC:=hC.trans ho); clear ho
     refine ⟨fun _=>hC,?_⟩
     rw [made1 _ rfl] at hs
     refine DQ hpk ha rfl rfl (fun w=>ex_build ha Ty.b127 Ty.t127 rfl) fun a ha=>?_
     refine D1 rfl (st_box ha rfl hs rfl fun b19 a w ha hs ho=>?_)
     (try replace hC:=hC.trans ho); clear ho
     refine ⟨fun h=>absurd h (by decide),?_⟩
     refine DP hpk ha rfl fun a ha=>?_
     refine DD<|TN ?_
     exact ⟨b8,b11,b14,b17,b19,ha.keep [1,3],hs.sub⟩
   ·
    refine st_makeSlice ha rfl hs Tryz.underlying123 Ty.t210 rfl (by omega) (by omega) fun b14 a w ha hs ho=>?_
    (try replace hC:=hC.trans ho); clear ho
    refine ⟨fun _=>hC,?_⟩
    rw [made2] at hs
    refine DN [(3,[6,13,14,15]),(6,[3,13,14,15])] (by kernel_rfl) rfl ⟨⟨_,rfl,?_⟩,⟨_,rfl,?_⟩,trivial⟩
    ·
     refine st_makeSlice ha rfl hs Tryz.underlying63 Ty.t3 rfl (by omega) (by omega) fun b8 a w ha hs ho=>?_
     (try replace hC:=hC.trans ho); clear ho
     refine ⟨fun _=>hC,?_⟩
     rw [made1 _ rfl] at hs
     refine D1 rfl (st_makeSlice ha rfl hs Tryz.underlying63 Ty.t3 rfl (by omega) (by omega) fun b11 a w ha hs ho=>?_)
     (try replace hC:=hC.trans ho); clear ho
     refine ⟨fun _=>hC,?_⟩
     rw [made1 _ rfl] at hs
     refine DQ hpk ha rfl rfl (fun w=>ex_build ha Ty.b127 Ty.t127 rfl) fun a ha=>?_
     refine D1 rfl (st_box ha rfl hs rfl fun b19 a w ha hs ho=>?_)
     (try replace hC:=hC.trans ho); clear ho
     refine ⟨fun h=>absurd h (by decide),?_⟩
     refine DP hpk ha rfl fun a ha=>?_
     refine DD<|TN ?_
     exact ⟨b8,b11,b14,b17,b19,ha.keep [1,3],hs.sub⟩
    ·
     refine st_makeSlice ha rfl hs Tryz.underlying63 Ty.t3 rfl (by omega) (by omega) fun b11 a w ha hs ho=>?_
     (try replace hC:=hC.trans ho); clear ho
     refine ⟨fun _=>hC,?_⟩
     rw [made1 _ rfl] at hs
     refine D1 rfl (st_makeSlice ha rfl hs Tryz.underlying63 Ty.t3 rfl (by omega) (by omega) fun b8 a w ha hs ho=>?_)
     (try replace hC:=hC.trans ho); clear ho
     refine ⟨fun _=>hC,?_⟩
     rw [made1 _ rfl] at hs
     refine DQ hpk ha rfl rfl (fun w=>ex_build ha Ty.b127 Ty.t127 rfl) fun a ha=>?_
     refine D1 rfl (st_box ha rfl hs rfl fun b19 a w ha hs ho=>?_)
     (try replace hC:=hC.trans ho); clear ho
     refine ⟨fun h=>absurd h (by decide),?_⟩
     refine DP hpk ha rfl fun a ha=>?_
     refine DD<|TN ?_
     exact ⟨b8,b11,b14,b17,b19,ha.keep [1,3],hs.sub⟩
 ·
  clear ha; (try clear hs)
  intro a w hcut
  obtain ⟨b8,b11,b14,b17,b19,ha,hs⟩:=hcut
  refine WS<|WS<|WR ?_
  refine S1 ha fun a ha=>?_
  refine LN ?_
  replace hs:=hs.sl0 54 1 none
  replace hs:=St.allNil (f:=bbo) hs
  rw [rep_ints] at hs
  refine TN<|wp_block ?_
  refine wp_loop_ghost (fun μ a w=>∃ (i : Nat) (xs : List BBx) (adL : Option Addr) (cL : Nat),(μ=n - i∧i≤n∧prx xs=List.replicate i (List.replicate delay 0))∧Fr a 48 [(1,.pointer (some ⟨b1,0,none⟩)),(3,.pointer (some ⟨b19,0,none⟩)),(4,.int .i64 i)]∧St W w (blk b19 127 (rc0 n me id delay window guess order branches workers room b8 b11 b14 b17 adL i cL)::Sl 54 1 adL i cL (xs.map bbv)::All bbo xs::blk b8 3 (ints .i64 n (fun _=>0))::blk b11 3 (ints .i64 n (fun j=>if j < i then delay else 0))::blk b14 210 (rows (fun _ : Pe=>[Value.int .i64 0,.int .u32 0]) (List.replicate n (pe0 0)))::blk b17 4 (List.replicate n (.bool false))::blk b1 30 [.int .i64 n,.int .i64 me,.int .i64 id,.int .i64 delay,.int .i64 window,.int .i64 guess,.int .i64 order,.int .i64 branches,.int .i64 workers,.int .i64 room]::L)) (n) ?_ ?_
  · exact ⟨0,[],none,0,⟨rfl,by omega,rfl⟩,ha.keep [1,3,4],(hs.sub : St W w (blk b19 127 (rc0 n me id delay window guess order branches workers room b8 b11 b14 b17 none 0 0)::Sl 54 1 none 0 0 []::All bbo []::blk b8 3 (ints .i64 n (fun _=>0))::blk b11 3 (ints .i64 n (fun _=>0))::blk b14 210 (rows (fun _ : Pe=>[Value.int .i64 0,.int .u32 0]) (List.replicate n (pe0 0)))::blk b17 4 (List.replicate n (.bool false))::blk b1 30 [.int .i64 n,.int .i64 me,.int .i64 id,.int .i64 delay,.int .i64 window,.int .i64 guess,.int .i64 order,.int .i64 branches,.int .i64 workers,.int .i64 room]::L))⟩
  ·
   clear ha hs
   rintro μ a w ⟨i,xs,adL,cL,⟨rfl,hi,hxs⟩,ha,hs⟩
   refine WS<|WS<|WR ?_
   iterate 2 (refine S1 ha fun a ha=>?_)
   refine SL ha (hs.rd1 rfl) fun a ha=>?_
   refine S1 ha fun a ha=>?_
   refine LN<|TN ?_
   refine WI ha (fun hc0=>?_) (fun hc0=>?_)
   ·
    refine WK<|TN<|WS<|wp_block<|WS ?_
    refine DW (m:=14) (Old w.drew) [6,7,8,9] [0,1,2,3,5,4,6,7,8,9,10,11,12,13] Ty.mixed (pk_then (pk_blk (pk_then (pk_then (pk_blk (pk_then pk_body)))))) (fun hpk=>?_)
    replace hs:=hs.drew
    have hC:=Old.refl w.drew
    generalize w.drew=w at hs hC hpk ⊢
    iterate 5 (refine DP hpk ha rfl fun a ha=>?_)
    refine DL hpk ha rfl (fun w hc=>hc.cell (hs.rd1 rfl)) hC fun a ha=>?_
    refine D1 rfl (st_set ha rfl (ex_load1 ha Tryz.underlying3 rfl (hs.rd1 rfl)) rfl fun a ha=>?_)
    refine ⟨fun _=>hC,?_⟩
    refine D1 rfl (st_makeSlice ha rfl hs Tryz.underlying22 Ty.t5 rfl (by omega) (by omega) fun b33 a w ha hs ho=>?_)
    (try replace hC:=hC.trans ho); clear ho
    refine ⟨fun _=>hC,?_⟩
    rw [made1 _ rfl,bc_zero] at hs
    replace hs:=hs.slWhole (m:=delay) (sz:=1) (by rw [bc_len,List.length_replicate,Nat.mul_one])
    refine D1 rfl (st_set ha rfl (ex_build ha Ty.b54 Ty.t54 rfl) rfl fun a ha=>?_)
    refine ⟨fun _=>hC,?_⟩
    refine D1 rfl (st_buildSlice ha rfl hs Tryz.underlying55 Ty.t54 rfl rfl rfl rfl (by decide) (by decide) fun b35 a w ha hs ho=>?_)
    (try replace hC:=hC.trans ho); clear ho
    refine ⟨fun _=>hC,?_⟩
    refine D1 rfl (st_append ha rfl hs Tryz.underlying55 Ty.t54 rfl rfl hs.rdAll rfl (by simp [Value.oneCell']) (by decide) (by decide) (by omega) fun ad36 c36 a w ha hs=>?_)
    refine ⟨fun h=>absurd h (by decide),?_⟩
    rw [show List.map bbv xs++_=List.map bbv (xs++[(some (⟨b33,0,none⟩ : Addr),delay,List.replicate delay 0)]) from by rw [List.map_append,List.map_singleton,bbv,List.length_replicate]; rfl] at hs
    iterate 2 (refine DP hpk ha rfl fun a ha=>?_)
    refine D1 rfl (st_store ha rfl hs Ty.t55 rfl (by simp) fun a w ha hs=>?_)
    refine ⟨fun h=>absurd h (by decide),?_⟩
    refine DD<|TN ?_
    refine DW (m:=9) (Old w.drew) [6] [0,1,2,4,5,3,6,7,8] Ty.mixed (pk_blk (pk_then (pk_then (pk_blk (pk_then pk_body))))) (fun hpk=>?_)
    replace hs:=hs.drew
    have hC:=Old.refl w.drew
    generalize w.drew=w at hs hC hpk ⊢
    iterate 5 (refine DP hpk ha rfl fun a ha=>?_)
    refine DL hpk ha rfl (fun w hc=>hc.cell (hs.rd1 rfl)) hC fun a ha=>?_
    refine D1 rfl (st_set ha rfl (ex_load1 ha Tryz.underlying3 rfl (hs.rd1 rfl)) rfl fun a ha=>?_)
    refine ⟨fun _=>hC,?_⟩
    refine DQ hpk ha rfl rfl (fun w=>ex_indexAddr ha Tryz.underlying63 Ty.t3 (by omega)) fun a ha=>?_
    rw [Nat.zero_add,Nat.mul_one] at ha
    refine D1 rfl (st_store ha rfl hs Ty.t3 rfl (by rw [ints_len]; omega) fun a w ha hs=>?_)
    refine ⟨fun h=>absurd h (by decide),?_⟩
    rw [ints_set,ints_congr (g:=fun j=>if j=i then (delay : Int) else if j < i then (delay : Int) else 0) (g':=fun j=>if j < i+1 then (delay : Int) else 0) (fun j _=>by
      by_cases h1 : j=i
      · subst h1; simp
      · by_cases h2 : j < i
        · simp [h1,h2,show j < i+1 from by omega]
        · simp [h1,h2,show ¬ j < i+1 from by omega])] at hs
    refine DD<|BN<|TN<|WR ?_
    refine S1 ha fun a ha=>?_
    refine SK (st_set ha rfl (ex_addI ha (by omega) (by omega)) rfl fun a ha=>?_)
    refine S1d ha fun a ha=>?_
    refine LN<|TN ?_
    have hs2:=St.allPush (f:=bbo) (x:=(some (⟨b33,0,none⟩ : Addr),delay,List.replicate delay 0)) (by
      show St _ _ (Sl 5 1 (some (⟨b33,0,none⟩ : Addr)) (List.replicate delay (0 : UInt8)).length delay (bc (List.replicate delay 0))::_)
      rw [List.length_replicate]
      exact hs.sub (M:=Sl 5 1 (some ⟨b33,0,none⟩) delay delay (bc (List.replicate delay 0))::All bbo xs::blk b19 127 (rc0 n me id delay window guess order branches workers room b8 b11 b14 b17 ad36 (i+1) c36)::Sl 54 1 ad36 (i+1) c36 ((xs++[(some (⟨b33,0,none⟩ : Addr),delay,List.replicate delay 0)]).map bbv)::blk b8 3 (ints .i64 n (fun _=>0))::blk b11 3 (ints .i64 n (fun j=>if j < i+1 then (delay : Int) else 0))::blk b14 210 (rows (fun _ : Pe=>[Value.int .i64 0,.int .u32 0]) (List.replicate n (pe0 0)))::blk b17 4 (List.replicate n (.bool false))::blk b1 30 [.int .i64 n,.int .i64 me,.int .i64 id,.int .i64 delay,.int .i64 window,.int .i64 guess,.int .i64 order,.int .i64 branches,.int .i64 workers,.int .i64 room]::L))
    exact ⟨n - (i+1),by omega,i+1,xs++[(some (⟨b33,0,none⟩ : Addr),delay,List.replicate delay 0)],ad36,c36,⟨rfl,by omega,by rw [prx,List.map_append,← prx,hxs,List.replicate_succ']; rfl⟩,ha.keep [1,3,4],hs2.sub⟩
   ·
    refine wp_exit<|TE<|TE<|blk_e<|TN<|WS<|WR ?_
    iterate 2 (refine S1 ha fun a ha=>?_)
    refine LN<|TN<|wp_ret ?_
    refine ret1 ha rfl ?_
    obtain rfl : i=n:=by omega
    obtain ⟨lb,lo,rfl,_⟩:=(hs.pick (Sl 54 1 adL i cL (xs.map bbv))).slRd adL (by omega)
    rw [ints_congr (g:=fun j=>if j < i then (delay : Int) else 0) (g':=fun _=>(delay : Int)) (fun j hj=>by simp [hj])] at hs
    refine ⟨⟨b19,lb,lo,cL,b8,b11,b14,b17⟩,rfl,?_⟩
    have hll : (newK ⟨i,me,id,delay,window,guess,order,branches,workers,room⟩).ls.length=i:=by simp [newK]
    have h9:=hs.sub (M:=Sl 54 1 (some ⟨lb,lo,none⟩) i cL (xs.map bbv)::All bbo xs::blk b19 127 (rc0 i me id delay window guess order branches workers room b8 b11 b14 b17 (some ⟨lb,lo,none⟩) i cL)::blk b8 3 (ints .i64 i (fun _=>0))::blk b11 3 (ints .i64 i (fun _=>(delay : Int)))::blk b14 210 (rows (fun _ : Pe=>[Value.int .i64 0,.int .u32 0]) (List.replicate i (pe0 0)))::blk b17 4 (List.replicate i (.bool false))::L)
    have h8:=RLn.close (ls:=List.replicate i (List.replicate delay 0)) (by rw [List.length_replicate]; exact h9) hxs
    replace h8:=St.sl0 (St.sl0 h8 38 1 none) 144 3 none
    refine St.shut (M:=[_,_,_,_,_,_,_,_]) (A:=RefS _ _) ?_ (fun _ h=>⟨⟨none,0,none,0⟩,h⟩)
    have hps : (newK ⟨i,me,id,delay,window,guess,order,branches,workers,room⟩).ps=List.replicate i (pe0 delay):=by simp [newK]
    rw [rcC,hll,hps,heC_new,haC_new,apC_new,wdC_new]
    exact h8.sub (M:=blk b19 127 (rc0 i me id delay window guess order branches workers room b8 b11 b14 b17 (some ⟨lb,lo,none⟩) i cL)::RLn lb lo cL (List.replicate i (List.replicate delay 0))::blk b8 3 (ints .i64 i (fun _=>0))::blk b11 3 (ints .i64 i (fun _=>(delay : Int)))::blk b14 210 (rows (fun _ : Pe=>[Value.int .i64 0,.int .u32 0]) (List.replicate i (pe0 0)))::blk b17 4 (List.replicate i (.bool false))::Sl 38 1 none 0 0 []::Sl 144 3 none 0 0 []::L)
end
end Go.Proofs.YtagpkhbkdbaigaaGreat
/- quintainref21.Quit, Tick. -/
namespace Go.Proofs.YtagpkhbkdbaigaaGreat
open Go.RowKit
set_option linter.unusedVariables false
set_option linter.unusedSimpArgs false
set_option maxRecDepth 10000
set_option synthInstance.maxSize 4000
set_option synthInstance.maxHeartbeats 400000
section
variable {W w : World} {L L' R : List SP} {n c m lb lo i f cl to : Nat} {ad : Option Addr} {ls : List (List UInt8)} {k : Ks} {A : RcA} {B : RcB} {x : UInt8} {bs : List UInt8} {e : Evt} {cf : Cf}
theorem ref_fromX {fr m at' cq : Nat} {adq : Option Addr} {q : List UInt8} (hs : St W w L) (hcy : w.cell? ⟨lb,at',none⟩=some (.slice adq q.length cq)) (hqc : q.length≤cq) (hry : ∀ w',St W w' L→RdB w' adq q.length q) (hl : q.length≤1000) (hf : fr≤1000) (hk : 1≤m∧m≤1000) :
   Calls Tryz.prog 116 #[.pointer (some ⟨lb,at',none⟩),.int .i64 fr,.int .i64 m] w fun r w'=>∃ ad' c',r=.returned (.slice ad' ((q.drop fr).take m).length c')∧St W w' (Sl 5 1 ad' ((q.drop fr).take m).length c' (bc ((q.drop fr).take m))::L):=by
 refine calls_enter Tryz.func116 rfl Tryz.ntmps116 (Nat.le_of_ble_eq_true rfl) ?_
 intro a ha
 replace ha : Fr a 36 [(0,_),(1,_),(2,_)]:=ha
 refine WS<|WR ?_
 refine S1 ha fun a ha=>?_
 refine LN<|TN<|WS<|WS<|WR ?_
 iterate 3 (refine S1 ha fun a ha=>?_)
 rw [decide_eq_false (by omega)] at ha
 iterate 4 (refine S1g (s:=10) ha fun a ha=>?_)
 refine SLg (s:=10) ha (hcy) fun a ha=>?_
 iterate 2 (refine S1g (s:=10) ha fun a ha=>?_)
 refine PF ha fun a ha=>?_
 refine S1 ha fun a ha=>?_
 refine ha.by (s:=19) (fun hg11 ha=>?_) (fun hg11 ha=>?_)
 ·
  iterate 2 (refine SO (s:=19) ha fun a ha=>?_)
  refine PT ha fun a ha=>?_
  refine LN<|TN<|WTr ha<|WS<|WR ?_
  refine S1d ha fun a ha=>?_
  refine LN<|TN<|wp_ret<|TR ?_
  refine ret1 ha rfl ?_
  have hz : (q.drop fr).take m=[]:=by rw [List.drop_eq_nil_of_le (by omega),List.take_nil]
  rw [hz]; exact ⟨none,0,rfl,hs.sl0 _ _ none⟩
 ·
  iterate 2 (refine S1g (s:=19) ha fun a ha=>?_)
  refine PF ha fun a ha=>?_
  refine LN<|TN ?_
  rw [decide_eq_false (by omega)] at ha
  refine WFa ha<|WK<|TN<|WS<|WR ?_
  iterate 3 (refine S1 ha fun a ha=>?_)
  refine SL ha (hcy) fun a ha=>?_
  refine S1 ha fun a ha=>?_
  refine SK (st_set ha rfl (ex_sliceL ha Tryz.underlying22 Ty.t5 (by omega)) rfl fun a ha=>?_)
  refine S1 ha fun a ha=>?_
  refine LN<|TN<|WS<|WR ?_
  iterate 4 (refine S1 ha fun a ha=>?_)
  refine SK (st_set ha rfl (ex_min ha) rfl fun a ha=>?_)
  rw [show min (m : Int) ((((q.length - fr : Nat) : Int)))=((min m (q.length - fr) : Nat) : Int) from by omega] at ha
  refine SK (st_set ha rfl (ex_sliceH ha Tryz.underlying22 Ty.t5 (by omega)) rfl fun a ha=>?_)
  rw [cutAd_zero,Nat.sub_zero,Nat.sub_zero] at ha
  have hcut:=((hry _ hs).cutLH (c:=cq) (lo:=fr) (n:=min m (q.length - fr)) (by omega) hqc)
  have hte : (q.drop fr).take (min m (q.length - fr))=(q.drop fr).take m:=by rw [List.take_eq_take_iff,List.length_drop]; omega
  rw [hte] at hcut
  have htl : min m (q.length - fr)=((q.drop fr).take m).length:=by rw [List.length_take,List.length_drop]
  rw [htl] at ha hcut
  replace hs:=hs.sl0 5 1 none
  refine SK (st_appendT ha rfl hs Tryz.underlying22 Ty.t5 rfl rfl (by decide) (fun h0=>hcut.get h0) (by rw [bc_len]; omega) (bc_one _) (by rw [List.length_take,List.length_drop]; omega) fun ad35 c35 a w ha hs=>?_)
  rw [List.nil_append,Nat.zero_add] at hs
  rw [Nat.zero_add] at ha
  refine S1d ha fun a ha=>?_
  refine LN<|TN<|wp_ret ?_
  refine ret1 ha rfl ?_
  exact ⟨_,_,rfl,hs⟩
theorem RefS.cbX (hs : St W w (RefS B k::L)) : ∃ (A : RcA) (D : SP),St W w (blk B.cb 127 (rcC k B A)::D::L)∧∀ (w' : World) (L' : List SP) (nw : Nat) (cl : Bool),St W w' (blk B.cb 127 (rcC { k with now:=nw,cl:=cl } B A)::D::L')→St W w' (RefS B { k with now:=nw,cl:=cl }::L'):=by
 obtain ⟨A,hs⟩:=RefS.open hs
 have h1 : St W w ([RLn B.lb B.lo B.cL k.ls,blk B.hb 3 (heC k.ps),blk B.ab 3 (haC k.ps),blk B.wb 210 (rows wdC k.ps),blk B.xb 4 (apC k.ps),Sl 38 1 A.adM k.mr.length A.cM (mrC k.mr),Sl 144 3 A.adE k.ev.length A.cE (rows rawC k.ev)]++(blk B.cb 127 (rcC k B A)::L)):=hs.sub (M:=RLn B.lb B.lo B.cL k.ls::blk B.hb 3 (heC k.ps)::blk B.ab 3 (haC k.ps)::blk B.wb 210 (rows wdC k.ps)::blk B.xb 4 (apC k.ps)::Sl 38 1 A.adM k.mr.length A.cM (mrC k.mr)::Sl 144 3 A.adE k.ev.length A.cE (rows rawC k.ev)::blk B.cb 127 (rcC k B A)::L)
 refine ⟨A,fun h=>sepL [RLn B.lb B.lo B.cL k.ls,blk B.hb 3 (heC k.ps),blk B.ab 3 (haC k.ps),blk B.wb 210 (rows wdC k.ps),blk B.xb 4 (apC k.ps),Sl 38 1 A.adM k.mr.length A.cM (mrC k.mr),Sl 144 3 A.adE k.ev.length A.cE (rows rawC k.ev)] h,?_,fun w' L' nw cl hs=>?_⟩
 · exact (St.shut (A:=fun h=>sepL [RLn B.lb B.lo B.cL k.ls,blk B.hb 3 (heC k.ps),blk B.ab 3 (haC k.ps),blk B.wb 210 (rows wdC k.ps),blk B.xb 4 (apC k.ps),Sl 38 1 A.adM k.mr.length A.cM (mrC k.mr),Sl 144 3 A.adE k.ev.length A.cE (rows rawC k.ev)] h) h1 fun _ h=>h).perm (List.Perm.swap _ _ _)
 · have h2 : St W w' (RLn B.lb B.lo B.cL k.ls::blk B.hb 3 (heC k.ps)::blk B.ab 3 (haC k.ps)::blk B.wb 210 (rows wdC k.ps)::blk B.xb 4 (apC k.ps)::Sl 38 1 A.adM k.mr.length A.cM (mrC k.mr)::Sl 144 3 A.adE k.ev.length A.cE (rows rawC k.ev)::blk B.cb 127 (rcC { k with now:=nw,cl:=cl } B A)::L'):=(hs.perm (List.Perm.swap _ _ _)).open (M:=[_,_,_,_,_,_,_]) fun _ h=>h
   exact RefS.fold h2 B { k with now:=nw,cl:=cl } A
def mlQ (k : Ks) (i : Nat) : List Ml:=(othN k i).map fun j=>(k.me,j,encO (quitPk k j))
def mlT (k : Ks) (i : Nat) : List Ml:=(othN k i).map fun j=>(k.me,j,encO (mailPk k j))
theorem ref_quit (hs : St W w (RefS B k::L)) (hk : WC k) : Calls Tryz.prog 75 #[.pointer (some ⟨B.cb,0,none⟩)] w fun r w'=>∃ ad c,r=.returned (.slice ad (quitK k).1.length c)∧St W w' (OwnMl 176 ad (quitK k).1.length c (quitK k).1::RefS B (quitK k).2::L):=by
 have hn:=hk.n
 obtain ⟨A,D,hs,hD⟩:=RefS.cbX hs
 refine calls_enter Tryz.func75 rfl Tryz.ntmps75 (Nat.le_of_ble_eq_true rfl) ?_
 intro a ha
 replace ha : Fr a 52 [(0,_)]:=ha
 refine WS<|WR ?_
 refine S1 ha fun a ha=>?_
 refine LN<|TN<|WS<|WS<|WR ?_
 iterate 3 (refine S1 ha fun a ha=>?_)
 refine SL ha (hs.rd1 (b:=B.cb) rfl) fun a ha=>?_
 refine LN<|TN ?_
 refine WI ha (fun hc0=>?_) (fun hc0=>?_)
 ·
  refine WS<|WR ?_
  refine S1d ha fun a ha=>?_
  refine LN<|TN<|wp_ret<|TR ?_
  refine ret1 ha rfl ?_
  refine ⟨none,0,by rw [quitK,if_pos hc0]; rfl,?_⟩
  rw [quitK,if_pos hc0]
  exact OwnMl.nil (hD _ _ k.now k.cl hs)
 ·
  refine WK<|TN<|WS<|WR ?_
  refine S1 ha fun a ha=>?_
  refine LN<|TN<|WS<|WS<|WR ?_
  refine S1 ha fun a ha=>?_
  refine LN ?_
  have hq : quitK k=((othersK k).map fun i=>(k.me,i,encO (quitPk k i)),{ k with cl:=true }):=by rw [quitK,if_neg (by rw [hc0]; decide)]
  replace hs:=St.sl0 (St.allNil (f:=mlo) hs) 176 3 none
  refine TN<|wp_block ?_
  refine wp_loop_ghost (fun μ a w=>∃ (i : Nat) (xs : List Mx) (ad : Option Addr) (c : Nat),(μ=k.n - i∧i≤k.n∧xs.map (·.2.2)=mlQ k i∧xs.length≤i)∧Fr a 52 [(0,.pointer (some ⟨B.cb,0,none⟩)),(3,.slice ad xs.length c),(4,.int .i64 i)]∧St W w (Sl 176 3 ad xs.length c (rows mlC xs)::All mlo xs::blk B.cb 127 (rcC k B A)::D::L)) (k.n) ?_ ?_
  · exact ⟨0,[],none,0,⟨rfl,by omega,rfl,Nat.le_refl _⟩,ha.keep [0,3,4],hs⟩
  ·
   clear ha hs
   rintro μ a w ⟨i,xs,ad,c,⟨rfl,hi,hxm,hxl⟩,ha,hs⟩
   refine WS<|WS<|WR ?_
   iterate 5 (refine S1 ha fun a ha=>?_)
   refine SL ha (hs.rd1 (b:=B.cb) rfl) fun a ha=>?_
   refine S1 ha fun a ha=>?_
   refine LN<|TN ?_
   refine WI ha (fun hc1=>?_) (fun hc1=>?_)
   ·
    have hsu : mlQ k (i+1)=if i=k.me then mlQ k i else mlQ k i++[(k.me,i,encO (quitPk k i))]:=by
      rw [mlQ,othN_succ]
      split
      · rfl
      · rw [List.map_append]; rfl
    refine WK<|TN<|WS<|wp_block<|WS<|WR ?_
    iterate 5 (refine S1 ha fun a ha=>?_)
    refine SL ha (hs.rd1 (b:=B.cb) rfl) fun a ha=>?_
    refine S1 ha fun a ha=>?_
    refine LN<|TN ?_
    refine WI ha (fun hc2=>?_) (fun hc2=>?_)
    ·
     rw [if_neg (by omega)] at hsu
     refine DW (m:=24) (fun w'=>Rd w' B.cb 0 (rcC k B A)) [11,17,18,19] [0,1,2,3,4,6,7,8,9,10,12,13,14,15,16,5,11,17,18,19,20,21,22,23] Ty.mixed (pk_blk (pk_then (pk_then (pk_blk (pk_then pk_body))))) (fun hpk=>?_)
     replace hs:=hs.drew
     generalize w.drew=w at hs hpk ⊢
     have hC : Rd w B.cb 0 (rcC k B A):=hs.rdAll (b:=B.cb)
     iterate 15 (refine DP hpk ha rfl fun a ha=>?_)
     iterate 2 (refine DL hpk ha rfl (fun w hc=>hc 1 _ rfl) hC fun a ha=>?_)
     refine D1 rfl (st_set ha rfl (ex_load1 ha Tryz.underlying2 rfl (hC 2 _ rfl)) rfl fun a ha=>?_)
     replace hC : (fun w'=>Rd w' B.cb 0 (rcC k B A)) w:=hC
     refine ⟨fun _=>hC,?_⟩
     refine D1 rfl (st_set ha rfl (ex_build ha Ty.b40 Ty.t40 rfl) rfl fun a ha=>?_)
     replace hC : (fun w'=>Rd w' B.cb 0 (rcC k B A)) w:=hC
     refine ⟨fun _=>hC,?_⟩
     refine D1 rfl (st_call ha rfl Ty.c16 rfl (refPacket_spec (p:=quitPk k i) (ad:=none) (c:=0) hs (by show 0 < 4294967296; decide) (fun w' hw=>RdB.nil)) ?_); clear ha hs
     rintro e w ⟨ad2,c2,rfl,hs⟩
     refine ⟨_,rfl,?_⟩
     intro a ha
     replace hC : (fun w'=>Rd w' B.cb 0 (rcC k B A)) w:=hs.rdAll (b:=B.cb)
     refine ⟨fun _=>hC,?_⟩
     refine DQ hpk ha rfl rfl (fun w=>ex_build ha Ty.b176 Ty.t176 rfl) fun a ha=>?_
     refine D1 rfl (st_buildSlice ha rfl hs Tryz.underlying119 Ty.t176 rfl rfl rfl rfl (by decide) (by decide) fun b46 a w ha hs ho=>?_)
     (try replace hC:=hC.trans ho); clear ho
     refine ⟨fun h=>absurd h (by decide),?_⟩
     refine D1 rfl (st_append ha rfl hs Tryz.underlying119 Ty.t176 rfl rfl hs.rdAll rfl (by simp [Value.oneCell']) (by decide) (by decide) (by omega) fun ad47 c47 a w ha hs=>?_)
     refine ⟨fun h=>absurd h (by decide),?_⟩
     rw [show rows mlC xs++_=rows mlC (xs++[(ad2,c2,(k.me,i,encO (quitPk k i)))]) from by rw [rows_app]; rfl,show xs.length+1=(xs++[(ad2,c2,(k.me,i,encO (quitPk k i)))]).length from by simp] at hs
     rw [show xs.length+1=(xs++[(ad2,c2,(k.me,i,encO (quitPk k i)))]).length from by simp] at ha
     replace ha:=ha.del 3
     refine DP hpk ha rfl fun a ha=>?_
     refine DD<|BN<|TN<|WR ?_
     refine S1 ha fun a ha=>?_
     refine SK (st_set ha rfl (ex_addI ha (by omega) (by omega)) rfl fun a ha=>?_)
     refine S1d ha fun a ha=>?_
     refine LN<|TN ?_
     have hs2:=St.allPush (f:=mlo) (x:=(ad2,c2,(k.me,i,encO (quitPk k i)))) (hs.sub (M:=Sl 5 1 ad2 (encO (quitPk k i)).length c2 (bc (encO (quitPk k i)))::All mlo xs::Sl 176 3 ad47 (xs++[(ad2,c2,(k.me,i,encO (quitPk k i)))]).length c47 (rows mlC (xs++[(ad2,c2,(k.me,i,encO (quitPk k i)))]))::blk B.cb 127 (rcC k B A)::D::L))
     exact ⟨k.n - (i+1),by omega,i+1,xs++[(ad2,c2,(k.me,i,encO (quitPk k i)))],ad47,c47,⟨rfl,by omega,by rw [List.map_append,hxm,hsu]; rfl,by rw [List.length_append]; simp; omega⟩,ha.keep [0,3,4],hs2.sub⟩
    ·
     rw [if_pos (by omega)] at hsu
     refine WK<|BN<|TN<|WR ?_
     refine S1 ha fun a ha=>?_
     refine SK (st_set ha rfl (ex_addI ha (by omega) (by omega)) rfl fun a ha=>?_)
     refine S1d ha fun a ha=>?_
     refine LN<|TN ?_
     exact ⟨k.n - (i+1),by omega,i+1,xs,ad,c,⟨rfl,by omega,by rw [hsu,hxm],by omega⟩,ha.keep [0,3,4],hs⟩
   ·
    obtain rfl : i=k.n:=by omega
    refine wp_exit<|TE<|TE<|blk_e<|TN<|WS<|WR ?_
    iterate 3 (refine S1 ha fun a ha=>?_)
    refine SK (st_store ha rfl hs Ty.t4 rfl (by simp) fun a w ha hs=>?_)
    refine LN<|TN<|WS<|WR ?_
    iterate 2 (refine S1 ha fun a ha=>?_)
    refine LN<|TN<|wp_ret ?_
    refine ret1 ha rfl ?_
    have hll : xs.length=((othersK k).map fun i=>(k.me,i,encO (quitPk k i))).length:=by
      have h1 : (xs.map (·.2.2)).length=(mlQ k k.n).length:=by rw [hxm]
      rw [List.length_map] at h1
      exact h1
    rw [hq]
    refine ⟨ad,c,by rw [hll],?_⟩
    rw [hll] at hs
    have h5:=hD _ _ k.now true (hs.sub (M:=blk B.cb 127 (rcC { k with now:=k.now,cl:=true } B A)::D::Sl 176 3 ad ((othersK k).map fun i=>(k.me,i,encO (quitPk k i))).length c (rows mlC xs)::All mlo xs::L))
    exact OwnMl.close (xs:=xs) h5.sub hxm rfl
theorem othersK_find {k : Ks} {i : Nat} (h1 : ∀ j,j < i→j≠k.me→¬ lateP k j) (hi : i < k.n) (hm : i≠k.me) (hl : lateP k i) : (othersK k).find? (fun i=>decide (lateP k i))=some i:=by
 rw [othersK,List.find?_filter,List.find?_range_eq_some]
 refine ⟨by simp [hm,hl],by simpa using hi,fun j hj=>?_⟩
 by_cases hjm : j=k.me
 · simp [hjm]
 · simp [h1 j hj hjm]
theorem othersK_none {k : Ks} (h1 : ∀ j,j < k.n→j≠k.me→¬ lateP k j) : (othersK k).find? (fun i=>decide (lateP k i))=none :=
 find_no fun j hj=>decide_eq_false (h1 j (othersK_mem.1 hj).1 (othersK_mem.1 hj).2)
set_option maxHeartbeats 2000000 in
theorem ref_tick (hs : St W w (RefS B k::L)) (hk : WC k) (hnw : k.now≤1000000) : Calls Tryz.prog 72 #[.pointer (some ⟨B.cb,0,none⟩)] w fun r w'=>∃ ad c,r=.returned (.slice ad (tickK k).1.length c)∧St W w' (OwnMl 176 ad (tickK k).1.length c (tickK k).1::RefS B (tickK k).2::L):=by
 have hn:=hk.n
 obtain ⟨A0,D,hs,hD⟩:=RefS.cbX hs
 refine calls_enter Tryz.func72 rfl Tryz.ntmps72 (Nat.le_of_ble_eq_true rfl) ?_
 intro a ha
 replace ha : Fr a 154 [(0,_)]:=ha
 refine WS<|WR ?_
 refine S1 ha fun a ha=>?_
 refine LN<|TN<|WS<|WS<|WR ?_
 iterate 3 (refine S1 ha fun a ha=>?_)
 refine SL ha (hs.rd1 (b:=B.cb) rfl) fun a ha=>?_
 refine LN<|TN ?_
 refine WI ha (fun hc0=>?_) (fun hc0=>?_)
 ·
  refine WS<|WR ?_
  refine S1d ha fun a ha=>?_
  refine LN<|TN<|wp_ret<|TR ?_
  refine ret1 ha rfl ?_
  refine ⟨none,0,by rw [tickK,if_pos hc0]; rfl,?_⟩
  rw [tickK,if_pos hc0]
  exact OwnMl.nil (hD _ _ k.now k.cl hs)
 ·
  have hq2 : tickK k=(match (othersK { k with now:=k.now+1 }).find? (fun i=>decide (lateP { k with now:=k.now+1 } i)) with
    | some i=>([],{ ({ k with now:=k.now+1 } : Ks) with ev:=({ k with now:=k.now+1 } : Ks).ev++[(2,i,0)],cl:=true })
    | none=>((othersK { k with now:=k.now+1 }).map fun i=>(({ k with now:=k.now+1 } : Ks).me,i,encO (mailPk { k with now:=k.now+1 } i)),{ k with now:=k.now+1 })):=by rw [tickK,if_neg (by rw [hc0]; decide)]; rfl
  refine WK<|TN<|WS<|WR ?_
  iterate 3 (refine S1 ha fun a ha=>?_)
  refine SL ha (hs.rd1 (b:=B.cb) rfl) fun a ha=>?_
  refine SK (st_set ha rfl (ex_addI ha (by omega) (by omega)) rfl fun a ha=>?_)
  rw [show ((k.now : Nat) : Int)+1=((k.now+1 : Nat) : Int) from by omega] at ha
  iterate 2 (refine S1 ha fun a ha=>?_)
  refine SK (st_store ha rfl hs Ty.t3 rfl (by simp) fun a w ha hs=>?_)
  refine LN ?_
  replace hs:=hD _ _ (k.now+1) k.cl hs
  clear hD
  have hk' : WC { k with now:=k.now+1 }:=hk.nowUp
  have hev:=hk.evl
  have hnw' : ({ k with now:=k.now+1 } : Ks).now≤1000001:=by show k.now+1≤_; omega
  have hev' : ({ k with now:=k.now+1 } : Ks).ev.length≤9:=hev
  have hn' : 2≤({ k with now:=k.now+1 } : Ks).n∧({ k with now:=k.now+1 } : Ks).n≤8:=hn
  have hcl' : ({ k with now:=k.now+1 } : Ks).cl=false:=hc0
  replace hs : St W w (RefS B { k with now:=k.now+1 }::L):=hs
  generalize ({ k with now:=k.now+1 } : Ks)=k1 at hs hk' hq2 hnw' hev' hn' hcl'
  obtain ⟨A,hs⟩:=RefS.open hs
  refine TN<|WS<|WS<|WR ?_
  refine S1 ha fun a ha=>?_
  refine LN<|TN<|wp_block ?_
  refine wp_loop_ghost (fun μ a w=>∃ (i : Nat),(μ=k1.n - i∧i≤k1.n∧∀ j,j < i→j≠k1.me→¬ lateP k1 j)∧Fr a 154 [(0,.pointer (some ⟨B.cb,0,none⟩)),(3,.int .i64 i)]∧St W w (blk B.cb 127 (rcC k1 B A)::RLn B.lb B.lo B.cL k1.ls::blk B.hb 3 (heC k1.ps)::blk B.ab 3 (haC k1.ps)::blk B.wb 210 (rows wdC k1.ps)::blk B.xb 4 (apC k1.ps)::Sl 38 1 A.adM k1.mr.length A.cM (mrC k1.mr)::Sl 144 3 A.adE k1.ev.length A.cE (rows rawC k1.ev)::L)) (k1.n) ?_ ?_
  · exact ⟨0,⟨rfl,by omega,fun j hj=>by omega⟩,ha.keep [0,3],hs⟩
  ·
   clear ha hs
   rintro μ a w ⟨i,⟨rfl,hi,hno⟩,ha,hs⟩
   refine WS<|WS<|WR ?_
   iterate 5 (refine S1 ha fun a ha=>?_)
   refine SL ha (hs.rd1 (b:=B.cb) rfl) fun a ha=>?_
   refine S1 ha fun a ha=>?_
   refine LN<|TN ?_
   refine WI ha (fun hc1=>?_) (fun hc1=>?_)
   ·
    have hin : i < k1.n:=by omega
    have hil : i < k1.ps.length:=by rw [hk'.ps]; exact hin
    have hpt:=hk'.pet hin
    have hat:=peK_at hil
    refine WK<|TN<|WS<|wp_block<|WS ?_
    have hrc : Rd w.drew B.cb 0 (rcC k1 B A):=hs.drew.rdAll (b:=B.cb)
    have hrh:=hs.drew.rd1 (b:=B.hb) (heC_at hat)
    refine DW (m:=22) (Old w.drew) [15,17,18] [0,1,2,3,4,5,6,7,8,9,10,12,13,14,16,11,15,17,18,19,20,21] Ty.mixed (pk_then (pk_blk (pk_then (pk_then (pk_blk (pk_then pk_body)))))) (fun hpk=>?_)
    replace hs:=hs.drew
    have hC:=Old.refl w.drew
    generalize w.drew=w at hs hC hpk hrc hrh ⊢
    iterate 5 (refine DP hpk ha rfl fun a ha=>?_)
    refine D1 rfl (st_set ha rfl (ex_load1 ha Tryz.underlying3 rfl (hrc 1 _ rfl)) rfl fun a ha=>?_)
    refine ⟨fun h=>absurd h (by decide),?_⟩
    iterate 2 (refine DP hpk ha rfl fun a ha=>?_)
    refine ha.by (s:=34) (fun hg7 ha=>?_) (fun hg7 ha=>?_)
    ·
     iterate 7 (refine DPg (s:=34) hpk ha rfl fun a ha=>?_)
     refine DH hpk ha rfl (wgT ha rfl (s:=34)) (fun w hc=>ex_load1 ha Tryz.underlying3 rfl (hc.cell (hrc 11 _ rfl))) hC fun a ha=>?_
     refine D1 rfl (st_set ha (wgT ha rfl (s:=34)) (ex_load1 ha Tryz.underlying63 rfl (hrc 12 _ rfl)) rfl fun a ha=>?_)
     refine ⟨fun _=>hC,?_⟩
     refine D1 rfl (st_set ha (wgT ha rfl (s:=34)) (ex_indexAddr ha Tryz.underlying63 Ty.t3 (by omega)) rfl fun a ha=>?_)
     refine ⟨fun _=>hC,?_⟩
     rw [Nat.zero_add,Nat.mul_one] at ha
     refine D1 rfl (st_set ha (wgT ha rfl (s:=34)) (ex_load1 ha Tryz.underlying3 rfl (hrh)) rfl fun a ha=>?_)
     refine ⟨fun _=>hC,?_⟩
     refine DQ hpk ha rfl (wgT ha rfl (s:=34)) (fun w=>ex_subI ha (by omega) (by omega)) fun a ha=>?_
     refine DPg (s:=34) hpk ha rfl fun a ha=>?_
     refine DT hpk ha rfl fun a ha=>?_
     refine DD<|TN ?_
     refine WI ha (fun hc2=>?_) (fun hc2=>?_)
     ·
      have hlt : lateP k1 i:=by rw [lateP]; omega
      rw [othersK_find hno hin (by omega) hlt] at hq2
      replace hs:=RefS.fold hs B k1 A
      refine WS<|WR ?_
      iterate 2 (refine S1 ha fun a ha=>?_)
      refine SK (st_call ha rfl Ty.c115 rfl (ref_event (kd:=2) (pl:=i) (fr:=0) hs (by omega)) ?_); clear ha hs
      rintro e w ⟨rfl,hs⟩
      refine ⟨_,rfl,?_⟩
      intro a ha
      refine LN<|TN<|WS ?_
      obtain ⟨A2,D2,hs,hD2⟩:=RefS.cbX hs
      refine WR ?_
      iterate 3 (refine S1 ha fun a ha=>?_)
      refine SK (st_store ha rfl hs Ty.t4 rfl (by simp) fun a w ha hs=>?_)
      refine LN ?_
      replace hs:=hD2 _ _ k1.now true hs
      refine TN<|WS<|WR ?_
      refine S1 ha fun a ha=>?_
      refine LN<|TN<|wp_ret<|BR<|TR<|TR<|BR<|TR ?_
      refine ret1 ha rfl ?_
      rw [hq2]
      exact ⟨none,0,rfl,OwnMl.nil hs⟩
     ·
      refine WK<|BN<|TN<|WR ?_
      refine S1 ha fun a ha=>?_
      refine SK (st_set ha rfl (ex_addI ha (by omega) (by omega)) rfl fun a ha=>?_)
      refine S1d ha fun a ha=>?_
      refine LN<|TN ?_
      exact ⟨k1.n - (i+1),by omega,i+1,⟨rfl,by omega,fun j hj hjm=>by
        by_cases h : j=i
        · subst h; rw [lateP]; omega
        · exact hno j (by omega) hjm⟩,ha.keep [0,3],hs⟩
    ·
     iterate 7 (refine DO (s:=34) hpk ha rfl fun a ha=>?_)
     iterate 4 (refine DOH (s:=34) hpk ha rfl hC fun a ha=>?_)
     iterate 2 (refine DO (s:=34) hpk ha rfl fun a ha=>?_)
     refine DF hpk ha rfl fun a ha=>?_
     refine DD<|TN<|WFa ha<|WK<|BN<|TN<|WR ?_
     refine S1 ha fun a ha=>?_
     refine SK (st_set ha rfl (ex_addI ha (by omega) (by omega)) rfl fun a ha=>?_)
     refine S1d ha fun a ha=>?_
     refine LN<|TN ?_
     exact ⟨k1.n - (i+1),by omega,i+1,⟨rfl,by omega,fun j hj hjm=>by
       by_cases h : j=i
       · omega
       · exact hno j (by omega) hjm⟩,ha.keep [0,3],hs⟩
   ·
    obtain rfl : i=k1.n:=by omega
    rw [othersK_none hno] at hq2
    clear hno
    have hmr:=hk'.mr
    have hme : k1.me < k1.ls.length:=by rw [hk'.ls]; exact hk'.me
    obtain ⟨xs,hxs,hs⟩:=RLn.open (hs.pick (RLn B.lb B.lo B.cL k1.ls))
    have hxl : xs.length=k1.ls.length:=by rw [← hxs,prx_len]
    obtain ⟨y,hy⟩ : ∃ y,xs[k1.me]?=some y:=⟨_,List.getElem?_eq_getElem (by omega)⟩
    have hyq : k1.ls.getD k1.me []=y.2.2:=by rw [← hxs,prx_get hy]
    have hyl : y.2.2.length≤1000:=by rw [← hyq]; exact hk'.headt
    have hyc : y.2.2.length≤y.2.1:=by
      obtain ⟨hyi,hye⟩:=List.getElem?_eq_some_iff.1 hy
      have h1:=((hs.pick (All bbo xs)).allOut hyi)
      rw [hye] at h1
      have h2 : St W w (Sl 5 1 y.1 y.2.2.length y.2.1 (bc y.2.2)::_):=h1
      exact (h2.sl y.1).2
    refine wp_exit<|TE<|TE<|blk_e<|TN<|WS<|WR ?_
    refine S1 ha fun a ha=>?_
    refine LN<|TN<|WS<|WS<|WR ?_
    refine S1 ha fun a ha=>?_
    refine LN ?_
    replace hs:=St.sl0 (St.allNil (f:=mlo) hs) 176 3 none
    refine TN<|wp_block ?_
    refine wp_loop_ghost (fun μ a w=>∃ (i : Nat) (zs : List Mx) (ad : Option Addr) (c : Nat),(μ=k1.n - i∧i≤k1.n∧zs.map (·.2.2)=mlT k1 i∧zs.length≤i)∧Fr a 154 [(0,.pointer (some ⟨B.cb,0,none⟩)),(4,.slice ad zs.length c),(5,.int .i64 i)]∧St W w (Sl 176 3 ad zs.length c (rows mlC zs)::All mlo zs::blk B.cb 127 (rcC k1 B A)::Sl 54 1 (some ⟨B.lb,B.lo,none⟩) k1.ls.length B.cL (xs.map bbv)::All bbo xs::blk B.hb 3 (heC k1.ps)::blk B.ab 3 (haC k1.ps)::blk B.wb 210 (rows wdC k1.ps)::blk B.xb 4 (apC k1.ps)::Sl 38 1 A.adM k1.mr.length A.cM (mrC k1.mr)::Sl 144 3 A.adE k1.ev.length A.cE (rows rawC k1.ev)::L)) (k1.n) ?_ ?_
    · exact ⟨0,[],none,0,⟨(Nat.sub_zero _).symm,Nat.zero_le _,rfl,Nat.le_refl _⟩,ha.keep [0,4,5],(show St W w (Sl 176 3 none ([] : List Mx).length 0 (rows mlC [])::All mlo []::_) from hs).sub⟩
    ·
     clear ha hs
     rintro μ a w ⟨i,zs,ad,c,⟨rfl,hi,hzm,hzl⟩,ha,hs⟩
     refine WS<|WS<|WR ?_
     iterate 5 (refine S1 ha fun a ha=>?_)
     refine SL ha (hs.rd1 (b:=B.cb) rfl) fun a ha=>?_
     refine S1 ha fun a ha=>?_
     refine LN<|TN ?_
     refine WI ha (fun hc3=>?_) (fun hc3=>?_)
     ·
      have hsu : mlT k1 (i+1)=if i=k1.me then mlT k1 i else mlT k1 i++[(k1.me,i,encO (mailPk k1 i))]:=by
        rw [mlT,othN_succ]
        split
        · rfl
        · rw [List.map_append]; rfl
      have hin : i < k1.n:=by omega
      have hil : i < k1.ps.length:=by rw [hk'.ps]; exact hin
      have hpt:=hk'.pet hin
      have hat:=peK_at hil
      obtain ⟨z,hz⟩ : ∃ z,xs[i]?=some z:=⟨_,List.getElem?_eq_getElem (by rw [hxl,hk'.ls]; exact hin)⟩
      have hzq : k1.ls.getD i []=z.2.2:=by rw [← hxs,prx_get hz]
      refine WK<|TN<|WS<|wp_block<|WS<|WS<|WR ?_
      iterate 5 (refine S1 ha fun a ha=>?_)
      refine SL ha (hs.rd1 (b:=B.cb) rfl) fun a ha=>?_
      refine S1 ha fun a ha=>?_
      refine LN<|TN ?_
      refine WI ha (fun hc4=>?_) (fun hc4=>?_)
      ·
       rw [if_pos (by omega)] at hsu
       refine wp_exit<|TE<|blk_e<|TN<|WR ?_
       refine S1 ha fun a ha=>?_
       refine SK (st_set ha rfl (ex_addI ha (by omega) (by omega)) rfl fun a ha=>?_)
       refine S1d ha fun a ha=>?_
       refine LN<|TN ?_
       exact ⟨k1.n - (i+1),by omega,i+1,zs,ad,c,⟨rfl,by omega,by rw [hsu,hzm],by omega⟩,ha.keep [0,4,5],hs⟩
      ·
       rw [if_neg (by omega)] at hsu
       refine WK<|TN ?_
       refine wp_seq_cut (M:=fun a w=>∃ (b6 : Nat) (adp : Option Addr) (cp : Nat),Fr a 154 [(0,.pointer (some ⟨B.cb,0,none⟩)),(4,.slice ad zs.length c),(5,.int .i64 i),(6,.pointer (some ⟨b6,0,none⟩))]∧St W w (blk b6 40 [.int .i64 1,.int .i64 k1.me,.int .i64 i,.int .i64 k1.id,.int .i64 (peK k1 i).has,.slice adp ((y.2.2.drop (peK k1 i).has).take 32).length cp,.int .i64 z.2.2.length,.int .i64 k1.mr.length,.int .u32 0]::Sl 5 1 adp ((y.2.2.drop (peK k1 i).has).take 32).length cp (bc ((y.2.2.drop (peK k1 i).has).take 32))::Sl 176 3 ad zs.length c (rows mlC zs)::All mlo zs::blk B.cb 127 (rcC k1 B A)::Sl 54 1 (some ⟨B.lb,B.lo,none⟩) k1.ls.length B.cL (xs.map bbv)::All bbo xs::blk B.hb 3 (heC k1.ps)::blk B.ab 3 (haC k1.ps)::blk B.wb 210 (rows wdC k1.ps)::blk B.xb 4 (apC k1.ps)::Sl 38 1 A.adM k1.mr.length A.cM (mrC k1.mr)::Sl 144 3 A.adE k1.ev.length A.cE (rows rawC k1.ev)::L)) ?_ ?_
       ·
        refine DW (m:=53) (fun w'=>Rd w' B.cb 0 (rcC k1 B A)∧w'.cell? ⟨B.ab,i,none⟩=some (.int .i64 (peK k1 i).has)∧Rd w' B.lb B.lo (xs.map bbv)) [10,14,16,17,21,26,27,31,33,34,35,39,41,42,43,44,48,49,51] [0,1,2,3,5,6,7,8,9,11,12,13,15,18,19,20,22,23,24,25,28,29,30,32,36,37,38,40,45,46,47,4,10,14,16,17,21,26,27,31,33,34,39,41,42,43,44,48,49,35,50,51,52] Ty.mixed (pk_then (pk_blk (pk_then (pk_then (pk_blk (pk_then pk_body)))))) (fun hpk=>?_)
        replace hs:=hs.drew
        generalize w.drew=w at hs hpk ⊢
        have hC : Rd w B.cb 0 (rcC k1 B A)∧w.cell? ⟨B.ab,i,none⟩=some (.int .i64 (peK k1 i).has)∧Rd w B.lb B.lo (xs.map bbv):=⟨hs.rdAll (b:=B.cb),hs.rd1 (b:=B.ab) (haC_at hat),hs.slRdAt B.lb B.lo (by omega)⟩
        iterate 31 (refine DP hpk ha rfl fun a ha=>?_)
        refine DL hpk ha rfl (fun w hc=>hc.1 1 _ rfl) hC fun a ha=>?_
        refine DL hpk ha rfl (fun w hc=>hc.1 2 _ rfl) hC fun a ha=>?_
        refine DL hpk ha rfl (fun w hc=>hc.1 13 _ rfl) hC fun a ha=>?_
        refine DH hpk ha rfl rfl (fun w hc=>ex_indexAddr ha Tryz.underlying63 Ty.t3 (by omega)) hC fun a ha=>?_
        rw [Nat.zero_add,Nat.mul_one] at ha
        refine DL hpk ha rfl (fun w hc=>hc.2.1) hC fun a ha=>?_
        refine DL hpk ha rfl (fun w hc=>hc.1 10 _ rfl) hC fun a ha=>?_
        refine DL hpk ha rfl (fun w hc=>hc.1 1 _ rfl) hC fun a ha=>?_
        refine DH hpk ha rfl rfl (fun w hc=>ex_indexAddr ha Tryz.underlying55 Ty.t54 hme) hC fun a ha=>?_
        rw [Nat.mul_one] at ha
        refine DL hpk ha rfl (fun w hc=>hc.1 13 _ rfl) hC fun a ha=>?_
        refine DH hpk ha rfl rfl (fun w hc=>ex_indexAddr ha Tryz.underlying63 Ty.t3 (by omega)) hC fun a ha=>?_
        rw [Nat.zero_add,Nat.mul_one] at ha
        refine DL hpk ha rfl (fun w hc=>hc.2.1) hC fun a ha=>?_
        refine DL hpk ha rfl (fun w hc=>hc.1 10 _ rfl) hC fun a ha=>?_
        refine DH hpk ha rfl rfl (fun w hc=>ex_indexAddr ha Tryz.underlying55 Ty.t54 (by rw [hk'.ls]; exact hin)) hC fun a ha=>?_
        rw [Nat.mul_one] at ha
        refine DH hpk ha rfl rfl (fun w hc=>ex_fieldAddr (k:=0) ha Tryz.underlying54 rfl Ty.t22 rfl) hC fun a ha=>?_
        refine DL hpk ha rfl (fun w hc=>hc.2.2 i (bbv z) (by rw [List.getElem?_map,hz]; rfl)) hC fun a ha=>?_
        rw [bbv] at ha
        refine DH hpk ha rfl rfl (fun w hc=>ex_len ha Tryz.underlying22) hC fun a ha=>?_
        refine DL hpk ha rfl (fun w hc=>hc.1 16 _ rfl) hC fun a ha=>?_
        refine DH hpk ha rfl rfl (fun w hc=>ex_len ha Tryz.underlying109) hC fun a ha=>?_
        refine D2 (i:=35) (j:=51) [50,51,52] [35,50,52] (by kernel_rfl) rfl rfl ?_ ?_
        ·
         refine st_call ha rfl Ty.c116 rfl (ref_fromX (q:=y.2.2) (adq:=y.1) (cq:=y.2.1) (m:=32) hs (by have h9:=hC.2.2 k1.me (bbv y) (by rw [List.getElem?_map,hy]; rfl); exact h9) hyc (fun w' hw=>(St.rdXe (hw.sub (M:=Sl 54 1 (some ⟨B.lb,B.lo,none⟩) k1.ls.length B.cL (xs.map bbv)::All bbo xs::[]))).2 y (List.mem_of_getElem? hy)) hyl hpt.1 (by decide)) ?_; clear ha hs
         rintro e w ⟨adp,cp,rfl,hs⟩
         refine ⟨_,rfl,?_⟩
         intro a ha
         replace hC : (fun w'=>Rd w' B.cb 0 (rcC k1 B A)∧w'.cell? ⟨B.ab,i,none⟩=some (.int .i64 (peK k1 i).has)∧Rd w' B.lb B.lo (xs.map bbv)) w:=⟨hs.rdAll (b:=B.cb),hs.rd1 (b:=B.ab) (haC_at hat),hs.slRdAt B.lb B.lo (by omega)⟩
         refine ⟨fun _=>hC,?_⟩
         refine DQ hpk ha rfl rfl (fun w=>ex_build ha Ty.b40 Ty.t40 rfl) fun a ha=>?_
         refine D1 rfl (st_alloc ha rfl hs Ty.t40 rfl fun b6 a w ha hs ho=>?_)
         (try replace hC:=hC.trans ho); clear ho
         replace hC : (fun w'=>Rd w' B.cb 0 (rcC k1 B A)∧w'.cell? ⟨B.ab,i,none⟩=some (.int .i64 (peK k1 i).has)∧Rd w' B.lb B.lo (xs.map bbv)) w:=⟨hs.rdAll (b:=B.cb),hs.rd1 (b:=B.ab) (haC_at hat),hs.slRdAt B.lb B.lo (by omega)⟩
         refine ⟨fun _=>hC,?_⟩
         refine D1 rfl (st_storeAll ha rfl hs Ty.t40 (by simp [Value.oneCell']) (by rfl) fun a w ha hs=>?_)
         refine ⟨fun h=>absurd h (by decide),?_⟩
         refine DD<|TN ?_
         exact ⟨b6,adp,cp,ha.keep [0,4,5,6],hs.sub⟩
        ·
         refine st_alloc ha rfl hs Ty.t40 rfl fun b6 a w ha hs ho=>?_
         (try replace hC:=hC.trans ho); clear ho
         replace hC : (fun w'=>Rd w' B.cb 0 (rcC k1 B A)∧w'.cell? ⟨B.ab,i,none⟩=some (.int .i64 (peK k1 i).has)∧Rd w' B.lb B.lo (xs.map bbv)) w:=⟨hs.rdAll (b:=B.cb),hs.rd1 (b:=B.ab) (haC_at hat),hs.slRdAt B.lb B.lo (by omega)⟩
         refine ⟨fun _=>hC,?_⟩
         refine D1 rfl (st_call ha rfl Ty.c116 rfl (ref_fromX (q:=y.2.2) (adq:=y.1) (cq:=y.2.1) (m:=32) hs (by have h9:=hC.2.2 k1.me (bbv y) (by rw [List.getElem?_map,hy]; rfl); exact h9) hyc (fun w' hw=>(St.rdXe (hw.sub (M:=Sl 54 1 (some ⟨B.lb,B.lo,none⟩) k1.ls.length B.cL (xs.map bbv)::All bbo xs::[]))).2 y (List.mem_of_getElem? hy)) hyl hpt.1 (by decide)) ?_); clear ha hs
         rintro e w ⟨adp,cp,rfl,hs⟩
         refine ⟨_,rfl,?_⟩
         intro a ha
         replace hC : (fun w'=>Rd w' B.cb 0 (rcC k1 B A)∧w'.cell? ⟨B.ab,i,none⟩=some (.int .i64 (peK k1 i).has)∧Rd w' B.lb B.lo (xs.map bbv)) w:=⟨hs.rdAll (b:=B.cb),hs.rd1 (b:=B.ab) (haC_at hat),hs.slRdAt B.lb B.lo (by omega)⟩
         refine ⟨fun _=>hC,?_⟩
         refine DQ hpk ha rfl rfl (fun w=>ex_build ha Ty.b40 Ty.t40 rfl) fun a ha=>?_
         refine D1 rfl (st_storeAll ha rfl hs Ty.t40 (by simp [Value.oneCell']) (by rfl) fun a w ha hs=>?_)
         refine ⟨fun h=>absurd h (by decide),?_⟩
         refine DD<|TN ?_
         exact ⟨b6,adp,cp,ha.keep [0,4,5,6],hs.sub⟩
       ·
        clear ha; (try clear hs)
        intro a w hcut
        obtain ⟨b6,adp,cp,ha,hs⟩:=hcut
        refine wp_seq_cut (M:=fun a w=>Fr a 154 [(0,.pointer (some ⟨B.cb,0,none⟩)),(4,.slice ad zs.length c),(5,.int .i64 i),(6,.pointer (some ⟨b6,0,none⟩))]∧St W w (blk b6 40 [.int .i64 1,.int .i64 k1.me,.int .i64 i,.int .i64 k1.id,.int .i64 (peK k1 i).has,.slice adp ((y.2.2.drop (peK k1 i).has).take 32).length cp,.int .i64 z.2.2.length,.int .i64 k1.mr.length,.int .u32 (k1.mr.getLastD 0 : Nat)]::Sl 5 1 adp ((y.2.2.drop (peK k1 i).has).take 32).length cp (bc ((y.2.2.drop (peK k1 i).has).take 32))::Sl 176 3 ad zs.length c (rows mlC zs)::All mlo zs::blk B.cb 127 (rcC k1 B A)::Sl 54 1 (some ⟨B.lb,B.lo,none⟩) k1.ls.length B.cL (xs.map bbv)::All bbo xs::blk B.hb 3 (heC k1.ps)::blk B.ab 3 (haC k1.ps)::blk B.wb 210 (rows wdC k1.ps)::blk B.xb 4 (apC k1.ps)::Sl 38 1 A.adM k1.mr.length A.cM (mrC k1.mr)::Sl 144 3 A.adE k1.ev.length A.cE (rows rawC k1.ev)::L)) ?_ ?_
        ·
         refine WS<|WR ?_
         iterate 3 (refine S1 ha fun a ha=>?_)
         refine SL ha (hs.rd1 (b:=B.cb) rfl) fun a ha=>?_
         iterate 2 (refine S1 ha fun a ha=>?_)
         refine LN<|TN ?_
         refine WI ha (fun hc5=>?_) (fun hc5=>?_)
         ·
          obtain ⟨bm,om,hme2,hrm⟩:=((hs.drew).pick (Sl 38 1 A.adM k1.mr.length A.cM (mrC k1.mr))).slRd A.adM (by omega)
          have hrc : w.drew.cell? ⟨B.cb,16,none⟩=some (.slice A.adM k1.mr.length A.cM):=hs.drew.rd1 (b:=B.cb) rfl
          rw [hme2] at hrc
          refine DW (m:=14) (Old w.drew) [7,8,9] [0,1,2,4,5,6,3,7,8,9,10,11,12,13] Ty.mixed (pk_then (pk_blk (pk_then (pk_then (pk_blk (pk_then pk_body)))))) (fun hpk=>?_)
          replace hs:=hs.drew
          have hC:=Old.refl w.drew
          generalize w.drew=w at hs hC hpk hrm hrc ⊢
          iterate 6 (refine DP hpk ha rfl fun a ha=>?_)
          refine DL hpk ha rfl (fun w hc=>hc.cell (hrc)) hC fun a ha=>?_
          refine D1 rfl (st_set ha rfl (ex_load1 ha Tryz.underlying109 rfl (hrc)) rfl fun a ha=>?_)
          refine ⟨fun _=>hC,?_⟩
          refine D1 rfl (st_set ha rfl (ex_len ha Tryz.underlying109) rfl fun a ha=>?_)
          refine ⟨fun _=>hC,?_⟩
          refine D1 rfl (st_set ha rfl (ex_subI ha (by omega) (by omega)) rfl fun a ha=>?_)
          refine ⟨fun _=>hC,?_⟩
          rw [show ((k1.mr.length : Nat) : Int) - 1=((k1.mr.length - 1 : Nat) : Int) from by omega] at ha
          refine DQ hpk ha rfl rfl (fun w=>ex_indexAddr ha Tryz.underlying109 Ty.t38 (by omega)) fun a ha=>?_
          rw [Nat.mul_one] at ha
          refine D1 rfl (st_set ha rfl (ex_load1 ha Tryz.underlying38 rfl (hrm (k1.mr.length - 1) _ (mrC_get (by omega)))) rfl fun a ha=>?_)
          refine ⟨fun h=>absurd h (by decide),?_⟩
          refine DP hpk ha rfl fun a ha=>?_
          refine D1 rfl (st_store ha rfl hs Ty.t38 rfl (by simp) fun a w ha hs=>?_)
          refine ⟨fun h=>absurd h (by decide),?_⟩
          refine DD<|TN ?_
          rw [lastD_get (by omega)] at hs
          exact ⟨ha.keep [0,4,5,6],hs.sub⟩
         ·
          refine WK<|TN ?_
          have h0 : k1.mr.getLastD 0=0:=by rw [List.eq_nil_of_length_eq_zero (l:=k1.mr) (by omega)]; rfl
          exact ⟨ha.keep [0,4,5,6],by rw [h0]; exact hs⟩
        ·
         clear ha; (try clear hs)
         intro a w hcut
         obtain ⟨ha,hs⟩:=hcut
         have hmp : pkC (mailPk k1 i) adp cp=[.int .i64 1,.int .i64 k1.me,.int .i64 i,.int .i64 k1.id,.int .i64 (peK k1 i).has,.slice adp ((y.2.2.drop (peK k1 i).has).take 32).length cp,.int .i64 z.2.2.length,.int .i64 k1.mr.length,.int .u32 (k1.mr.getLastD 0 : Nat)]:=by
           rw [← hyq,← hzq]; rfl
         have hmpp : (mailPk k1 i).press=(y.2.2.drop (peK k1 i).has).take 32:=by rw [← hyq]; rfl
         rw [← hmp] at hs
         refine DW (m:=13) (fun w'=>Rd w' B.cb 0 (rcC k1 B A)∧Rd w' b6 0 (pkC (mailPk k1 i) adp cp)) [7,8] [0,1,2,3,4,6,5,7,8,9,10,11,12] Ty.mixed (pk_blk (pk_then (pk_then (pk_blk (pk_then pk_body))))) (fun hpk=>?_)
         replace hs:=hs.drew
         generalize w.drew=w at hs hpk ⊢
         have hC : Rd w B.cb 0 (rcC k1 B A)∧Rd w b6 0 (pkC (mailPk k1 i) adp cp):=⟨hs.rdAll (b:=B.cb),hs.rdAll (b:=b6)⟩
         iterate 6 (refine DP hpk ha rfl fun a ha=>?_)
         refine DL hpk ha rfl (fun w hc=>hc.1 1 _ rfl) hC fun a ha=>?_
         refine D1 rfl (st_set ha rfl (ex_loadN ha Tryz.underlying40 rfl Ty.t40 (hC.2)) rfl fun a ha=>?_)
         replace hC : (fun w'=>Rd w' B.cb 0 (rcC k1 B A)∧Rd w' b6 0 (pkC (mailPk k1 i) adp cp)) w:=hC
         refine ⟨fun _=>hC,?_⟩
         refine D1 rfl (st_call ha rfl Ty.c16 rfl (refPacket_spec (p:=mailPk k1 i) (ad:=adp) (c:=cp) hs (by
           show k1.mr.getLastD 0 < 4294967296
           rw [List.getLastD_eq_getLast?]
           cases hl : k1.mr.getLast? with
           | none=>decide
           | some s=>exact hk'.mrs s (List.mem_of_getLast? hl)) (fun w' hw=>by
           have h9:=(hw.pick (Sl 5 1 adp ((y.2.2.drop (peK k1 i).has).take 32).length cp (bc ((y.2.2.drop (peK k1 i).has).take 32)))).rdB adp _ rfl rfl
           rw [hmpp]; exact h9)) ?_); clear ha hs
         rintro e w ⟨ad2,c2,rfl,hs⟩
         refine ⟨_,rfl,?_⟩
         intro a ha
         replace hC : (fun w'=>Rd w' B.cb 0 (rcC k1 B A)∧Rd w' b6 0 (pkC (mailPk k1 i) adp cp)) w:=⟨hs.rdAll (b:=B.cb),hs.rdAll (b:=b6)⟩
         refine ⟨fun _=>hC,?_⟩
         refine DQ hpk ha rfl rfl (fun w=>ex_build ha Ty.b176 Ty.t176 rfl) fun a ha=>?_
         refine D1 rfl (st_buildSlice ha rfl hs Tryz.underlying119 Ty.t176 rfl rfl rfl rfl (by decide) (by decide) fun b151 a w ha hs ho=>?_)
         (try replace hC:=hC.trans ho); clear ho
         refine ⟨fun h=>absurd h (by decide),?_⟩
         refine D1 rfl (st_append ha rfl hs Tryz.underlying119 Ty.t176 rfl rfl hs.rdAll rfl (by simp [Value.oneCell']) (by decide) (by decide) (by omega) fun ad152 c152 a w ha hs=>?_)
         refine ⟨fun h=>absurd h (by decide),?_⟩
         rw [show rows mlC zs++_=rows mlC (zs++[(ad2,c2,(k1.me,i,encO (mailPk k1 i)))]) from by rw [rows_app]; rfl,show zs.length+1=(zs++[(ad2,c2,(k1.me,i,encO (mailPk k1 i)))]).length from by simp] at hs
         rw [show zs.length+1=(zs++[(ad2,c2,(k1.me,i,encO (mailPk k1 i)))]).length from by simp] at ha
         replace ha:=ha.del 4
         refine DP hpk ha rfl fun a ha=>?_
         refine DD<|BN<|TN<|WR ?_
         refine S1 ha fun a ha=>?_
         refine SK (st_set ha rfl (ex_addI ha (by omega) (by omega)) rfl fun a ha=>?_)
         refine S1d ha fun a ha=>?_
         refine LN<|TN ?_
         have hs2:=St.allPush (f:=mlo) (x:=(ad2,c2,(k1.me,i,encO (mailPk k1 i)))) (hs.sub (M:=Sl 5 1 ad2 (encO (mailPk k1 i)).length c2 (bc (encO (mailPk k1 i)))::All mlo zs::Sl 176 3 ad152 (zs++[(ad2,c2,(k1.me,i,encO (mailPk k1 i)))]).length c152 (rows mlC (zs++[(ad2,c2,(k1.me,i,encO (mailPk k1 i)))]))::blk B.cb 127 (rcC k1 B A)::Sl 54 1 (some ⟨B.lb,B.lo,none⟩) k1.ls.length B.cL (xs.map bbv)::All bbo xs::blk B.hb 3 (heC k1.ps)::blk B.ab 3 (haC k1.ps)::blk B.wb 210 (rows wdC k1.ps)::blk B.xb 4 (apC k1.ps)::Sl 38 1 A.adM k1.mr.length A.cM (mrC k1.mr)::Sl 144 3 A.adE k1.ev.length A.cE (rows rawC k1.ev)::L))
         exact ⟨k1.n - (i+1),by omega,i+1,zs++[(ad2,c2,(k1.me,i,encO (mailPk k1 i)))],ad152,c152,⟨rfl,by omega,by rw [List.map_append,hzm,hsu]; rfl,by rw [List.length_append]; simp; omega⟩,ha.keep [0,4,5],hs2.sub⟩
     ·
      obtain rfl : i=k1.n:=by omega
      refine wp_exit<|TE<|TE<|blk_e<|TN<|WS<|WR ?_
      iterate 2 (refine S1 ha fun a ha=>?_)
      refine LN<|TN<|wp_ret ?_
      refine ret1 ha rfl ?_
      have hll : zs.length=((othersK k1).map fun i=>(k1.me,i,encO (mailPk k1 i))).length:=by
        have h1 : (zs.map (·.2.2)).length=(mlT k1 k1.n).length:=by rw [hzm]
        rw [List.length_map] at h1
        exact h1
      rw [hq2]
      refine ⟨ad,c,by rw [hll],?_⟩
      rw [hll] at hs
      have h4:=RLn.close (xs:=xs) (ls:=k1.ls) (lb:=B.lb) (lo:=B.lo) (c:=B.cL) (W:=W) (w:=w) (L:=Sl 176 3 ad ((othersK k1).map fun i=>(k1.me,i,encO (mailPk k1 i))).length c (rows mlC zs)::All mlo zs::blk B.cb 127 (rcC k1 B A)::blk B.hb 3 (heC k1.ps)::blk B.ab 3 (haC k1.ps)::blk B.wb 210 (rows wdC k1.ps)::blk B.xb 4 (apC k1.ps)::Sl 38 1 A.adM k1.mr.length A.cM (mrC k1.mr)::Sl 144 3 A.adE k1.ev.length A.cE (rows rawC k1.ev)::L) hs.sub hxs
      have h5:=(RefS.fold h4 B k1 A)
      exact OwnMl.close (xs:=zs) h5.sub hzm rfl
end
end Go.Proofs.YtagpkhbkdbaigaaGreat
/- quintainref21.Receive. -/
namespace Go.Proofs.YtagpkhbkdbaigaaGreat
open Go.RowKit
set_option linter.unusedVariables false
set_option linter.unusedSimpArgs false
set_option maxRecDepth 10000
set_option synthInstance.maxSize 4000
set_option synthInstance.maxHeartbeats 400000
section
variable {W w : World} {L L' R : List SP} {n c m lb lo i f cl to : Nat} {ad : Option Addr} {ls : List (List UInt8)} {k : Ks} {A : RcA} {B : RcB} {x : UInt8} {bs : List UInt8} {e : Evt} {cf : Cf}
theorem max_int {a b : Nat} : ((max a b : Nat) : Int)=max (a : Int) (b : Int):=by omega
theorem rcC_ls {l : List (List UInt8)} (h : l.length=k.ls.length) (ps : List Pe) : rcC { k with ls:=l,ps:=ps } B A=rcC k B A:=by simp only [rcC,h]
theorem RefS.foldL (hs : St W w L) (B : RcB) (k : Ks) (A : RcA) {l : List (List UInt8)} (h : l.length=k.ls.length) [kk : Arr L [blk B.cb 127 (rcC k B A),RLn B.lb B.lo B.cL l,blk B.hb 3 (heC k.ps),blk B.ab 3 (haC k.ps),blk B.wb 210 (rows wdC k.ps),blk B.xb 4 (apC k.ps),Sl 38 1 A.adM k.mr.length A.cM (mrC k.mr),Sl 144 3 A.adE k.ev.length A.cE (rows rawC k.ev)] R] : St W w (RefS B { k with ls:=l }::R):=by
 have h1:=hs.perm kk.perm
 rw [← rcC_ls (l:=l) h k.ps] at h1
 exact St.shut (M:=[_,_,_,_,_,_,_,_]) h1 fun _ h=>⟨A,h⟩
set_option maxHeartbeats 2000000 in
theorem ref_receive (hs : St W w (RefS B k::L)) (hk : WC k) (hh : held k) (hb : bs.length≤65536) (hc : bs.length≤c) (hp : ∀ w',St W w' L→RdB w' ad bs.length bs) :
   Calls Tryz.prog 117 #[.pointer (some ⟨B.cb,0,none⟩),.slice ad bs.length c] w fun r w'=>r=.returned (.int .i64 (recvK bs k).1)∧St W w' (RefS B (recvK bs k).2::L):=by
 have hn:=hk.n
 obtain ⟨A0,hs⟩:=RefS.open hs
 refine calls_enter Tryz.func117 rfl Tryz.ntmps117 (Nat.le_of_ble_eq_true rfl) ?_
 intro a ha
 replace ha : Fr a 135 [(0,_),(1,_)]:=ha
 refine WS<|WR ?_
 refine S1 ha fun a ha=>?_
 refine LN<|TN<|WS<|WS<|WR ?_
 iterate 3 (refine S1 ha fun a ha=>?_)
 refine SL ha (hs.rd1 (b:=B.cb) rfl) fun a ha=>?_
 refine LN<|TN ?_
 refine WI ha (fun hc0=>?_) (fun hc0=>?_)
 ·
  replace hs:=RefS.fold hs B k A0
  refine WS<|WR ?_
  refine S1d ha fun a ha=>?_
  refine LN<|TN<|wp_ret<|TR ?_
  refine ret1 ha rfl ?_
  exact ⟨by rw [recv_cl hc0],by rw [recv_cl hc0]; exact hs.sub⟩
 ·
  replace hs:=RefS.fold hs B k A0
  refine WK<|TN<|WS<|WR ?_
  refine S1 ha fun a ha=>?_
  refine SK (st_call ha rfl Ty.c143 rfl (refUnpacket_spec (hs.pick (RefS B k)) hb hc (fun w' hw=>hp w' hw.tail)) ?_); clear ha hs
  rintro e w ⟨p,adP,cP,ok,rfl,hdt,hdf,hs⟩
  refine ⟨_,rfl,?_⟩
  intro a ha
  iterate 3 (refine S1 ha fun a ha=>?_)
  refine SK (st_alloc ha rfl hs Ty.t40 rfl fun b5 a w ha hs ho=>?_)
  clear ho
  refine SK (st_storeAll ha rfl hs Ty.t40 (pkC_one p adP cP) (by rfl) fun a w ha hs=>?_)
  refine S1 ha fun a ha=>?_
  refine LN<|TN<|WS<|WS ?_
  obtain ⟨A,hs⟩:=RefS.open (hs.pick (RefS B k))
  refine DW (m:=32) (Old w.drew) [9,19,29] [0,1,2,3,5,6,7,8,4,9,10,11,12,13,15,16,17,18,14,19,20,21,22,23,25,26,27,28,24,29,30,31] Ty.mixed (pk_then (pk_then pk_body)) (fun hpk=>?_)
  replace hs:=hs.drew
  have hC:=Old.refl w.drew
  generalize w.drew=w at hs hC hpk ⊢
  iterate 3 (refine DP hpk ha rfl fun a ha=>?_)
  refine ha.by (s:=18) (fun hg2 ha=>?_) (fun hg2 ha=>?_)
  ·
   have hok : ok=false:=by revert hg2; cases ok <;> simp
   have hdn : decO bs=none:=hdf hok
   iterate 5 (refine DO (s:=18) hpk ha rfl fun a ha=>?_)
   iterate 2 (refine DOH (s:=18) hpk ha rfl hC fun a ha=>?_)
   refine DO (s:=18) hpk ha rfl fun a ha=>?_
   refine DT hpk ha rfl fun a ha=>?_
   refine DP hpk ha rfl fun a ha=>?_
   iterate 5 (refine DO (s:=28) hpk ha rfl fun a ha=>?_)
   iterate 2 (refine DOH (s:=28) hpk ha rfl hC fun a ha=>?_)
   refine DO (s:=28) hpk ha rfl fun a ha=>?_
   refine DT hpk ha rfl fun a ha=>?_
   refine DP hpk ha rfl fun a ha=>?_
   iterate 5 (refine DO (s:=38) hpk ha rfl fun a ha=>?_)
   iterate 2 (refine DOH (s:=38) hpk ha rfl hC fun a ha=>?_)
   refine DO (s:=38) hpk ha rfl fun a ha=>?_
   refine DT hpk ha rfl fun a ha=>?_
   refine DD<|TN<|WTr ha<|WS<|WR ?_
   refine S1d ha fun a ha=>?_
   refine LN<|TN<|wp_ret<|TR ?_
   refine ret1 ha rfl ?_
   rw [recv_none hc0 hdn]; exact ⟨rfl,(RefS.fold hs B k A).sub⟩
  ·
   have hok : ok=true:=by revert hg2; cases ok <;> simp
   have hds : decO bs=some p:=hdt hok
   obtain ⟨hmay,hps,_⟩:=decO_is hds
   have hfr0:=hmay.1
   iterate 5 (refine DPg (s:=18) hpk ha rfl fun a ha=>?_)
   refine DH hpk ha rfl (wgT ha rfl (s:=18)) (fun w hc=>ex_load1 ha Tryz.underlying3 rfl (hc.cell (hs.rd1 rfl))) hC fun a ha=>?_
   refine D1 rfl (st_set ha (wgT ha rfl (s:=18)) (ex_load1 ha Tryz.underlying3 rfl (hs.rd1 (b:=B.cb) rfl)) rfl fun a ha=>?_)
   refine ⟨fun _=>hC,?_⟩
   refine DPg (s:=18) hpk ha rfl fun a ha=>?_
   refine DF hpk ha rfl fun a ha=>?_
   refine DP hpk ha rfl fun a ha=>?_
   refine ha.by (s:=28) (fun hg12 ha=>?_) (fun hg12 ha=>?_)
   ·
    iterate 5 (refine DO (s:=28) hpk ha rfl fun a ha=>?_)
    iterate 2 (refine DOH (s:=28) hpk ha rfl hC fun a ha=>?_)
    refine DO (s:=28) hpk ha rfl fun a ha=>?_
    refine DT hpk ha rfl fun a ha=>?_
    refine DP hpk ha rfl fun a ha=>?_
    iterate 5 (refine DO (s:=38) hpk ha rfl fun a ha=>?_)
    iterate 2 (refine DOH (s:=38) hpk ha rfl hC fun a ha=>?_)
    refine DO (s:=38) hpk ha rfl fun a ha=>?_
    refine DT hpk ha rfl fun a ha=>?_
    refine DD<|TN<|WTr ha<|WS<|WR ?_
    refine S1d ha fun a ha=>?_
    refine LN<|TN<|wp_ret<|TR ?_
    refine ret1 ha rfl ?_
    rw [recv_other hc0 hds (.inl hg12)]; exact ⟨rfl,(RefS.fold hs B k A).sub⟩
   ·
    iterate 5 (refine DPg (s:=28) hpk ha rfl fun a ha=>?_)
    refine DH hpk ha rfl (wgT ha rfl (s:=28)) (fun w hc=>ex_load1 ha Tryz.underlying3 rfl (hc.cell (hs.rd1 rfl))) hC fun a ha=>?_
    refine D1 rfl (st_set ha (wgT ha rfl (s:=28)) (ex_load1 ha Tryz.underlying3 rfl (hs.rd1 (b:=B.cb) rfl)) rfl fun a ha=>?_)
    refine ⟨fun _=>hC,?_⟩
    refine DPg (s:=28) hpk ha rfl fun a ha=>?_
    refine DF hpk ha rfl fun a ha=>?_
    refine DP hpk ha rfl fun a ha=>?_
    refine ha.by (s:=38) (fun hg22 ha=>?_) (fun hg22 ha=>?_)
    ·
     iterate 5 (refine DO (s:=38) hpk ha rfl fun a ha=>?_)
     iterate 2 (refine DOH (s:=38) hpk ha rfl hC fun a ha=>?_)
     refine DO (s:=38) hpk ha rfl fun a ha=>?_
     refine DT hpk ha rfl fun a ha=>?_
     refine DD<|TN<|WTr ha<|WS<|WR ?_
     refine S1d ha fun a ha=>?_
     refine LN<|TN<|wp_ret<|TR ?_
     refine ret1 ha rfl ?_
     rw [recv_other hc0 hds (.inr (.inl hg22))]; exact ⟨rfl,(RefS.fold hs B k A).sub⟩
    ·
     iterate 5 (refine DPg (s:=38) hpk ha rfl fun a ha=>?_)
     refine DH hpk ha rfl (wgT ha rfl (s:=38)) (fun w hc=>ex_load1 ha Tryz.underlying2 rfl (hc.cell (hs.rd1 rfl))) hC fun a ha=>?_
     refine D1 rfl (st_set ha (wgT ha rfl (s:=38)) (ex_load1 ha Tryz.underlying2 rfl (hs.rd1 (b:=B.cb) rfl)) rfl fun a ha=>?_)
     refine ⟨fun _=>hC,?_⟩
     refine DPg (s:=38) hpk ha rfl fun a ha=>?_
     refine DF hpk ha rfl fun a ha=>?_
     refine DD<|TN ?_
     refine WI ha (fun hc1=>?_) (fun hc1=>?_)
     ·
      refine WS<|WR ?_
      refine S1d ha fun a ha=>?_
      refine LN<|TN<|wp_ret<|TR ?_
      refine ret1 ha rfl ?_
      rw [recv_other hc0 hds (.inr (.inr hc1))]; exact ⟨rfl,(RefS.fold hs B k A).sub⟩
     ·
      have hno : ¬ (p.to≠k.me∨(k.n : Int)≤p.from'∨p.id≠k.id):=by
        rintro (h | h | h)
        · exact h hg12
        · omega
        · exact h hc1
      rw [recv_yes hc0 hds hno]
      clear hdt hdf hok
      obtain ⟨fr,hfr⟩:=Int.eq_ofNat_of_zero_le hfr0.1
      have hfn : fr < k.n:=by omega
      have hfl : fr < k.ls.length:=by rw [hk.ls]; exact hfn
      have hfp : fr < k.ps.length:=by rw [hk.ps]; exact hfn
      have hfm : fr≠k.me:=by have:=hmay.2.2.1; omega
      have hpt:=hk.pet hfn
      have hft : p.from'.toNat=fr:=by omega
      have hat:=peK_at hfp
      refine WK<|TN<|WS ?_
      refine DW (m:=12) (Old w.drew) [5,9] [0,1,2,4,6,7,8,3,5,9,10,11] Ty.mixed (pk_then pk_body) (fun hpk=>?_)
      replace hs:=hs.drew
      have hC:=Old.refl w.drew
      generalize w.drew=w at hs hC hpk ⊢
      iterate 7 (refine DP hpk ha rfl fun a ha=>?_)
      refine DL hpk ha rfl (fun w hc=>hc.cell (hs.rd1 (b:=B.cb) rfl)) hC fun a ha=>?_
      refine DL hpk ha rfl (fun w hc=>hc.cell (hs.rd1 (b:=b5) rfl)) hC fun a ha=>?_
      rw [hfr] at ha
      refine D1 rfl (st_set ha rfl (ex_load1 ha Tryz.underlying3 rfl (hs.rd1 (b:=B.cb) rfl)) rfl fun a ha=>?_)
      refine ⟨fun _=>hC,?_⟩
      refine DQ hpk ha rfl rfl (fun w=>ex_indexAddr ha Tryz.underlying63 Ty.t3 (by omega)) fun a ha=>?_
      rw [Nat.zero_add,Nat.mul_one] at ha
      refine D1 rfl (st_store ha rfl hs Ty.t3 rfl (by rw [heC,List.length_map]; exact hfp) fun a w ha hs=>?_)
      refine ⟨fun h=>absurd h (by decide),?_⟩
      rw [heC_set { peK k fr with heard:=k.now } rfl,← haC_keep hat { peK k fr with heard:=k.now } rfl,← wdC_keep hat { peK k fr with heard:=k.now } rfl rfl,← apC_keep hat { peK k fr with heard:=k.now } rfl] at hs
      have hk2:=hk.peer (q:={ peK k fr with heard:=k.now }) hfn ⟨hpt.1,hpt.2.2⟩ (Nat.le_refl _) rfl
      have hpe3 : (k.ps.set fr { peK k fr with heard:=k.now })[fr]?=some { peK k fr with heard:=k.now }:=List.getElem?_set_self hfp
      replace hs:=RefS.fold hs B { k with ps:=k.ps.set fr { peK k fr with heard:=k.now } } A
      refine DD<|TN ?_
      refine wp_seq_cut (M:=fun a w=>∃ k4 : Ks,(k4=(if p.kind=2 then { k with ps:=k.ps.set fr { peK k fr with heard:=k.now },ev:=k.ev++[(1,fr,0)],cl:=true } else { k with ls:=k.ls.set fr (putLn (k.ls.getD fr []) p.first.toNat p.press),ps:=k.ps.set fr (hearP k.now (headK k) p (peK k fr)) })∧WC k4)∧Fr a 135 [(0,.pointer (some ⟨B.cb,0,none⟩))]∧St W w (RefS B k4::L)) ?_ ?_
      ·
       refine WS<|WR ?_
       refine S1 ha fun a ha=>?_
       refine SL ha (hs.rd1 (b:=b5) rfl) fun a ha=>?_
       refine S1 ha fun a ha=>?_
       refine LN<|TN ?_
       refine WI ha (fun hc2=>?_) (fun hc2=>?_)
       ·
        refine WS<|WR ?_
        iterate 2 (refine S1 ha fun a ha=>?_)
        refine SL ha (hs.rd1 (b:=b5) rfl) fun a ha=>?_
        rw [hfr] at ha
        refine SK (st_call ha rfl Ty.c115 rfl (ref_event (kd:=1) (pl:=fr) (fr:=0) hs (by have:=hk.evl; show k.ev.length≤100; omega)) ?_); clear ha hs
        rintro e w ⟨rfl,hs⟩
        refine ⟨_,rfl,?_⟩
        intro a ha
        refine LN<|TN ?_
        obtain ⟨A2,D,hs,hD⟩:=RefS.cbX hs
        refine WR ?_
        iterate 3 (refine S1 ha fun a ha=>?_)
        refine SK (st_store ha rfl hs Ty.t4 rfl (by simp) fun a w ha hs=>?_)
        refine LN ?_
        replace hs:=hD _ _ k.now true hs
        refine TN ?_
        exact ⟨_,⟨by rw [if_pos hc2],by have h9:=(hk.hear hmay hps (by omega) hc0).1; rw [hearK,if_pos hc2,hft] at h9; exact h9⟩,ha.keep [0],hs.sub⟩
       ·
        refine WS ?_
        have hk1 : frP p.first∧frP p.ack∧frP p.frame∧p.press.length≤32:=by
          rcases hmay.2.2.2.2 with h | h
          · exact h.2
          · exact absurd h.1 hc2
        simp only [frP] at hk1
        obtain ⟨fi,hfi⟩:=Int.eq_ofNat_of_zero_le hk1.1.1
        obtain ⟨ak,hak⟩:=Int.eq_ofNat_of_zero_le hk1.2.1.1
        obtain ⟨fm,hfm2⟩:=Int.eq_ofNat_of_zero_le hk1.2.2.1.1
        have hfi2 : p.first.toNat=fi:=by omega
        obtain ⟨A2,hs⟩:=RefS.open hs
        refine DW (m:=12) (Old w.drew) [5,8,10] [0,1,2,4,7,9,3,5,6,8,10,11] Ty.mixed (pk_then (pk_then pk_body)) (fun hpk=>?_)
        replace hs:=hs.drew
        have hC:=Old.refl w.drew
        generalize w.drew=w at hs hC hpk ⊢
        iterate 6 (refine DP hpk ha rfl fun a ha=>?_)
        refine DL hpk ha rfl (fun w hc=>hc.cell (hs.rd1 (b:=B.cb) rfl)) hC fun a ha=>?_
        refine DL hpk ha rfl (fun w hc=>hc.cell (hs.rd1 (b:=b5) rfl)) hC fun a ha=>?_
        rw [hfr] at ha
        refine DQ hpk ha rfl rfl (fun w=>ex_indexAddr ha Tryz.underlying55 Ty.t54 (by omega)) fun a ha=>?_
        rw [Nat.mul_one] at ha
        refine DL hpk ha rfl (fun w hc=>hc.cell (hs.rd1 (b:=b5) rfl)) hC fun a ha=>?_
        rw [hfi] at ha
        refine D1 rfl (st_set ha rfl (ex_load1 ha Tryz.underlying22 rfl (hs.rd1 (b:=b5) rfl)) rfl fun a ha=>?_)
        refine ⟨fun _=>hC,?_⟩
        refine D1 rfl (st_call ha rfl Ty.c144 rfl (ref_put (f:=fi) (bs:=p.press) (hs.pick (RLn B.lb B.lo B.cL k.ls)) hfl (hk.lnt hfn) (by omega) (fun w' hw=>(hw.pick (Sl 5 1 adP p.press.length cP (bc p.press))).rdB adP p.press rfl rfl)) ?_); clear ha hs
        rintro e w ⟨nn,er,rfl,hs⟩
        refine ⟨_,rfl,?_⟩
        intro a ha
        refine ⟨fun h=>absurd h (by decide),?_⟩
        refine DD ?_
        have hs2 : St W w (RefS B { k with ls:=k.ls.set fr (putLn (k.ls.getD fr []) fi p.press),ps:=k.ps.set fr { peK k fr with heard:=k.now } }::_):=RefS.foldL (l:=k.ls.set fr (putLn (k.ls.getD fr []) fi p.press)) hs B { k with ps:=k.ps.set fr { peK k fr with heard:=k.now } } A2 (List.length_set ..)
        replace hs:=hs2
        clear hs2
        have hk3:=hk2.line (i:=fr) (l:=putLn (k.ls.getD fr []) fi p.press) (putLn_len (hk.lnt hfn)).2
        have hhd : headK ({ k with ls:=k.ls.set fr (putLn (k.ls.getD fr []) fi p.press),ps:=k.ps.set fr { peK k fr with heard:=k.now } } : Ks)=headK k:=by
          show ((k.ls.set fr _).getD k.me []).length=_
          rw [getD_ne hfm]; rfl
        refine TN ?_
        refine wp_seq_cut (M:=fun a w=>∃ hh : Nat,hh=(if (peK k fr).has < ak∧ak≤headK k then ak else (peK k fr).has)∧Fr a 135 [(0,.pointer (some ⟨B.cb,0,none⟩)),(5,.pointer (some ⟨b5,0,none⟩))]∧St W w (RefS B { k with ls:=k.ls.set fr (putLn (k.ls.getD fr []) fi p.press),ps:=k.ps.set fr { peK k fr with heard:=k.now,has:=hh } }::blk b5 40 (pkC p adP cP)::L)) ?_ ?_
        ·
         refine WS ?_
         refine DW (m:=5) (fun w'=>Rd w' b5 0 (pkC p adP cP)) [3] [0,2,1,3,4] Ty.mixed (pk_then (pk_then (pk_then pk_body))) (fun hpk=>?_)
         replace hs:=hs.drew
         generalize w.drew=w at hs hpk ⊢
         have hC : Rd w b5 0 (pkC p adP cP):=hs.rdAll (b:=b5)
         iterate 2 (refine DP hpk ha rfl fun a ha=>?_)
         refine DL hpk ha rfl (fun w hc=>hc 6 _ rfl) hC fun a ha=>?_
         rw [hak] at ha
         refine D1 rfl (st_call ha rfl Ty.c120 rfl (ref_head hs hk3) ?_); clear ha hs
         rintro e w ⟨rfl,hs⟩
         refine ⟨_,rfl,?_⟩
         intro a ha
         replace hC : (fun w'=>Rd w' b5 0 (pkC p adP cP)) w:=hs.rdAll (b:=b5)
         refine ⟨fun _=>hC,?_⟩
         rw [hhd] at ha
         refine DP hpk ha rfl fun a ha=>?_
         refine DD<|TN ?_
         refine WI ha (fun hc3=>?_) (fun hc3=>?_)
         ·
          obtain ⟨A3,hs⟩:=RefS.open hs
          have hpa : (haC (k.ps.set fr { peK k fr with heard:=k.now }))[fr]?=some (Value.int .i64 (peK k fr).has):=by
            have h:=haC_at hpe3
            exact h
          refine DW (m:=19) (Old w.drew) [5,9,11,12,13,15,16] [0,1,2,4,6,7,8,10,14,3,5,9,11,12,13,15,16,17,18] Ty.mixed (pk_then (pk_then pk_body)) (fun hpk=>?_)
          replace hs:=hs.drew
          have hC:=Old.refl w.drew
          generalize w.drew=w at hs hC hpk ⊢
          iterate 9 (refine DP hpk ha rfl fun a ha=>?_)
          refine DL hpk ha rfl (fun w hc=>hc.cell (hs.rd1 (b:=B.cb) rfl)) hC fun a ha=>?_
          refine DL hpk ha rfl (fun w hc=>hc.cell (hs.rd1 (b:=b5) rfl)) hC fun a ha=>?_
          rw [hfr] at ha
          refine DL hpk ha rfl (fun w hc=>hc.cell (hs.rd1 (b:=B.cb) rfl)) hC fun a ha=>?_
          refine DL hpk ha rfl (fun w hc=>hc.cell (hs.rd1 (b:=b5) rfl)) hC fun a ha=>?_
          rw [hfr] at ha
          refine DH hpk ha rfl rfl (fun w hc=>ex_indexAddr ha Tryz.underlying63 Ty.t3 (by omega)) hC fun a ha=>?_
          rw [Nat.zero_add,Nat.mul_one] at ha
          refine DL hpk ha rfl (fun w hc=>hc.cell (hs.rd1 (b:=B.ab) hpa)) hC fun a ha=>?_
          refine D1 rfl (st_set ha rfl (ex_load1 ha Tryz.underlying3 rfl (hs.rd1 (b:=b5) rfl)) rfl fun a ha=>?_)
          refine ⟨fun _=>hC,?_⟩
          rw [hak] at ha
          refine D1 rfl (st_set ha rfl (ex_max ha) rfl fun a ha=>?_)
          refine ⟨fun _=>hC,?_⟩
          refine DQ hpk ha rfl rfl (fun w=>ex_indexAddr ha Tryz.underlying63 Ty.t3 (by omega)) fun a ha=>?_
          rw [Nat.zero_add,Nat.mul_one] at ha
          refine D1 rfl (st_store ha rfl hs Ty.t3 rfl (by rw [haC,List.length_map,List.length_set]; exact hfp) fun a w ha hs=>?_)
          refine ⟨fun h=>absurd h (by decide),?_⟩
          rw [haC_set { peK k fr with heard:=k.now,has:=max (peK k fr).has ak } max_int,← heC_keep hpe3 { peK k fr with heard:=k.now,has:=max (peK k fr).has ak } rfl,← wdC_keep hpe3 { peK k fr with heard:=k.now,has:=max (peK k fr).has ak } rfl rfl,← apC_keep hpe3 { peK k fr with heard:=k.now,has:=max (peK k fr).has ak } rfl,List.set_set] at hs
          replace hs:=RefS.fold hs B { k with ls:=k.ls.set fr (putLn (k.ls.getD fr []) fi p.press),ps:=k.ps.set fr { peK k fr with heard:=k.now,has:=max (peK k fr).has ak } } A3
          refine DD<|TN ?_
          exact ⟨max (peK k fr).has ak,by split <;> omega,ha.keep [0,5],hs.sub⟩
         ·
          refine WK<|TN ?_
          exact ⟨_,by rw [if_neg (by omega)],ha.keep [0,5],hs.sub⟩
        ·
         clear ha; (try clear hs)
         intro a w hcut
         obtain ⟨hh,hhe,ha,hs⟩:=hcut
         refine WS ?_
         have hpe4 : (k.ps.set fr { peK k fr with heard:=k.now,has:=hh })[fr]?=some { peK k fr with heard:=k.now,has:=hh }:=List.getElem?_set_self hfp
         have hak2 : p.ack.toNat=ak:=by omega
         have hfm3 : p.frame.toNat=fm:=by omega
         have hP : hearP k.now (headK k) p (peK k fr)=(if 0 < p.frame∧((peK k fr).frame : Int)≤p.frame then { peK k fr with heard:=k.now,has:=hh,frame:=fm,sum:=p.sum } else { peK k fr with heard:=k.now,has:=hh }):=by
           rw [hearP,hak2,hfm3,hhe]
         have hhb : hh≤1000:=by rw [hhe]; split <;> omega
         obtain ⟨A4,hs⟩:=RefS.open hs
         have hrp:=rows_part wdC_len (hs.drew.rdAll (b:=B.wb)) hpe4
         rw [Nat.zero_add] at hrp
         refine DW (m:=17) (Old w.drew) [9,11,12,13,14] [0,1,2,3,4,6,7,8,10,5,9,11,12,13,14,15,16] Ty.mixed (pk_then (pk_then pk_body)) (fun hpk=>?_)
         replace hs:=hs.drew
         have hC:=Old.refl w.drew
         generalize w.drew=w at hs hC hpk hrp ⊢
         refine DP hpk ha rfl fun a ha=>?_
         refine D1 rfl (st_set ha rfl (ex_load1 ha Tryz.underlying3 rfl (hs.rd1 (b:=b5) rfl)) rfl fun a ha=>?_)
         refine ⟨fun h=>absurd h (by decide),?_⟩
         iterate 2 (refine DP hpk ha rfl fun a ha=>?_)
         refine ha.by (s:=107) (fun hg3 ha=>?_) (fun hg3 ha=>?_)
         ·
          iterate 5 (refine DPg (s:=107) hpk ha rfl fun a ha=>?_)
          refine DH hpk ha rfl (wgT ha rfl (s:=107)) (fun w hc=>ex_load1 ha Tryz.underlying3 rfl (hc.cell (hs.rd1 (b:=b5) rfl))) hC fun a ha=>?_
          refine DH hpk ha rfl (wgT ha rfl (s:=107)) (fun w hc=>ex_load1 ha Tryz.underlying123 rfl (hc.cell (hs.rd1 (b:=B.cb) rfl))) hC fun a ha=>?_
          refine D1 rfl (st_set ha (wgT ha rfl (s:=107)) (ex_load1 ha Tryz.underlying3 rfl (hs.rd1 (b:=b5) rfl)) rfl fun a ha=>?_)
          refine ⟨fun _=>hC,?_⟩
          rw [hfr] at ha
          refine D1 rfl (st_set ha (wgT ha rfl (s:=107)) (ex_indexAddr ha Tryz.underlying123 Ty.t210 (by omega)) rfl fun a ha=>?_)
          refine ⟨fun _=>hC,?_⟩
          rw [Nat.zero_add] at ha
          refine D1 rfl (st_set ha (wgT ha rfl (s:=107)) (ex_fieldAddr (k:=0) ha Tryz.underlying210 rfl Ty.t3 rfl) rfl fun a ha=>?_)
          refine ⟨fun _=>hC,?_⟩
          refine D1 rfl (st_set ha (wgT ha rfl (s:=107)) (ex_load1 ha Tryz.underlying3 rfl (hrp 0 (.int .i64 (peK k fr).frame) rfl)) rfl fun a ha=>?_)
          refine ⟨fun _=>hC,?_⟩
          refine DPg (s:=107) hpk ha rfl fun a ha=>?_
          refine DT hpk ha rfl fun a ha=>?_
          refine DD<|TN ?_
          refine WI ha (fun hc4=>?_) (fun hc4=>?_)
          ·
           refine DW (m:=13) (Old w.drew) [5,7,9,10] [0,1,2,4,6,8,3,5,7,9,10,11,12] Ty.mixed (pk_then pk_body) (fun hpk=>?_)
           replace hs:=hs.drew
           have hC:=Old.refl w.drew
           generalize w.drew=w at hs hC hpk ⊢
           iterate 6 (refine DP hpk ha rfl fun a ha=>?_)
           refine DL hpk ha rfl (fun w hc=>hc.cell (hs.rd1 (b:=B.cb) rfl)) hC fun a ha=>?_
           refine DL hpk ha rfl (fun w hc=>hc.cell (hs.rd1 (b:=b5) rfl)) hC fun a ha=>?_
           rw [hfr] at ha
           refine DL hpk ha rfl (fun w hc=>hc.cell (hs.rd1 (b:=b5) rfl)) hC fun a ha=>?_
           rw [hfm2] at ha
           refine D1 rfl (st_set ha rfl (ex_load1 ha Tryz.underlying38 rfl (hs.rd1 (b:=b5) rfl)) rfl fun a ha=>?_)
           refine ⟨fun _=>hC,?_⟩
           refine D1 rfl (st_set ha rfl (ex_build ha Ty.b210 Ty.t210 rfl) rfl fun a ha=>?_)
           refine ⟨fun _=>hC,?_⟩
           refine DQ hpk ha rfl rfl (fun w=>ex_indexAddr ha Tryz.underlying123 Ty.t210 (by omega)) fun a ha=>?_
           rw [Nat.zero_add] at ha
           refine D1 rfl (st_storeN ha rfl hs Ty.t210 (by simp [Value.oneCell']) (by rw [rows_len wdC_len,List.length_set]; show fr*2+2≤_; omega) fun a w ha hs=>?_)
           refine ⟨fun h=>absurd h (by decide),?_⟩
           rw [show splice (rows wdC (k.ps.set fr { peK k fr with heard:=k.now,has:=hh })) (fr*2) [Value.int .i64 fm,Value.int .u32 p.sum]=rows wdC ((k.ps.set fr { peK k fr with heard:=k.now,has:=hh }).set fr { peK k fr with heard:=k.now,has:=hh,frame:=fm,sum:=p.sum }) from rows_set wdC_len _ { peK k fr with heard:=k.now,has:=hh,frame:=fm,sum:=p.sum } (by rw [List.length_set]; exact hfp),← heC_keep hpe4 { peK k fr with heard:=k.now,has:=hh,frame:=fm,sum:=p.sum } rfl,← haC_keep hpe4 { peK k fr with heard:=k.now,has:=hh,frame:=fm,sum:=p.sum } rfl,← apC_keep hpe4 { peK k fr with heard:=k.now,has:=hh,frame:=fm,sum:=p.sum } rfl,List.set_set] at hs
           replace hs:=RefS.fold hs B { k with ls:=k.ls.set fr (putLn (k.ls.getD fr []) fi p.press),ps:=k.ps.set fr { peK k fr with heard:=k.now,has:=hh,frame:=fm,sum:=p.sum } } A4
           refine DD<|TN ?_
           exact ⟨_,⟨by rw [if_neg hc2,hfi2,hP,if_pos (by omega)],(hk.peer (q:={ peK k fr with heard:=k.now,has:=hh,frame:=fm,sum:=p.sum }) hfn ⟨hhb,by show fm≤1000; omega,hps⟩ (Nat.le_refl _) rfl).line (putLn_len (hk.lnt hfn)).2⟩,ha.keep [0],hs.sub⟩
          ·
           refine WK<|TN ?_
           exact ⟨_,⟨by rw [if_neg hc2,hfi2,hP,if_neg (by omega)],(hk.peer (q:={ peK k fr with heard:=k.now,has:=hh }) hfn ⟨hhb,hpt.2.2⟩ (Nat.le_refl _) rfl).line (putLn_len (hk.lnt hfn)).2⟩,ha.keep [0],(RefS.fold hs B { k with ls:=k.ls.set fr (putLn (k.ls.getD fr []) fi p.press),ps:=k.ps.set fr { peK k fr with heard:=k.now,has:=hh } } A4).sub⟩
         ·
          iterate 5 (refine DO (s:=107) hpk ha rfl fun a ha=>?_)
          iterate 6 (refine DOH (s:=107) hpk ha rfl hC fun a ha=>?_)
          refine DO (s:=107) hpk ha rfl fun a ha=>?_
          refine DF hpk ha rfl fun a ha=>?_
          refine DD<|TN<|WFa ha<|WK<|TN ?_
          exact ⟨_,⟨by rw [if_neg hc2,hfi2,hP,if_neg (by omega)],(hk.peer (q:={ peK k fr with heard:=k.now,has:=hh }) hfn ⟨hhb,hpt.2.2⟩ (Nat.le_refl _) rfl).line (putLn_len (hk.lnt hfn)).2⟩,ha.keep [0],(RefS.fold hs B { k with ls:=k.ls.set fr (putLn (k.ls.getD fr []) fi p.press),ps:=k.ps.set fr { peK k fr with heard:=k.now,has:=hh } } A4).sub⟩
      ·
       clear ha; (try clear hs)
       intro a w hcut
       obtain ⟨k4,⟨hk4,hkw⟩,ha,hs⟩:=hcut
       refine WS<|WR ?_
       refine S1 ha fun a ha=>?_
       refine SK (st_call ha rfl Ty.c142 rfl (ref_held hs hkw) ?_); clear ha hs
       rintro e w ⟨rfl,hs⟩
       refine ⟨_,rfl,?_⟩
       intro a ha
       refine LN<|TN<|WS<|WR ?_
       refine S1 ha fun a ha=>?_
       refine LN<|TN<|wp_ret ?_
       refine ret1 ha rfl ?_
       refine ⟨rfl,?_⟩
       have hz : holdK k4=hearK k p:=by
         by_cases h2 : p.kind=2
         · rw [hk4,if_pos h2,hearK,if_pos h2,hft]
           refine held.holdK (hh.of rfl (List.length_set ..) fun i hi=>?_)
           by_cases h : i=fr
           · subst h
             rw [show peK { k with ps:=k.ps.set i { peK k i with heard:=k.now },ev:=k.ev++[(1,i,0)],cl:=true } i={ peK k i with heard:=k.now } from by rw [peK,List.getD_eq_getElem?_getD,List.getElem?_set_self hi]; rfl]
             exact ⟨rfl,rfl,rfl⟩
           · rw [show peK { k with ps:=k.ps.set fr { peK k fr with heard:=k.now },ev:=k.ev++[(1,fr,0)],cl:=true } i=peK k i from by rw [peK,List.getD_eq_getElem?_getD,List.getElem?_set_ne (Ne.symm h),peK,List.getD_eq_getElem?_getD]]
             exact ⟨rfl,rfl,rfl⟩
         · rw [hk4,if_neg h2,hearK,if_neg h2,hft]
       rw [hz] at hs
       exact hs
end
end Go.Proofs.YtagpkhbkdbaigaaGreat
