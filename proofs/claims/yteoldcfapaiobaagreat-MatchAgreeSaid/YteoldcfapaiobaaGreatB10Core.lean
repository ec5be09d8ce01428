/- What a player knows, in memory: core.May, New, Conf, Queue, Head, Closed, Press, note, hold, Mark, Marks, Events. -/
import Derived.Test.YteoldcfapaiobaaGreatB08Pkt3
import Derived.Test.YteoldcfapaiobaaGreatB09CoQ
import Derived.Test.YteoldcfapaiobaaGreatB05Vm
import Derived.Test.YteoldcfapaiobaaGreatB06Ref
import Derived.Test.YteoldcfapaiobaaGreatB01Row
namespace Go.Proofs.YteoldcfapaiobaaGreat
open Tryz
open List (length_range take_succ_cons nil_append ext_getElem getElem_set_self take_length set_set map_drop mem_singleton range_succ getElem?_set_ne getElem?_set_self length_filter_le replicate_succ' getLastD_eq_getLast?)
open Go.RowKit
set_option linter.unusedVariables false
set_option linter.unusedSimpArgs false
set_option maxRecDepth 10000
set_option synthInstance.maxSize 4000
set_option synthInstance.maxHeartbeats 400000
section
abbrev iF (p:Pe):List Value:=[.int .i64 p.has,.int .i64 p.heard,.int .i64 p.frame,.int .u32 p.sum,.bool p.apart]
theorem jA (p:Pe):(iF p).length=5:=rfl
theorem Yz (p:Pe):∀ v∈iF p,v.oneCell'=true:=by
 intro v hv;simp[iF]at hv;rcases hv with rfl | rfl | rfl | rfl | rfl <;> rfl
def c4 (l:List Nat):List Value:=l.map λs:Nat=>Value.int .u32 (s:Int)
structure pz where
 cb:Nat
 qb:Nat
 aB:List Nat
 bp:Nat
 op:Nat
structure ov where
 cP:Nat
 ch:Option Addr
 cM:Nat
 adE:Option Addr
 cE:Nat
abbrev im (k:Ks)(B:pz)(A:ov):List Value:=[.int .i64 k.n,.int .i64 k.me,.int .i64 k.id,.int .i64 k.aE,.int .i64 k.bm,.int .i64 k.aX,.int .i64 k.order,.int .i64 k.cm,.int .i64 k.workers,.int .i64 k.room,
 pt B.qb,.slice (some ⟨B.bp,B.op,none⟩) k.ps.length A.cP,.slice A.ch k.mr.length A.cM,.slice A.adE k.ev.length A.cE,.int .i64 k.now,.bool k.cl]
def aA (B:pz)(k:Ks):SP:=λh=>∃ A:ov,cn [aa B.cb 257 (im k B A),Sl 259 5 (some ⟨B.bp,B.op,none⟩) k.ps.length A.cP (rows iF k.ps),Sl 100 1 A.ch k.mr.length A.cM (c4 k.mr),Sl 135 1 A.adE k.ev.length A.cE (k.ev.map cz),Qu B.qb B.aB k.ls] h
section
variable {W w:World}{L L' R:List SP}{n c cb qb i:Nat}{ad:Option Addr}{aB:List Nat}{k:Ks}{A:ov}{B:pz}{cf:Cf}{e:jZ}
theorem aA.open (I:U W w (aA B k::L)):∃ A:ov,U W w (aa B.cb 257 (im k B A)::Sl 259 5 (some ⟨B.bp,B.op,none⟩) k.ps.length A.cP (rows iF k.ps)::Sl 100 1 A.ch k.mr.length A.cM (c4 k.mr)::Sl 135 1 A.adE k.ev.length A.cE (k.ev.map cz)::Qu B.qb B.aB k.ls::L):=by
 obtain⟨A,_,I⟩:=I.jt (ι:=ov) (p:=λ_=>True) (B:=λA h=>cn [aa B.cb 257 (im k B A),Sl 259 5 (some ⟨B.bp,B.op,none⟩) k.ps.length A.cP (rows iF k.ps),Sl 100 1 A.ch k.mr.length A.cM (c4 k.mr),Sl 135 1 A.adE k.ev.length A.cE (k.ev.map cz),Qu B.qb B.aB k.ls] h) λ_ ⟨A,h⟩=>⟨A,trivial,h⟩;exact⟨A,I.open (M:=[_,_,_,_,_]) λ_ h=>h⟩
theorem aA.close (I:U W w (aa B.cb 257 (im k B A)::Sl 259 5 (some ⟨B.bp,B.op,none⟩) k.ps.length A.cP (rows iF k.ps)::Sl 100 1 A.ch k.mr.length A.cM (c4 k.mr)::Sl 135 1 A.adE k.ev.length A.cE (k.ev.map cz)::Qu B.qb B.aB k.ls::L)):U W w (aA B k::L) :=
 U.shut (M:=[_,_,_,_,_]) I λ_ h=>⟨A,h⟩
theorem aA.mk' (I:U W w L)(A:ov)[kk:fE L (aa B.cb 257 (im k B A)::Sl 259 5 (some ⟨B.bp,B.op,none⟩) k.ps.length A.cP (rows iF k.ps)::Sl 100 1 A.ch k.mr.length A.cM (c4 k.mr)::Sl 135 1 A.adE k.ev.length A.cE (k.ev.map cz)::Qu B.qb B.aB k.ls::L') R]:U W w (aA B k::L'):=aA.close (A:=A) I.sub
theorem aA.fold (I:U W w L)(B:pz)(k:Ks)(A:ov)[kk:fE L [aa B.cb 257 (im k B A),Sl 259 5 (some ⟨B.bp,B.op,none⟩) k.ps.length A.cP (rows iF k.ps),Sl 100 1 A.ch k.mr.length A.cM (c4 k.mr),Sl 135 1 A.adE k.ev.length A.cE (k.ev.map cz),Qu B.qb B.aB k.ls] R]:U W w (aA B k::R):=aA.close (A:=A) (I.perm kk.perm)
theorem ow {x lo hi:Int}(I:U W w L):Calls prog 167 #[.int .i64 x,.int .i64 lo,.int .i64 hi] w λe V=>∃ r:Bool,e=.returned (.bool r)∧(r=true↔dE x lo hi)∧U W V L:=by
 refine EN func167 ntmps167 rfl rfl λa E=>?_;refine BY 7 E I (λbF a E=>?_) λbF a E=>?_
 ·
  refine RT 5 E I ?_;exact⟨_,rfl,⟨λh=>⟨bF,of_decide_eq_true h⟩,λh=>dq h.2⟩,I⟩
 refine RT 5 E I ?_;exact⟨_,rfl,⟨λh=>(by cases h),λh=>by have:=h.1;omega⟩,I⟩
theorem K0 (I:U W w L):Calls prog 130 #[.agg (br cf).toArray] w λe V=>∃ r:Bool,e=.returned (.bool r)∧(r=true↔eO cf)∧U W V L:=by
 refine EN func130 ntmps130 rfl rfl λa E=>?_;refine BX 1 E I λb1 a w E I=>?_;change U W w (aa b1 28 (br cf)::_) at I;refine RN 1 E I λa E=>?_;refine cc (M:=λa w=>∃ z:Bool,(z=true↔(dE cf.n 2 8∧dE cf.me 0 (cf.n-1)∧dE cf.id 0 1099511627776))∧Fr a 73 [(1,pt b1),(3,.bool z)]∧U W w (aa b1 28 (br cf)::L)) ?_ ?_
 ·
  refine aR 2 E I (ow I) λr1 a w E ⟨ep,I⟩=>?_;refine BY 1 E I (λbF a E=>?_) λbF a E=>?_
  ·
   refine RN 4 E I λa E=>?_;refine SK (bC E (cI E rfl (s:=8)) (wV E) rfl ?_);clear E a;intro a E;have lQ:IntKind.i64.wrap (cf.n-1)=cf.n-1:=gi (by have:=(ep.1 bF).1;omega) (by have:=(ep.1 bF).2;omega);rw[lQ]at E;refine aR 0 E I (ow I) λr2 a w E ⟨ee,I⟩=>?_;refine BY 2 E I (λkP a E=>?_) λkP a E=>?_
   ·
    refine BY 5 E I (λtU a E=>?_) λtU a E=>?_
    ·
     refine RN 5 E I λa E=>?_;exact⟨_,⟨λh=>⟨ep.1 bF,ee.1 kP,tU,of_decide_eq_true h⟩,λh=>dq h.2.2.2⟩,E.ab [1,3],I⟩
    refine RN 5 E I λa E=>?_;exact⟨_,⟨λh=>(by cases h),λh=>by have:=h.2.2.1;omega⟩,E.ab [1,3],I⟩
   refine RN 10 E I λa E=>?_;exact⟨_,⟨λh=>(by cases h),λh=>by have:=ee.2 h.2.1;rw[kP]at this;cases this⟩,E.ab [1,3],I⟩
  refine RN 18 E I λa E=>?_;exact⟨_,⟨λh=>(by cases h),λh=>by have:=ep.2 h.1;rw[bF]at this;cases this⟩,E.ab [1,3],I⟩
 clear E;(try clear I);rintro a w ⟨z1,cW,E,I⟩;refine cc (M:=λa w=>∃ z:Bool,(z=true↔(dE cf.aE 0 8∧dE cf.bm 1 16∧dE cf.aX 1 3∧dE cf.order 0 3))∧Fr a 73 [(1,pt b1),(3,.bool z1),(4,.bool z)]∧U W w (aa b1 28 (br cf)::L)) ?_ ?_
 ·
  refine aR 2 E I (ow I) λr1 a w E ⟨ep,I⟩=>?_;refine BY 1 E I (λbF a E=>?_) λbF a E=>?_
  ·
   refine aR 2 E I (ow I) λr2 a w E ⟨ee,I⟩=>?_;refine BY 2 E I (λeh a E=>?_) λeh a E=>?_
   ·
    refine aR 2 E I (ow I) λr3 a w E ⟨gT,I⟩=>?_;refine BY 2 E I (λkv a E=>?_) λkv a E=>?_
    ·
     refine aR 2 E I (ow I) λJH a w E ⟨mW,I⟩=>?_;refine RN 2 E I λa E=>?_;exact⟨_,⟨λh=>⟨ep.1 bF,ee.1 eh,gT.1 kv,mW.1 h⟩,λh=>mW.2 h.2.2.2⟩,E.ab [1,3,4],I⟩
    refine RN 5 E I λa E=>?_;exact⟨_,⟨λh=>(by cases h),λh=>by have:=gT.2 h.2.2.1;rw[kv]at this;cases this⟩,E.ab [1,3,4],I⟩
   refine RN 10 E I λa E=>?_;exact⟨_,⟨λh=>(by cases h),λh=>by have:=ee.2 h.2.1;rw[eh]at this;cases this⟩,E.ab [1,3,4],I⟩
  refine RN 15 E I λa E=>?_;exact⟨_,⟨λh=>(by cases h),λh=>by have:=ep.2 h.1;rw[bF]at this;cases this⟩,E.ab [1,3,4],I⟩
 clear E;(try clear I);rintro a w ⟨z2,eQ,E,I⟩;refine BY 3 E I (λmV a E=>?_) λmV a E=>?_
 ·
  refine BY 3 E I (λda a E=>?_) λda a E=>?_
  ·
   refine BY 4 E I (λeh a E=>?_) λeh a E=>?_
   ·
    have uq:cf.order=0∨cf.aX=2:=.inl eh;refine aR 8 E I (ow I) λr1 a w E ⟨ep,I⟩=>?_;refine BY 2 E I (λpo a E=>?_) λpo a E=>?_
    ·
     refine aR 2 E I (ow I) λr2 a w E ⟨ee,I⟩=>?_;refine BY 2 E I (λur a E=>?_) λur a E=>?_
     ·
      refine aR 2 E I (ow I) λr3 a w E ⟨gT,I⟩=>?_;refine RT 2 E I ?_;exact⟨_,rfl,⟨λh=>⟨cW.1 mV,eQ.1 da,uq,ep.1 po,ee.1 ur,gT.1 h⟩,λh=>gT.2 h.2.2.2.2.2⟩,I.sub⟩
     refine RT 5 E I ?_;exact⟨_,rfl,⟨λh=>(by cases h),λh=>by have:=ee.2 h.2.2.2.2.1;rw[ur]at this;cases this⟩,I.sub⟩
    refine RT 10 E I ?_;exact⟨_,rfl,⟨λh=>(by cases h),λh=>by have:=ep.2 h.2.2.2.1;rw[po]at this;cases this⟩,I.sub⟩
   refine BY 6 E I (λkO a E=>?_) λkO a E=>?_
   ·
    have uq:cf.order=0∨cf.aX=2:=.inr kO;refine aR 2 E I (ow I) λr1 a w E ⟨ep,I⟩=>?_;refine BY 2 E I (λpo a E=>?_) λpo a E=>?_
    ·
     refine aR 2 E I (ow I) λr2 a w E ⟨ee,I⟩=>?_;refine BY 2 E I (λur a E=>?_) λur a E=>?_
     ·
      refine aR 2 E I (ow I) λr3 a w E ⟨gT,I⟩=>?_;refine RT 2 E I ?_;exact⟨_,rfl,⟨λh=>⟨cW.1 mV,eQ.1 da,uq,ep.1 po,ee.1 ur,gT.1 h⟩,λh=>gT.2 h.2.2.2.2.2⟩,I.sub⟩
     refine RT 5 E I ?_;exact⟨_,rfl,⟨λh=>(by cases h),λh=>by have:=ee.2 h.2.2.2.2.1;rw[ur]at this;cases this⟩,I.sub⟩
    refine RT 10 E I ?_;exact⟨_,rfl,⟨λh=>(by cases h),λh=>by have:=ep.2 h.2.2.2.1;rw[po]at this;cases this⟩,I.sub⟩
   refine RT 15 E I ?_;exact⟨_,rfl,⟨λh=>(by cases h),λh=>by have:=h.2.2.1;omega⟩,I.sub⟩
  refine RT 25 E I ?_;exact⟨_,rfl,⟨λh=>(by cases h),λh=>by have:=eQ.2 h.2.1;rw[da]at this;cases this⟩,I.sub⟩
 refine RT 28 E I ?_;exact⟨_,rfl,⟨λh=>(by cases h),λh=>by have:=cW.2 h.1;rw[mV]at this;cases this⟩,I.sub⟩
theorem YA (I:U W w L)(h:¬ eO cf):Calls prog 96 #[.agg (br cf).toArray] w λe V=>e=.returned (.tuple #[.pointer none,.int .i64 1])∧U W V L:=by
 refine EN func96 ntmps96 rfl rfl λa E=>?_;refine BX 1 E I λb1 a w E I=>?_;change U W w (aa b1 28 (br cf)::_) at I;refine aR 5 E I (K0 I) λr a w E ⟨hr,I⟩=>?_;rw[show r=false from by cases hh:r with | false=>rfl | true=>exact absurd (hr.1 hh) h]at E;refine RN 1 E I λa E=>?_;replace E:=E.dX 7;refine RT 4 E I ?_;exact⟨rfl,I.sub⟩
theorem K1 {n me aE bm:Nat}{id aX order cm workers room:Int}(I:U W w L)(h:eO ⟨n,me,id,aE,bm,aX,order,cm,workers,room⟩) :
   Calls prog 96 #[.agg (br ⟨n,me,id,aE,bm,aX,order,cm,workers,room⟩).toArray] w λe V=>∃ B,e=.returned (.tuple #[pt B.cb,.int .i64 0])∧U W V (aA B (fh ⟨n,me,id,aE,bm,aX,order,cm,workers,room⟩)::L):=by
 have hh:=h;obtain⟨⟨h1,h2,h3⟩,⟨h4,h5,h6,h7⟩,h8,h9,fF,mQ⟩:=hh;simp only[dE] at *;refine EN func96 ntmps96 rfl rfl λa E=>?_;refine BX 1 E I λb1 a w E I=>?_;change U W w (aa b1 28 (br ⟨n,me,id,aE,bm,aX,order,cm,workers,room⟩)::_) at I;refine aR 5 E I (K0 I) λr a w E ⟨hr,I⟩=>?_;rw[hr.2 h]at E;refine RN 1 E I λa E=>?_;replace E:=E.aK 7;refine RN 1 E I λa E=>?_;refine cc (M:=λa w=>∃ cb qb aB,Fr a 34 [(1,pt b1),(4,pt cb)]∧U W w (aa cb 257 [.int .i64 n,.int .i64 me,.int .i64 id,.int .i64 aE,.int .i64 bm,.int .i64 aX,.int .i64 order,.int .i64 cm,.int .i64 workers,.int .i64 room,pt qb,.slice none 0 0,.slice none 0 0,.slice none 0 0,.int .i64 0,.bool false]::Qu qb aB (List.replicate n (List.replicate aE 0))::aa b1 28 (br ⟨n,me,id,aE,bm,aX,order,cm,workers,room⟩)::L)) ?_ ?_
 ·
  refine aY 0 (λw0 V=>Rd V b1 0 (br ⟨n,me,id,aE,bm,aX,order,cm,workers,room⟩)) [2,4,5] [1,3,3000,3002,1004,1005,6,1007,8] E I λa w E I hH=>?_;have hC:=hH.at w I.ai;refine RH 2 E I hH hC λa E=>?_;refine QH E (λw hc=>bR E underlying28 rfl Ty.t28 (hc)) hC λa E=>?_;simp only[br]at E;refine RH 0 E I hH hC λa E=>?_;refine QH E (λw hc=>ae E (hc 0 _ rfl)) hC λa E=>?_;refine RH 0 E I hH hC λa E=>?_;refine SS E (ae E (hC 3 _ rfl)) λa E=>?_;refine RH 0 E I hH hC λa E=>?_;refine a6 0 E I (Yk (n:=n) (d:=aE) I (by omega) (by omega)) λqb aB a w E I=>?_;replace hC:=hH.at w I.ai;refine RH 1 E I hH hC λa E=>?_;refine wW E rfl I rfl λUv a w E I ho=>?_;clear ho;refine RN 1 E I λa E=>?_;exact⟨_,qb,aB,E.ab [1,4],I⟩
 clear E;(try clear I);rintro a w ⟨cb,qb,aB,E,I⟩;refine RN 5 E I λa E=>?_;replace I:=I.bO 259 5 none;refine aP (λμ a w=>∃ (i:Nat) (ad:Option Addr) (c:Nat),(μ=n-i∧i≤n)∧Fr a 34 [(1,pt b1),(4,pt cb),(17,.int .i64 n),(18,.int .i64 i)]∧U W w (aa cb 257 [.int .i64 n,.int .i64 me,.int .i64 id,.int .i64 aE,.int .i64 bm,.int .i64 aX,.int .i64 order,.int .i64 cm,.int .i64 workers,.int .i64 room,pt qb,.slice ad i c,.slice none 0 0,.slice none 0 0,.int .i64 0,.bool false]::Sl 259 5 ad i c (rows iF (List.replicate i (fy aE)))::Qu qb aB (List.replicate n (List.replicate aE 0))::aa b1 28 (br ⟨n,me,id,aE,bm,aX,order,cm,workers,room⟩)::L)) (n) (⟨0,none,0,⟨rfl,by omega⟩,E.ab [1,4,17,18],(I.perm (List.Perm.swap _ _ _):U W w (aa cb 257 _::Sl 259 5 none 0 0 []::_))⟩) ?_;clear E I;rintro μ a w ⟨i,ad,c,⟨rfl,hi⟩,E,I⟩;refine IF 3 E I (λao a E=>?_) λao a E=>?_
 ·
  refine bS 1 [6,7,8] [0,1,2,3,5,3004,1006,1007,1008,1009,10,11,1012] E I λa w E I hH hC=>?_;refine RH 8 E I hH hC λa E=>?_;refine cp E rfl I underlying255 Ty.t259 rfl rfl rfl rfl (by decide) (by decide) λH2 a w E I ho=>?_;replace hC:=hC.trans ho;clear ho;refine RH 0 E I hH hC λa E=>?_;refine cQ E rfl I underlying255 Ty.t259 rfl rfl I.ai rfl (Yz (fy aE)) (by decide) (by decide) (by omega) λK2 K3 a w E I=>?_;rw[show rows iF (List.replicate i (fy aE))++_=rows iF (List.replicate (i+1) (fy aE)) from by rw[replicate_succ',ka];rfl]at I;refine ST 2 E I (λa w E I=>?_);refine RN 2 E I λa E=>?_;exact⟨n-(i+1),by omega,i+1,K2,K3,⟨rfl,by omega⟩,E.ab [1,4,17,18],I.sub⟩
 obtain rfl:i=n:=by omega
 replace I:=I.bO 100 1 none;replace I:=I.bO 135 1 none;refine RT 4 E I ?_;obtain⟨bp,op,rfl,_⟩:=(I.pick (Sl 259 5 ad i c (rows iF (List.replicate i (fy aE))))).bW ad (by omega);refine⟨⟨cb,qb,aB,bp,op⟩,rfl,?_⟩;refine aA.close (A:=⟨c,none,0,none,0⟩) ?_;have hl:(fh ⟨i,me,id,aE,bm,aX,order,cm,workers,room⟩).ps.length=i:=by simp[fh]
 rw[im,hl];exact I.sub (M:=aa cb 257 [.int .i64 i,.int .i64 me,.int .i64 id,.int .i64 aE,.int .i64 bm,.int .i64 aX,.int .i64 order,.int .i64 cm,.int .i64 workers,.int .i64 room,pt qb,.slice (some ⟨bp,op,none⟩) i c,.slice none 0 0,.slice none 0 0,.int .i64 0,.bool false]::Sl 259 5 (some ⟨bp,op,none⟩) i c (rows iF (List.replicate i (fy aE)))::Sl 100 1 none 0 0 []::Sl 135 1 none 0 0 []::Qu qb aB (List.replicate i (List.replicate aE 0))::L)
theorem K4 (I:U W w (aA B k::L)):Calls prog 292 #[pt B.cb] w λe V=>e=.returned (.agg (br (fg k)).toArray)∧U W V (aA B k::L):=by
 obtain⟨A,I⟩:=aA.open I;refine EN func292 ntmps292 rfl rfl λa E=>?_;refine AL 1 E I λb2 a w E I=>?_;refine RN 4 E I λa E=>?_;replace E:=E.aK 4;refine SA 6 E I λa w E I=>?_;refine RT 0 E I ?_;exact⟨rfl,aA.close I.tail⟩
theorem oy (I:U W w (aA B k::L)):Calls prog 134 #[pt B.cb] w λe V=>e=.returned (pt B.qb)∧U W V (aA B k::L):=by
 obtain⟨A,I⟩:=aA.open I;refine EN func134 ntmps134 rfl rfl λa E=>?_;refine RN 6 E I λa E=>?_;replace E:=E.aK 4;refine RT 7 E I ?_;exact⟨rfl,aA.close I⟩
theorem aA.E4 (I:U W w (aA B k::L)):∃ D:SP,U W w (Qu B.qb B.aB k.ls::D::L)∧∀ (V:World) (L':List SP) (kz:List (List UInt8)),U W V (Qu B.qb B.aB kz::D::L')→U W V (aA B { k with ls:=kz }::L'):=by
 obtain⟨A,I⟩:=aA.open I;refine⟨λh=>cn [aa B.cb 257 (im k B A),Sl 259 5 (some ⟨B.bp,B.op,none⟩) k.ps.length A.cP (rows iF k.ps),Sl 100 1 A.ch k.mr.length A.cM (c4 k.mr),Sl 135 1 A.adE k.ev.length A.cE (k.ev.map cz)] h,?_,λV L' kz I=>?_⟩
 ·refine U.perm (L:=(λh=>cn [aa B.cb 257 (im k B A),Sl 259 5 (some ⟨B.bp,B.op,none⟩) k.ps.length A.cP (rows iF k.ps),Sl 100 1 A.ch k.mr.length A.cM (c4 k.mr),Sl 135 1 A.adE k.ev.length A.cE (k.ev.map cz)] h)::Qu B.qb B.aB k.ls::L) ?_ (List.Perm.swap _ _ _);exact U.shut (M:=[_,_,_,_]) I λ_ h=>h
 ·have h1:=(I.perm (List.Perm.swap _ _ _)).open (M:=[_,_,_,_]) λ_ h=>h;exact aA.close (k:={ k with ls:=kz }) (A:=A) h1
theorem aA.qu (I:U W w (aA B k::L)):∃ D:SP,U W w (Qu B.qb B.aB k.ls::D::L)∧∀ (V:World) (L':List SP),U W V (Qu B.qb B.aB k.ls::D::L')→U W V (aA B k::L'):=by
 obtain⟨D,h1,h2⟩:=aA.E4 I;exact⟨D,h1,λV L' h=>h2 V L' k.ls h⟩
theorem sO (I:U W w (aA B k::L))(hk:WC k):Calls prog 275 #[pt B.cb] w λe V=>e=.returned (.int .i64 (aI k))∧U W V (aA B k::L):=by
 have ej:k.me<k.ls.length:=by rw[hk.ls];exact hk.me
 refine EN func275 ntmps275 rfl rfl λa E=>?_;refine CL 4 E I (oy I) λa w E I=>?_;refine CL 1 E I (K4 I) λa w E I=>?_;refine RN 0 E I λa E=>?_;refine SS E (HT E underlying28 rfl underlying3 rfl rfl) λa E=>?_;obtain⟨D,I,hD⟩:=aA.qu I;refine CL 0 E I (sM I ej) λa w E I=>?_;refine CL 0 E I (yd I ej) λa w E I=>?_;refine RT 1 E I ?_;exact⟨rfl,hD _ _ I⟩
theorem yg (I:U W w (aA B k::L)):Calls prog 179 #[pt B.cb] w λe V=>e=.returned (.bool k.cl)∧U W V (aA B k::L):=by
 obtain⟨A,I⟩:=aA.open I;refine EN func179 ntmps179 rfl rfl λa E=>?_;refine RN 6 E I λa E=>?_;replace E:=E.aK 5;refine RT 6 E I ?_;exact⟨rfl,aA.close I⟩
theorem K5 (I:U W w (aA B k::L)):Calls prog 133 #[pt B.cb] w λe V=>e=.returned (.int .i64 k.mr.length)∧U W V (aA B k::L):=by
 obtain⟨A,I⟩:=aA.open I;refine EN func133 ntmps133 rfl rfl λa E=>?_;refine RN 6 E I λa E=>?_;replace E:=E.aK 4;refine RT 8 E I ?_;exact⟨rfl,aA.close I⟩
theorem E5 (I:U W w (aA B k::L))(he:sN e)(hl:k.ev.length≤100):Calls prog 204 #[pt B.cb,.agg (bU e).toArray] w λr V=>r=.returned (.tuple #[])∧U W V (aA B { k with ev:=k.ev++[e] }::L):=by
 obtain⟨A,I⟩:=aA.open I;refine EN func204 ntmps204 rfl rfl λa E=>?_;refine BX 1 E I λb3 a w E I=>?_;change U W w (aa b3 102 (bU e)::_) at I;refine CL 2 E I (Yu I he) λa w E I=>?_;refine AL 3 E I λb4 a w E I=>?_;refine SA 0 E I λa w E I=>?_;refine RN 3 E I λa E=>?_;replace E:=E.dX 11;refine bS 1 [5,6] [0,1,2,3,3004,1005,1006,1007,8,9,1010] E I λa w E I hH hC=>?_;refine RH 6 E I hH hC λa E=>?_;refine cp E rfl I underlying90 Ty.t135 rfl rfl rfl rfl (by decide) (by decide) λsC a w E I ho=>?_;replace hC:=hC.trans ho;clear ho;refine RH 0 E I hH hC λa E=>?_;refine cQ E rfl I underlying90 Ty.t135 rfl rfl I.ai rfl (by simpa using E2 e) (by decide) (by decide) (by omega) λzV zW a w E I=>?_;rw[show List.map cz k.ev++_=List.map cz (k.ev++[e]) from by rw[cX];rfl,show k.ev.length+1=(k.ev++[e]).length from by simp]at I;rw[show k.ev.length+1=(k.ev++[e]).length from by simp]at E;refine ST 2 E I (λa w E I=>?_);refine RT 0 E I ?_;exact⟨rfl,aA.mk' (k:={ k with ev:=k.ev++[e] }) I { A with adE:=zV,cE:=zW }⟩
structure ru (w:World)(B:pz)(k:Ks):Prop where
 cf:Rd w B.cb 0 [.int .i64 k.n,.int .i64 k.me,.int .i64 k.id,.int .i64 k.aE,.int .i64 k.bm,.int .i64 k.aX,.int .i64 k.order,.int .i64 k.cm,.int .i64 k.workers,.int .i64 k.room,pt B.qb]
 now:w.cell? ⟨B.cb,14,none⟩=some (.int .i64 k.now)
 cl:w.cell? ⟨B.cb,15,none⟩=some (.bool k.cl)
 pe:∀ (i:Nat) (p:Pe),k.ps[i]?=some p→Rd w B.bp (B.op+i*5) (iF p)
 aeZ:∃ ad c,w.cell? ⟨B.cb,12,none⟩=some (.slice ad k.mr.length c)
 pl:∃ c,w.cell? ⟨B.cb,11,none⟩=some (.slice (some ⟨B.bp,B.op,none⟩) k.ps.length c)
theorem jk {α:Type}{f:α→List Value}{sz:Nat}(hf:∀ x,(f x).length=sz){l:List α}{i:Nat}{x:α}{b o:Nat}(h:Rd w b o (rows f l))(hx:l[i]?=some x):Rd w b (o+i*sz) (f x):=by
 obtain⟨hi,rfl⟩:=a8.1 hx;have h1:=h.part (i*sz) sz
 rwa [va hf l i hi]at h1
theorem aA.rd (I:U W w (aA B k::L)):ru w B k:=by
 obtain⟨A,I⟩:=aA.open I;refine⟨I.pO 11,I.bz rfl,I.bz rfl,λi p hp=>?_,⟨_,_,I.bz rfl⟩,⟨_,I.bz rfl⟩⟩;have hi:=(a8.1 hp).1;exact jk jA (I.cK B.bp B.op (by omega)) hp
end
theorem AJ {l:List Nat}{i:Nat}(h:i<l.length):(c4 l)[i]?=some (.int .u32 (l.getD i 0:Nat)):=by
 rw[c4,bn,aF h,bl,aF h];rfl
theorem uu {k:Ks}{i:Nat}(h:i<k.ps.length):k.ps[i]?=some (ar k i):=by
 rw[ar,bl,aF h];rfl
theorem K6 {k:Ks}{i:Nat}(h:i<k.ps.length):k.ps[i]=ar k i:=by
 rw[ar,bl,aF h];rfl
section
variable {W w:World}{L L':List SP}{n c i:Nat}{ad:Option Addr}{k:Ks}{A:ov}{B:pz}{x:UInt8}
theorem K7 (I:U W w (aA B k::L))(hk:WC k):Calls prog 175 #[pt B.cb] w λr V=>r=.returned (.tuple #[])∧U W V (aA B (kZ k)::L):=by
 have eF:k.ps.length=k.n:=hk.ps;obtain⟨A0,I⟩:=aA.open I;refine EN func175 ntmps175 rfl rfl λa E=>?_;refine RN 7 E I λa E=>?_;replace I:=aA.close I;refine aP (λμ a w=>∃ (i:Nat),(μ=k.ps.length-i∧i≤k.ps.length)∧Fr a 71 [(0,pt B.cb),(8,.int .i64 k.ps.length),(9,.int .i64 i)]∧U W w (aA B (gn k i)::L)) (k.ps.length) (⟨0,⟨rfl,by omega⟩,E.ab [0,8,9],I⟩) ?_;clear E I;rintro μ a w ⟨i,⟨rfl,hi⟩,E,I⟩;refine IF 3 E I (λaj a E=>?_) λaj a E=>?_
 ·
  have aG:i<k.ps.length:=by omega
  have jL:=hk.gn (i:=i) (by omega);have dO:=AB k i;have fb:gn k (i+1)=kY (gn k i) i:=rfl;rw[kY]at fb;generalize gn k i=kk at I jL dO fb;rw[← dO]at aG;have ik:=jL.pw (i:=i) (by rw[← jL.ps];exact aG);have e4:=uu aG;have J8:i<8:=by have:=jL.n;have:=jL.ps;omega
  obtain⟨A,I⟩:=aA.open I;have fe:=jk jA (I.cK B.bp B.op (by omega)) e4;refine RN 14 E I λa E=>?_;have fe:Rd w.drew B.bp (B.op+i*5) (iF (ar kk i)):=fe;have jy:Rd w.drew B.cb 0 (im kk B A):=I.drew.ai;refine qJ 0 (Old w.drew) [13,14,31,35,36,37,38] [0,1,2,1003,4,5,6,7,8,10,11,12,3009,1013,1014,15,16,17,18,19,20,1021,22,23,24,25,26,28,29,30,32,33,34,3027,3031,1035,1036,1037,1038,39,40] E I λa E=>?_;replace I:=I.drew;have hH:=Hd.gv I;have hC:=Old.refl w.drew;generalize w.drew=w at I hH hC fe jy ⊢;refine RH 3 E I hH hC λa E=>?_;refine SS E (ae E (fe 2 _ rfl)) λa E=>?_;refine RH 2 E I hH hC λa E=>?_;refine E.by (s:=23) (λiQ E=>?_) (λiQ E=>?_)
  ·
   refine RH 35 E I hH hC λa E=>?_;refine RN 3 E I λa E=>?_;rw[ag (λh=>by have:=h.2.1;omega)]at fb;exact⟨k.ps.length-(i+1),by omega,i+1,⟨rfl,by omega⟩,E.ab [0,8,9],by rw[fb];exact aA.close I⟩
  refine RH 6 E I hH hC λa E=>?_;refine QH E (λw hc=>ae E (hc.cell (fe 2 _ rfl))) hC λa E=>?_;refine RH 0 E I hH hC λa E=>?_;refine bC E (cI E rfl (s:=23)) (ae E (jy 12 _ rfl)) rfl λa E=>?_;refine RH 4 E I hH hC λa E=>?_;refine E.by (s:=35) (λYB E=>?_) (λYB E=>?_)
  ·
   refine RH 23 E I hH hC λa E=>?_;refine RN 3 E I λa E=>?_;rw[ag (λh=>by have:=h.2.2.1;omega)]at fb;exact⟨k.ps.length-(i+1),by omega,i+1,⟨rfl,by omega⟩,E.ab [0,8,9],by rw[fb];exact aA.close I⟩
  refine RH 3 E I hH hC λa E=>?_;refine bC E (cI E rfl (s:=35)) (ae E (fe 4 _ rfl)) rfl λa E=>?_;refine RH 2 E I hH hC λa E=>?_;refine E.by (s:=41) (λkn E=>?_) (λkn E=>?_)
  ·
   refine RH 17 E I hH hC λa E=>?_;refine RN 3 E I λa E=>?_;rw[ag (λh=>by have:=h.1;rw[kn]at this;cases this)]at fb;exact⟨k.ps.length-(i+1),by omega,i+1,⟨rfl,by omega⟩,E.ab [0,8,9],by rw[fb];exact aA.close I⟩
  have l4:(ar kk i).frame-1<kk.mr.length:=by omega
  obtain⟨E6,E7,ej,ly⟩:=I.bW A.ch (by omega);have yh:=jy 12 _ rfl;rw[ej]at yh;refine RH 9 E I hH hC λa E=>?_;refine QH E (λw hc=>ae E (hc.cell (fe 3 _ rfl))) hC λa E=>?_;refine QH E (λw hc=>ae E (hc.cell (yh))) hC λa E=>?_;refine RH 0 E I hH hC λa E=>?_;refine bC E (cI E rfl (s:=41)) (ae E (fe 2 _ rfl)) rfl λa E=>?_;refine RH 1 E I hH hC λa E=>?_;rw[show (((ar kk i).frame:Nat):Int)-1=(((ar kk i).frame-1:Nat):Int) from by omega]at E;refine RH 1 E I hH hC λa E=>?_;refine bC E (cI E rfl (s:=41)) (ae E (ly ((ar kk i).frame-1) _ (AJ l4))) rfl λa E=>?_;refine RH 2 E I hH hC λa E=>?_;refine IF 0 E I (λao a E=>?_) λao a E=>?_
  ·
   refine RN 2 E I λa E=>?_;rw[ag (λh=>by have:=h.2.2.2;omega)]at fb;exact⟨k.ps.length-(i+1),by omega,i+1,⟨rfl,by omega⟩,E.ab [0,8,9],by rw[fb];exact aA.close I⟩
  refine RN 1 E I λa E=>?_;rw[al ⟨kn,by omega,by omega,by omega⟩]at fb;refine RN 3 E I λa E=>?_;refine lY (off:=B.op) (k:=i*5+4) E rfl I Ty.t4 rfl (by omega) (by rw[iY jA];omega) λa w E I=>?_;rw[pX jA kk.ps { ar kk i with apart:=true } aG (by decide) (by rw[K6 aG];rfl)]at I;have gW:(kk.ps.set i { ar kk i with apart:=true }).length=kk.ps.length:=bu;rw[show im kk B A=im { kk with ps:=kk.ps.set i { ar kk i with apart:=true } } B A from by simp only[im,gW],← gW]at I;replace I:=aA.mk' (L':=L) (B:=B) (k:={ kk with ps:=kk.ps.set i { ar kk i with apart:=true } }) I A;refine RN 5 E I λa E=>?_;refine SS E (ae E (((aA.rd I).pe i { ar kk i with apart:=true } (by rw[getElem?_set_self aG])) 2 _ rfl)) λa E=>?_;refine CL 1 E I (E5 (e:=(3,i,(ar kk i).frame)) I ⟨by simp,by simp,by have:=jL.n;have:=jL.ps;show i<8;omega,ik.2.2.1,.inl rfl⟩ (by have:=jL.kx;show kk.ev.length≤100;omega)) λa w E I=>?_;refine RN 2 E I λa E=>?_;exact⟨k.ps.length-(i+1),by omega,i+1,⟨rfl,by omega⟩,E.ab [0,8,9],by rw[fb];exact I⟩
 refine RT 0 E I ?_;obtain rfl:i=k.ps.length:=by omega
 exact⟨rfl,I⟩
theorem YC {s:Nat}(I:U W w (aA B k::L))(hk:WC k)(hl:k.mr.length<1000)(xD:s<4294967296):Calls prog 138 #[pt B.cb,.int .u32 s] w λr V=>r=.returned (.tuple #[])∧U W V (aA B (lq k s)::L):=by
 have yi : WC { k with mr := k.mr ++ [s] } := { hk with
     mr:=by show (k.mr++[s]).length≤1000;rw[aM,ji];omega
     rp:=λx hx=>by
      rcases eR.1 hx with hx | hx
      ·exact hk.rp x hx
      ·rw[mem_singleton]at hx;rw[hx];exact xD }
 obtain⟨A,I⟩:=aA.open I;refine EN func138 ntmps138 rfl rfl λa E=>?_;refine RN 5 E I λa E=>?_;replace E:=E.aK 6;refine RN 7 E I λa E=>?_;rw[bq (by omega)]at E;refine RN 8 E I λa E=>?_;refine cp E rfl I underlying69 Ty.t100 rfl rfl rfl rfl (by decide) (by decide) λIP a w E I ho=>?_;clear ho;refine RN 0 E I λa E=>?_;refine cQ E rfl I underlying69 Ty.t100 rfl rfl I.ai rfl (by simp[Value.oneCell']) (by decide) (by decide) (by omega) λqN qO a w E I=>?_;rw[show c4 k.mr++_=c4 (k.mr++[s]) from by rw[c4,c4,cX];rfl,show k.mr.length+1=(k.mr++[s]).length from by simp]at I;rw[show k.mr.length+1=(k.mr++[s]).length from by simp]at E;refine ST 2 E I (λa w E I=>?_);refine RN 0 E I λa E=>?_;replace I:=aA.mk' (B:=B) (L':=L) (k:={ k with mr:=k.mr++[s] }) I { A with ch:=qN,cM:=qO };refine CL 1 E I (K7 I yi) λa w E I=>?_;refine RT 0 E I ?_;exact⟨rfl,by rw[lq,al hl];exact I⟩
theorem YD (I:U W w (aA B k::L)):Calls prog 296 #[pt B.cb] w λr V=>∃ ad c,r=.returned (.slice ad k.ev.length c)∧U W V (Sl 135 1 ad k.ev.length c (k.ev.map cz)::aA B { k with ev:=[] }::L):=by
 obtain⟨A,I⟩:=aA.open I;refine EN func296 ntmps296 rfl rfl λa E=>?_;refine RN 6 E I λa E=>?_;replace E:=E.aK 5;refine ST 11 E I (λa w E I=>?_);refine RT 3 E I ?_;refine⟨A.adE,A.cE,rfl,?_⟩;replace I:=I.bO 135 1 none;refine U.perm (L:=aA B { k with ev:=[] }::Sl 135 1 A.adE k.ev.length A.cE (k.ev.map cz)::L) ?_ (List.Perm.swap _ _ _);refine aA.close (A:=⟨A.cP,A.ch,A.cM,none,0⟩) ?_;exact I.sub (M:=aa B.cb 257 [.int .i64 k.n,.int .i64 k.me,.int .i64 k.id,.int .i64 k.aE,.int .i64 k.bm,.int .i64 k.aX,.int .i64 k.order,.int .i64 k.cm,.int .i64 k.workers,.int .i64 k.room,pt B.qb,.slice (some ⟨B.bp,B.op,none⟩) k.ps.length A.cP,.slice A.ch k.mr.length A.cM,.slice none 0 0,.int .i64 k.now,.bool k.cl]::Sl 259 5 (some ⟨B.bp,B.op,none⟩) k.ps.length A.cP (rows iF k.ps)::Sl 100 1 A.ch k.mr.length A.cM (c4 k.mr)::Sl 135 1 none 0 0 []::Qu B.qb B.aB k.ls::Sl 135 1 A.adE k.ev.length A.cE (k.ev.map cz)::L)
theorem YE (I:U W w (aA B k::L))(hk:WC k):Calls prog 297 #[pt B.cb,.int .u8 (x.toNat:Nat)] w λr V=>r=.returned (.int .i64 (c3 x k).1)∧U W V (aA B (c3 x k).2::L):=by
 have ej:k.me<k.ls.length:=by rw[hk.ls];exact hk.me
 have gL:=hk.lr;have fq:aW k.ls≤aI k:=hk.m7;refine EN func297 ntmps297 rfl rfl λa E=>?_;refine CL 5 E I (yg I) λa w E I=>?_;refine IF 1 E I (λaj a E=>?_) λaj a E=>?_
 ·
  refine RT 2 E I ?_;exact⟨by rw[c3,al aj],by rw[c3,al aj];exact I⟩
 have b9:¬ k.cl=true:=by rw[aj];decide
 refine CL 2 E I (sO I hk) λa w E I=>?_;refine IF 2 E I (λao a E=>?_) λao a E=>?_
 ·
  refine RT 2 E I ?_;exact⟨by rw[c3,ag b9,al (by omega)],by rw[c3,ag b9,al (by omega)];exact I⟩
 refine aY 1 (λw0 V=>ru V B k) [1,6,7,12] [0,2,3,4,8,9,10,11,3005,3012,1001,1006,1007,13,14] E I λa w E I hH=>?_;have hC:=hH.at w (aA.rd I);refine RH 8 E I hH hC λa E=>?_;refine QH E (λw hc=>ae E (hc.cf 10 _ rfl)) hC λa E=>?_;refine QH E (λw hc=>ae E (hc.cf 4 _ rfl)) hC λa E=>?_;refine RH 0 E I hH hC λa E=>?_;refine CL 0 E I (sO I hk) λa w E I=>?_;replace hC:=hH.at w (aA.rd I);obtain⟨D,I,hD⟩:=aA.qu I;refine RH 0 E I hH hC λa E=>?_;refine CL 0 E I (rl I hk.k0 (by rw[hk.ls];exact hk.n.2)) λa w E I=>?_;replace hC:=hH.at w (aA.rd (hD _ _ I));replace I:=hD _ _ I;refine RH 3 E I hH hC λa E=>?_;refine IF 0 E I (λaz a E=>?_) λaz a E=>?_
 ·
  refine RT 2 E I ?_;exact⟨by rw[c3,ag b9,ag (by omega),al (by rw[aw];omega)],by rw[c3,ag b9,ag (by omega),al (by rw[aw];omega)];exact I⟩
 refine aY 1 (λw0 V=>ru V B k) [8] [0,1,2,4,5,6,7,10,3003,1008,1009,1011,12] E I λa w E I hH=>?_;have hC:=hH.at w (aA.rd I);refine RH 8 E I hH hC λa E=>?_;refine QH E (λw hc=>ae E (hc.cf 10 _ rfl)) hC λa E=>?_;refine RH 0 E I hH hC λa E=>?_;refine SS E (ae E (hC.cf 1 _ rfl)) λa E=>?_;obtain⟨D,I,hD⟩:=aA.E4 I;refine RH 0 E I hH hC λa E=>?_;refine CL 0 E I (sM I ej) λa w E I=>?_;refine CL 0 E I (Yf I ej (by simp only[aI]at ao;omega)) λa w E I=>?_;refine RN 1 E I λa E=>?_;refine RT 0 E I ?_;have uv:c3 x k=(0,{ k with ls:=k.ls.set k.me (k.ls.getD k.me []++[x]) }):=by rw[c3,ag b9,ag (by omega),ag (by rw[aw];omega)]
 rw[uv];exact⟨rfl,hD _ _ _ I⟩
end
def mz (l:List Nat):List Value:=l.map λi:Nat=>Value.int .i64 (i:Int)
theorem E8 {l:List Nat}{i j:Nat}(h:l[i]?=some j):(mz l)[i]?=some (.int .i64 (j:Int)):=by rw[mz,bn,h];rfl
def k5 (k:Ks)(i:Nat):List Nat:=(List.range i).filter (·≠k.me)
theorem E9 (k:Ks)(i:Nat):k5 k (i+1)=if i=k.me then k5 k i else k5 k i++[i]:=by
 rw[k5,range_succ,List.filter_append];by_cases h:i=k.me
 ·rw[al h];simp[h,k5]
 ·rw[ag h];simp[h,k5]
theorem K8 (k:Ks):∀ i,(k5 k i).length≤i:=λi=>by
 have:=length_filter_le (λx=>decide (x≠k.me)) (List.range i);rw[length_range]at this;exact this
abbrev Mx:=Option Addr×Nat×Ml
abbrev b6 (x:Mx):List Value:=[.int .i64 x.2.2.1,.int .i64 x.2.2.2.1,.slice x.1 x.2.2.2.2.length x.2.1]
theorem oz (x:Mx):(b6 x).length=3:=rfl
theorem YF (x:Mx):∀ v∈b6 x,v.oneCell'=true:=by
 intro v hv;simp[b6]at hv;rcases hv with rfl | rfl | rfl <;> rfl
def b7 (x:Mx):SP:=Sl 5 1 x.1 x.2.2.2.2.length x.2.1 (bc x.2.2.2.2)
def ct (e:TypeId)(ad:Option Addr)(n c:Nat)(ms:List Ml):SP:=λh=>∃ xs:List Mx,(xs.map (·.2.2)=ms∧ms.length=n)∧cn [Sl e 3 ad n c (rows b6 xs),ah b7 xs] h
section
variable {W w:World}{L L':List SP}{n c i e to:Nat}{ad adP:Option Addr}{k:Ks}{A:ov}{B:pz}{x:UInt8}{ms:List Ml}{p:Pk}
theorem ct.open (I:U W w (ct e ad n c ms::L)):∃ xs:List Mx,xs.map (·.2.2)=ms∧ms.length=n∧U W w (Sl e 3 ad n c (rows b6 xs)::ah b7 xs::L):=by
 obtain⟨xs,⟨h1,h2⟩,I⟩:=I.jt (ι:=List Mx) (p:=λxs=>xs.map (·.2.2)=ms∧ms.length=n) (B:=λxs h=>cn [Sl e 3 ad n c (rows b6 xs),ah b7 xs] h) λ_ ⟨xs,h1,h2⟩=>⟨xs,h1,h2⟩;exact⟨xs,h1,h2,I.open (M:=[_,_]) λ_ h=>h⟩
theorem ct.close {xs:List Mx}(I:U W w (Sl e 3 ad n c (rows b6 xs)::ah b7 xs::L))(h1:xs.map (·.2.2)=ms)(h2:ms.length=n):U W w (ct e ad n c ms::L) :=
 U.shut (M:=[_,_]) I λ_ h=>⟨xs,⟨h1,h2⟩,h⟩
theorem ct.nil (I:U W w L):U W w (ct e none 0 0 []::L):=ct.close (xs:=[]) (U.bO (U.iM I) e 3 none) rfl rfl
theorem Fa (I:U W w (aA B k::L))(hk:WC k):Calls prog 315 #[pt B.cb] w λr V=>∃ ad c,r=.returned (.slice ad (bI k).length c)∧U W V (Sl 3 1 ad (bI k).length c (mz (bI k))::aA B k::L):=by
 have gz:=hk.ps;have hn:=hk.n;obtain⟨A,I⟩:=aA.open I;refine EN func315 ntmps315 rfl rfl λa E=>?_;refine RN 12 E I λa E=>?_;rw[gz]at E;replace I:=aA.close I;replace I:=I.bO 3 1 none;refine aP (λμ a w=>∃ (i:Nat) (ad:Option Addr) (c:Nat),(μ=k.n-i∧i≤k.n)∧Fr a 26 [(0,pt B.cb),(3,.slice ad (k5 k i).length c),(9,.int .i64 k.n),(10,.int .i64 i)]∧U W w (Sl 3 1 ad (k5 k i).length c (mz (k5 k i))::aA B k::L)) (k.n) (⟨0,none,0,⟨rfl,by omega⟩,E.ab [0,3,9,10],I⟩) ?_;clear E I;rintro μ a w ⟨i,ad,c,⟨rfl,hi⟩,E,I⟩;refine IF 3 E I (λaj a E=>?_) λaj a E=>?_
 ·
  have cS:=K8 k i;have lz:=E9 k i;refine RN 10 E I λa E=>?_;refine SS E (ae E (((aA.rd I.tail).cf 1 _ rfl))) λa E=>?_;refine IF 1 E I (λao a E=>?_) λao a E=>?_
  ·
   rw[ag (by omega)]at lz;refine RN 2 E I λa E=>?_;refine cp E rfl I underlying53 Ty.t3 rfl rfl rfl rfl (by decide) (by decide) λtV a w E I ho=>?_;clear ho;refine RN 0 E I λa E=>?_;refine cQ E rfl I underlying53 Ty.t3 rfl rfl I.ai rfl (by simp[Value.oneCell']) (by decide) (by decide) (by omega) λgq gr a w E I=>?_;rw[show mz (k5 k i)++_=mz (k5 k (i+1)) from by rw[lz,mz,mz,cX];rfl,show (k5 k i).length+1=(k5 k (i+1)).length from by rw[lz,aM];rfl]at I;rw[show (k5 k i).length+1=(k5 k (i+1)).length from by rw[lz,aM];rfl]at E;refine RN 3 E I λa E=>?_;exact⟨k.n-(i+1),by omega,i+1,gq,gr,⟨rfl,by omega⟩,E.ab [0,3,9,10],I.sub⟩
  rw[al (by omega)]at lz;refine RN 2 E I λa E=>?_;exact⟨k.n-(i+1),by omega,i+1,ad,c,⟨rfl,by omega⟩,by rw[lz];exact E.ab [0,3,9,10],by rw[lz];exact I⟩
 refine RT 3 E I ?_;obtain rfl:i=k.n:=by omega
 exact⟨ad,c,rfl,I⟩
def sP (k:Ks)(to:Nat)(p:Pk):Pk:={ p with aZ:=k.me,to:=to,id:=k.id }
theorem K9 (I:U W w (aA B k::L))(lP:p.sum<4294967296)(hp:∀ V,U W V (aA B k::L)→aQ V adP p.ak.length p.ak) :
   Calls prog 316 #[pt B.cb,.agg (dL p adP c).toArray,.int .i64 to] w λr V=>∃ av c',r=.returned (.agg (b6 (av,c',(k.me,to,aS (sP k to p)))).toArray)∧U W V (b7 (av,c',(k.me,to,aS (sP k to p)))::aA B k::L):=by
 refine EN func316 ntmps316 rfl rfl λa E=>?_;refine BX 1 E I λb4 a w E I=>?_;simp only[dL]at I;refine AL 0 E I λcG a w E I=>?_;refine aY 1 (λw0 V=>ru V B k) [10,12,13,14] [0,1,2,3,5,6,7,8,9,3004,11,3010,1012,1013,1014,15,1016] E I λa w E I hH=>?_;have hC:=hH.at w (aA.rd (I.pick (aA B k)));refine RH 9 E I hH hC λa E=>?_;refine QH E (λw hc=>ae E (hc.cf 1 _ rfl)) hC λa E=>?_;refine RH 1 E I hH hC λa E=>?_;refine QH E (λw hc=>ae E (hc.cf 2 _ rfl)) hC λa E=>?_;refine RH 0 E I hH hC λa E=>?_;refine ST 0 E I (λa w E I=>?_);replace hC:=hH.at w (aA.rd (I.pick (aA B k)));refine RH 1 E I hH hC λa E=>?_;refine ST 0 E I (λa w E I=>?_);replace hC:=hH.at w (aA.rd (I.pick (aA B k)));refine RH 1 E I hH hC λa E=>?_;refine ST 0 E I (λa w E I=>?_);refine aY 1 (λw0 V=>Rd V b4 0 (dL (sP k to p) adP c)) [3,4,5] [0,2,3001,3003,1004,1005,6,1007] E I λa w E I hH=>?_;have hC:=hH.at w (I.ai (b:=b4));refine RH 2 E I hH hC λa E=>?_;refine QH E (λw hc=>ae E (hc 1 _ rfl)) hC λa E=>?_;refine QH E (λw hc=>ae E (hc 2 _ rfl)) hC λa E=>?_;refine RH 0 E I hH hC λa E=>?_;refine SS E (bR E underlying203 rfl Ty.t203 (hC)) λa E=>?_;refine RH 0 E I hH hC λa E=>?_;refine a6 0 E I (Ki (p:=sP k to p) (ad:=adP) (c:=c) I lP (λV hw=>hp V hw.sub)) λad2 c2 a w E I=>?_;replace hC:=hH.at w (I.ai (b:=b4));refine RH 1 E I hH hC λa E=>?_;refine SA 0 E I λa w E I=>?_;refine RT 0 E I ?_;exact⟨ad2,c2,rfl,I.sub (M:=Sl 5 1 ad2 (aS (sP k to p)).length c2 (bc (aS (sP k to p)))::aA B k::L)⟩
theorem La {l:List Nat}(h:0<l.length):l.getD (l.length-1) 0=l.getLastD 0:=by
 rw[getLastD_eq_getLast?,List.getLast?_eq_getElem?,bl]
theorem YG (k:Ks)(to:Nat):sP k to ⟨1,0,0,0,(ar k to).has,(k.ls.getD to []).length,k.mr.length,k.mr.getLastD 0,((k.ls.getD k.me []).drop (ar k to).has).take 32⟩=dT k to:=rfl
set_option maxHeartbeats 1000000 in
theorem YH (I:U W w (aA B k::L))(hk:WC k)(sQ:to<k.n):Calls prog 319 #[pt B.cb,.int .i64 to] w λr V=>∃ av c',r=.returned (.agg (b6 (av,c',(k.me,to,aS (dT k to)))).toArray)∧U W V (b7 (av,c',(k.me,to,aS (dT k to)))::aA B k::L):=by
 have ej:k.me<k.ls.length:=by rw[hk.ls];exact hk.me
 have de:to<k.ls.length:=by rw[hk.ls];exact sQ
 have YI:to<k.ps.length:=by rw[hk.ps];exact sQ
 have ik:=hk.pw sQ;have l4:=hk.lS hk.me;have e4:=uu YI;have hn:=hk.n;have Lb:=hk.mr;obtain⟨A,I⟩:=aA.open I;refine EN func319 ntmps319 rfl rfl λa E=>?_;refine AL 1 E I λb4 a w E I=>?_;refine RN 0 E I λa E=>?_;refine cc (M:=λa w=>∃ b5:Nat,Fr a 62 [(0,pt B.cb),(1,.int .i64 to),(4,pt b4),(5,pt b5)]∧U W w (aa b5 203 [.int .i64 1,.int .i64 0,.int .i64 0,.int .i64 0,.int .i64 (ar k to).has,.slice none 0 0,.int .i64 (k.ls.getD to []).length,.int .i64 k.mr.length,.int .u32 0]::aa b4 124 [.int .i64 0,.int .i64 0,.slice none 0 0]::aa B.cb 257 (im k B A)::Sl 259 5 (some ⟨B.bp,B.op,none⟩) k.ps.length A.cP (rows iF k.ps)::Sl 100 1 A.ch k.mr.length A.cM (c4 k.mr)::Sl 135 1 A.adE k.ev.length A.cE (k.ev.map cz)::Qu B.qb B.aB k.ls::L)) ?_ ?_
 ·
  refine aY 0 (λw0 V=>Rd V B.cb 0 (im k B A)∧Rd V B.bp (B.op+to*5) (iF (ar k to))) [11,13,14,18,19,21] [0,1,2,4,8,9,10,12,15,16,17,3003,5,6,3007,3011,3018,3019,2013,2014,20,1021,1022] E I λa w E I hH=>?_;have hC:=hH.at w ⟨I.ai (b:=B.cb),jk jA (I.cK B.bp B.op (by omega)) e4⟩;refine RH 11 E I hH hC λa E=>?_;refine QH E (λw hc=>ae E (hc.1 11 _ rfl)) hC λa E=>?_;refine RH 2 E I hH hC λa E=>?_;refine QH E (λw hc=>ae E (hc.2 0 _ rfl)) hC λa E=>?_;refine QH E (λw hc=>ae E (hc.1 10 _ rfl)) hC λa E=>?_;refine QH E (λw hc=>ae E (hc.1 12 _ rfl)) hC λa E=>?_;refine RH 1 E I hH hC λa E=>?_;refine DN [(13,[2014,20,1021,1022]),(21,[1013,1014,20,1022])] (by kernel_rfl) rfl ⟨⟨_,rfl,?_⟩,⟨_,rfl,?_⟩,trivial⟩
  ·
   refine RH 0 E I hH hC λa E=>?_;refine CL 0 E I (sM (I.pick (Qu B.qb B.aB k.ls)) de) λa w E I=>?_;replace hC:=hH.at w ⟨I.ai (b:=B.cb),jk jA (I.cK B.bp B.op (by omega)) e4⟩;refine RH 0 E I hH hC λa E=>?_;refine DN [(14,[20,1021,1022]),(21,[1014,20,1022])] (by kernel_rfl) rfl ⟨⟨_,rfl,?_⟩,⟨_,rfl,?_⟩,trivial⟩
   ·
    refine RH 0 E I hH hC λa E=>?_;refine CL 0 E I (yd (I.pick (Qu B.qb B.aB k.ls)) de) λa w E I=>?_;replace hC:=hH.at w ⟨I.ai (b:=B.cb),jk jA (I.cK B.bp B.op (by omega)) e4⟩;refine RH 1 E I hH hC λa E=>?_;refine eW E rfl I Ty.t203 rfl λb5 a w E I ho=>?_;clear ho;replace hC:=hH.at w ⟨I.ai (b:=B.cb),jk jA (I.cK B.bp B.op (by omega)) e4⟩;refine RH 0 E I hH hC λa E=>?_;refine SA 0 E I λa w E I=>?_;refine RN 0 E I λa E=>?_;exact⟨_,E.ab [0,1,4,5],I.sub⟩
   refine RH 0 E I hH hC λa E=>?_;refine eW E rfl I Ty.t203 rfl λb5 a w E I ho=>?_;clear ho;replace hC:=hH.at w ⟨I.ai (b:=B.cb),jk jA (I.cK B.bp B.op (by omega)) e4⟩;refine RH 0 E I hH hC λa E=>?_;refine CL 0 E I (yd (I.pick (Qu B.qb B.aB k.ls)) de) λa w E I=>?_;replace hC:=hH.at w ⟨I.ai (b:=B.cb),jk jA (I.cK B.bp B.op (by omega)) e4⟩;refine RH 1 E I hH hC λa E=>?_;refine SA 0 E I λa w E I=>?_;refine RN 0 E I λa E=>?_;exact⟨_,E.ab [0,1,4,5],I.sub⟩
  refine RH 0 E I hH hC λa E=>?_;refine eW E rfl I Ty.t203 rfl λb5 a w E I ho=>?_;clear ho;replace hC:=hH.at w ⟨I.ai (b:=B.cb),jk jA (I.cK B.bp B.op (by omega)) e4⟩;refine RH 0 E I hH hC λa E=>?_;refine CL 0 E I (sM (I.pick (Qu B.qb B.aB k.ls)) de) λa w E I=>?_;replace hC:=hH.at w ⟨I.ai (b:=B.cb),jk jA (I.cK B.bp B.op (by omega)) e4⟩;refine RH 0 E I hH hC λa E=>?_;refine CL 0 E I (yd (I.pick (Qu B.qb B.aB k.ls)) de) λa w E I=>?_;replace hC:=hH.at w ⟨I.ai (b:=B.cb),jk jA (I.cK B.bp B.op (by omega)) e4⟩;refine RH 1 E I hH hC λa E=>?_;refine SA 0 E I λa w E I=>?_;refine RN 0 E I λa E=>?_;exact⟨_,E.ab [0,1,4,5],I.sub⟩
 clear E;(try clear I);rintro a w ⟨b5,E,I⟩;refine cc (M:=λa w=>∃ (c1:Option Addr) (dR:Nat),Fr a 62 [(0,pt B.cb),(1,.int .i64 to),(4,pt b4),(5,pt b5)]∧U W w (aa b5 203 [.int .i64 1,.int .i64 0,.int .i64 0,.int .i64 0,.int .i64 (ar k to).has,.slice c1 (((k.ls.getD k.me []).drop (ar k to).has).take 32).length dR,.int .i64 (k.ls.getD to []).length,.int .i64 k.mr.length,.int .u32 0]::Sl 5 1 c1 (((k.ls.getD k.me []).drop (ar k to).has).take 32).length dR (bc (((k.ls.getD k.me []).drop (ar k to).has).take 32))::aa b4 124 [.int .i64 0,.int .i64 0,.slice none 0 0]::aa B.cb 257 (im k B A)::Sl 259 5 (some ⟨B.bp,B.op,none⟩) k.ps.length A.cP (rows iF k.ps)::Sl 100 1 A.ch k.mr.length A.cM (c4 k.mr)::Sl 135 1 A.adE k.ev.length A.cE (k.ev.map cz)::Qu B.qb B.aB k.ls::L)) ?_ ?_
 ·
  refine aY 0 (λw0 V=>Rd V B.cb 0 (im k B A)∧Rd V b5 0 [.int .i64 1,.int .i64 0,.int .i64 0,.int .i64 0,.int .i64 (ar k to).has,.slice none 0 0,.int .i64 (k.ls.getD to []).length,.int .i64 k.mr.length,.int .u32 0]) [8,9,11] [0,1,2,4,5,6,7,10,3003,3008,3011,1009,1012,13,1014] E I λa w E I hH=>?_;have hC:=hH.at w ⟨I.ai (b:=B.cb),I.ai (b:=b5)⟩;refine RH 8 E I hH hC λa E=>?_;refine QH E (λw hc=>ae E (hc.1 10 _ rfl)) hC λa E=>?_;refine QH E (λw hc=>ae E (hc.1 1 _ rfl)) hC λa E=>?_;refine QH E (λw hc=>ae E (hc.2 4 _ rfl)) hC λa E=>?_;refine RH 0 E I hH hC λa E=>?_;refine CL 0 E I (sM (I.pick (Qu B.qb B.aB k.ls)) ej) λa w E I=>?_;replace hC:=hH.at w ⟨I.ai (b:=B.cb),I.ai (b:=b5)⟩;refine RH 0 E I hH hC λa E=>?_;refine a6 0 E I (Yh (k:=32) (I.pick (Qu B.qb B.aB k.ls)) ej l4 ik.1 (by decide)) λc1 dR a w E I=>?_;refine ST 1 E I (λa w E I=>?_);refine RN 0 E I λa E=>?_;exact⟨c1,dR,E.ab [0,1,4,5],I.sub⟩
 clear E;(try clear I);rintro a w ⟨c1,dR,E,I⟩;refine cc (M:=λa w=>Fr a 62 [(0,pt B.cb),(1,.int .i64 to),(4,pt b4),(5,pt b5)]∧U W w (aa b5 203 [.int .i64 1,.int .i64 0,.int .i64 0,.int .i64 0,.int .i64 (ar k to).has,.slice c1 (((k.ls.getD k.me []).drop (ar k to).has).take 32).length dR,.int .i64 (k.ls.getD to []).length,.int .i64 k.mr.length,.int .u32 (k.mr.getLastD 0:Nat)]::Sl 5 1 c1 (((k.ls.getD k.me []).drop (ar k to).has).take 32).length dR (bc (((k.ls.getD k.me []).drop (ar k to).has).take 32))::aa b4 124 [.int .i64 0,.int .i64 0,.slice none 0 0]::aA B k::L)) ?_ ?_
 ·
  refine IF 10 E I (λaj a E=>?_) λaj a E=>?_
  ·
   obtain⟨E6,E7,Fb,ly⟩:=(I.pick (Sl 100 1 A.ch k.mr.length A.cM (c4 k.mr))).bW A.ch (by omega);refine RN 4 E I λa E=>?_;rw[Fb]at E;refine RN 2 E I λa E=>?_;rw[show ((k.mr.length:Nat):Int)-1=((k.mr.length-1:Nat):Int) from by omega]at E;refine RN 1 E I λa E=>?_;refine SS E (ae E (ly (k.mr.length-1) _ (AJ (by omega)))) λa E=>?_;refine ST 1 E I (λa w E I=>?_);refine RN 0 E I λa E=>?_;rw[La (by omega)]at I;exact⟨E.ab [0,1,4,5],(aA.fold I B k A).sub⟩
  refine RN 0 E I λa E=>?_;have h0:k.mr.getLastD 0=0:=by rw[g5 (l:=k.mr) (by omega)];rfl
  exact⟨E.ab [0,1,4,5],by rw[h0];exact (aA.fold I B k A).sub⟩
 clear E;(try clear I);rintro a w ⟨E,I⟩;refine a6 4 E I (K9 (p:=⟨1,0,0,0,(ar k to).has,(k.ls.getD to []).length,k.mr.length,k.mr.getLastD 0,((k.ls.getD k.me []).drop (ar k to).has).take 32⟩) (adP:=c1) (c:=dR) (I.pick (aA B k)) (by
  show k.mr.getLastD 0<4294967296;rw[getLastD_eq_getLast?];cases hl:k.mr.getLast? with
  | none=>decide
  | some s=>exact hk.rp s (List.mem_of_getLast? hl)) (λV hw=>(hw.pick (Sl 5 1 c1 (((k.ls.getD k.me []).drop (ar k to).has).take 32).length dR (bc (((k.ls.getD k.me []).drop (ar k to).has).take 32)))).cu c1 _ rfl rfl)) λad2 c2 a w E I=>?_
 rw[YG]at E I;refine SA 0 E I λa w E I=>?_;refine RT 0 E I ?_;exact⟨ad2,c2,rfl,I.sub⟩
def AK (k:Ks)(j:Nat):List Ml:=((bI k).take j).map λi=>(k.me,i,aS (dT k i))
def AM (k:Ks)(j:Nat):List Ml:=((bI k).take j).map λi=>(k.me,i,aS (gp k i))
theorem Lc (k:Ks):(bI k).length≤k.n:=K8 k k.n
theorem YJ (I:U W w (aA B k::L))(hk:WC k):Calls prog 298 #[pt B.cb] w λr V=>∃ ad c,r=.returned (.slice ad (bG k).1.length c)∧U W V (ct 124 ad (bG k).1.length c (bG k).1::aA B (bG k).2::L):=by
 have hn:=hk.n;have cS:=Lc k;refine EN func298 ntmps298 rfl rfl λa E=>?_;refine CL 5 E I (yg I) λa w E I=>?_;refine IF 0 E I (λaj a E=>?_) λaj a E=>?_
 ·
  refine RT 2 E I ?_;exact⟨none,0,by rw[bG,al aj];rfl,by rw[bG,al aj];exact ct.nil I⟩
 have hq:bG k=((bI k).map λi=>(k.me,i,aS (gp k i)),{ k with cl:=true }):=by rw[bG,ag (by rw[aj];decide)]
 obtain⟨A,I⟩:=aA.open I;refine ST 4 E I (λa w E I=>?_);refine RN 0 E I λa E=>?_;replace I:=aA.mk' (B:=B) (L':=L) (k:={ k with cl:=true }) I A;refine a6 5 E I (Fa I (by exact (hk.lu).1 |> λh=>by rw[hq]at h;exact h)) λmA co a w E I=>?_;refine RN 2 E I λa E=>?_;replace I:=U.bO (U.iM (f:=b7) I) 124 3 none;replace E:Fr a 27 ((14,.int .i64 (0:Nat))::(13,.int .i64 (bI k).length)::(12,.slice mA (bI k).length co)::(3,.slice none 0 0)::(0,pt B.cb)::[]):=E.ab [14,13,12,3,0];refine aP (λμ a w=>∃ (j:Nat) (xs:List Mx) (ad:Option Addr) (c:Nat),(μ=(bI k).length-j∧j≤(bI k).length∧xs.map (·.2.2)=AM k j∧xs.length=j)∧Fr a 27 [(0,pt B.cb),(3,.slice ad j c),(12,.slice mA (bI k).length co),(13,.int .i64 (bI k).length),(14,.int .i64 j)]∧U W w (Sl 124 3 ad j c (rows b6 xs)::ah b7 xs::Sl 3 1 mA (bI k).length co (mz (bI k))::aA B { k with cl:=true }::L)) ((bI k).length) (⟨0,[],none,0,⟨rfl,by omega,rfl,rfl⟩,E.ab [0,3,12,13,14],I⟩) ?_;clear E I;rintro μ a w ⟨j,xs,ad,c,⟨rfl,hj,eG,b0⟩,E,I⟩;refine IF 3 E I (λao a E=>?_) λao a E=>?_
 ·
  obtain⟨i,hi⟩:∃ i,(bI k)[j]?=some i:=⟨_,aF (by omega)⟩;obtain⟨kI,oo,rfl,gA⟩:=(I.pick (Sl 3 1 mA (bI k).length co (mz (bI k)))).bW mA (by omega);refine RN 3 E I λa E=>?_;refine SS E (ae E (gA j _ (E8 hi))) λa E=>?_;refine a6 5 E I (K9 (k:={ k with cl:=true }) (to:=i) (p:=⟨2,0,0,0,0,0,0,0,[]⟩) (adP:=none) (c:=0) (I.pick (aA B { k with cl:=true })) (by decide) (λV hw=>aQ.nil)) λad2 c2 a w E I=>?_;rw[show sP { k with cl:=true } i ⟨2,0,0,0,0,0,0,0,[]⟩=gp k i from rfl]at E I;refine RN 0 E I λa E=>?_;refine cp E rfl I underlying108 Ty.t124 rfl rfl rfl rfl (by decide) (by decide) λxJ a w E I ho=>?_;clear ho;refine RN 0 E I λa E=>?_;refine cQ E rfl I underlying108 Ty.t124 rfl rfl I.ai rfl (by simp[Value.oneCell']) (by decide) (by decide) (by omega) λLd Le a w E I=>?_;rw[show rows b6 xs++_=rows b6 (xs++[(ad2,c2,(k.me,i,aS (gp k i)))]) from by rw[ka];rfl]at I;refine RN 3 E I λa E=>?_;have c6:=U.jG (f:=b7) (x:=(ad2,c2,(k.me,i,aS (gp k i)))) (I.sub (M:=b7 (ad2,c2,(k.me,i,aS (gp k i)))::ah b7 xs::Sl 124 3 Ld (j+1) Le (rows b6 (xs++[(ad2,c2,(k.me,i,aS (gp k i)))]))::Sl 3 1 (some ⟨kI,oo,none⟩) (bI k).length co (mz (bI k))::aA B { k with cl:=true }::L));exact⟨(bI k).length-(j+1),by omega,j+1,xs++[(ad2,c2,(k.me,i,aS (gp k i)))],Ld,Le,⟨rfl,by omega,by
   have eH:j<(bI k).length:=by omega
   rw[cX,eG,AM,AM,iZ eH,cX,(a8.1 hi).2];rfl,by rw[aM,b0];rfl⟩,E.ab [0,3,12,13,14],c6.sub⟩
 refine RT 3 E I ?_;obtain rfl:j=(bI k).length:=by omega
 rw[AM,take_length]at eG;have gW:((bI k).map λi=>(k.me,i,aS (gp k i))).length=(bI k).length:=bg _;rw[hq];refine⟨ad,c,by rw[gW],?_⟩;rw[gW];exact ct.close (xs:=xs) I.sub eG gW
end
theorem Lf {α:Type}{p:α→Bool}:∀ {l:List α} {j:Nat} {x:α},(∀ y∈l.take j,p y=false)→l[j]?=some x→p x=true→l.find? p=some x
 | [],j,x,_,h,_=>by simp at h
 | y::l,0,x,_,h,hp=>by
  obtain rfl:y=x:=by simpa using h
  rw[List.find?_cons,hp]
 | y::l,j+1,x,E,h,hp=>by
  rw[List.find?_cons,E y (by simp)];exact Lf (j:=j) (λz hz=>E z (by rw[take_succ_cons];exact gM _ hz)) (by simpa using h) hp
theorem Lg {α:Type}{p:α→Bool}{l:List α}(h:∀ y∈l,p y=false):l.find? p=none:=by
 rw[List.find?_eq_none];intro y hy hp;rw[h y hy]at hp;cases hp
section
variable {W w:World}{L L' R:List SP}{n c i e to:Nat}{ad adP:Option Addr}{k:Ks}{A:ov}{B:pz}{x:UInt8}{p:Pk}{bs:List UInt8}
theorem YK (I:U W w (aA B k::L))(hk:WC k)(oP:k.now≤1000000):Calls prog 300 #[pt B.cb] w λr V=>∃ ad c,r=.returned (.slice ad (bo k).1.length c)∧U W V (ct 124 ad (bo k).1.length c (bo k).1::aA B (bo k).2::L):=by
 have hn:=hk.n;refine EN func300 ntmps300 rfl rfl λa E=>?_;refine CL 5 E I (yg I) λa w E I=>?_;refine IF 0 E I (λaj a E=>?_) λaj a E=>?_
 ·
  refine RT 2 E I ?_;exact⟨none,0,by rw[bo,al aj];rfl,by rw[bo,al aj];exact ct.nil I⟩
 have hq:bo k=(match (bI { k with now:=k.now+1 }).find? (λi=>decide (jj { k with now:=k.now+1 } i)) with
  | some i=>([],{ k with now:=k.now+1,ev:=k.ev++[(2,i,0)],cl:=true })
  | none=>((bI { k with now:=k.now+1 }).map λi=>(k.me,i,aS (dT { k with now:=k.now+1 } i)),{ k with now:=k.now+1 })):=by rw[bo,ag (by rw[aj];decide)];rfl
 obtain⟨A,I⟩:=aA.open I;refine RN 6 E I λa E=>?_;rw[show ((k.now:Nat):Int)+1=((k.now+1:Nat):Int) from by omega]at E;refine ST 2 E I (λa w E I=>?_);refine RN 0 E I λa E=>?_;replace I:=aA.fold I B { k with now:=k.now+1 } A;have eX:WC { k with now:=k.now+1 }:=hk.AE;have pA:=hk.kx;have Fc:({ k with now:=k.now+1 }:Ks).now≤1000001:=by show k.now+1≤_;omega
 have Fe:({ k with now:=k.now+1 }:Ks).ev.length≤9:=pA;have ia:bo k=(match (bI { k with now:=k.now+1 }).find? (λi=>decide (jj { k with now:=k.now+1 } i)) with
  | some i=>([],{ ({ k with now:=k.now+1 }:Ks) with ev:=({ k with now:=k.now+1 }:Ks).ev++[(2,i,0)],cl:=true })
  | none=>((bI { k with now:=k.now+1 }).map λi=>(({ k with now:=k.now+1 }:Ks).me,i,aS (dT { k with now:=k.now+1 } i)),{ k with now:=k.now+1 })):=hq
 clear hq;have Ff:2≤({ k with now:=k.now+1 }:Ks).n∧({ k with now:=k.now+1 }:Ks).n≤8:=hn;generalize ({ k with now:=k.now+1 }:Ks)=k1 at I eX ia Fc Fe Ff;have cS:=Lc k1;refine a6 5 E I (Fa I eX) λmA co a w E I=>?_;refine RN 2 E I λa E=>?_;replace E:Fr a 61 ((20,.int .i64 (0:Nat))::(19,.int .i64 (bI k1).length)::(18,.slice mA (bI k1).length co)::(3,.slice none 0 0)::(0,pt B.cb)::[]):=E.ab [20,19,18,3,0];refine aP (λμ a w=>∃ (j:Nat),(μ=(bI k1).length-j∧j≤(bI k1).length∧∀ y∈(bI k1).take j,decide (jj k1 y)=false)∧Fr a 61 [(0,pt B.cb),(3,.slice none 0 0),(18,.slice mA (bI k1).length co),(19,.int .i64 (bI k1).length),(20,.int .i64 j)]∧U W w (Sl 3 1 mA (bI k1).length co (mz (bI k1))::aA B k1::L)) ((bI k1).length) (⟨0,⟨rfl,by omega,λy hy=>by simp at hy⟩,E.ab [0,3,18,19,20],I⟩) ?_;clear E I;rintro μ a w ⟨j,⟨rfl,hj,bX⟩,E,I⟩;refine IF 3 E I (λao a E=>?_) λao a E=>?_
 ·
  have eH:j<(bI k1).length:=by omega
  obtain⟨i,hi⟩:∃ i,(bI k1)[j]?=some i:=⟨_,aF eH⟩;obtain⟨kI,oo,rfl,gA⟩:=I.bW mA (by omega);have cF:=(um.1 (bJ hi)).1;have ik:=eX.pw cF;have aG:i<k1.ps.length:=by rw[eX.ps];exact cF
  have qX:=aA.rd (I.tail);obtain⟨cP,eF⟩:=qX.pl;refine RN 3 E I λa E=>?_;refine SS E (ae E (gA j _ (E8 hi))) λa E=>?_;refine RN 2 E I λa E=>?_;have sR:ru w.drew B k1:=aA.rd (I.drew.tail);have tG:w.drew.cell? ⟨B.cb,11,none⟩=some (.slice (some ⟨B.bp,B.op,none⟩) k1.ps.length cP):=eF;refine qJ 0 (Old w.drew) [7,9,10,11] [0,1,2,4,5,6,8,3003,1007,1009,1010,1011,12,13] E I λa E=>?_;replace I:=I.drew;have hH:=Hd.gv I;have hC:=Old.refl w.drew;generalize w.drew=w at I hH hC sR tG ⊢;refine RH 7 E I hH hC λa E=>?_;refine QH E (λw hc=>ae E (hc.cell (sR.now))) hC λa E=>?_;refine RH 0 E I hH hC λa E=>?_;refine SS E (ae E (tG)) λa E=>?_;refine RH 2 E I hH hC λa E=>?_;refine SS E (ae E (sR.pe i _ (uu aG) 1 _ rfl)) λa E=>?_;refine RH 2 E I hH hC λa E=>?_;refine IF 0 E I (λaz a E=>?_) λaz a E=>?_
  ·
   have hlt:jj k1 i:=by rw[jj];omega
   rw[Lf bX hi (dq hlt)]at ia;refine CL 4 E I (E5 (e:=(2,i,0)) (I.pick (aA B k1)) ⟨by simp,by simp,by show i<8;omega,by simp,.inr rfl⟩ (by omega)) λa w E I=>?_;refine RN 1 E I λa E=>?_;obtain⟨A2,I⟩:=aA.open I;refine ST 3 E I (λa w E I=>?_);refine RN 0 E I λa E=>?_;replace I:=aA.fold I B { k1 with ev:=k1.ev++[(2,i,0)],cl:=true } A2;refine RT 2 E I ?_;rw[ia];exact⟨none,0,rfl,ct.nil I.sub⟩
  have hlt:¬ jj k1 i:=by rw[jj];omega
  refine RN 2 E I λa E=>?_;exact⟨(bI k1).length-(j+1),by omega,j+1,⟨rfl,by omega,λy hy=>by
   rw[iZ eH,eR,mem_singleton]at hy;rcases hy with hy | rfl
   ·exact bX y hy
   ·rw[(a8.1 hi).2];exact bq hlt⟩,E.ab [0,3,18,19,20],I⟩
 obtain rfl:j=(bI k1).length:=by omega
 rw[take_length]at bX;rw[Lg bX]at ia;clear bX;refine a6 3 E I (Fa (I.tail) eX) λyj yk a w E I=>?_;refine RN 2 E I λa E=>?_;replace I:=U.bO (U.iM (f:=b7) I) 124 3 none;replace E:Fr a 61 ((49,.int .i64 (0:Nat))::(48,.int .i64 (bI k1).length)::(47,.slice yj (bI k1).length yk)::(3,.slice none 0 0)::(0,pt B.cb)::[]):=E.ab [49,48,47,3,0];refine aP (λμ a w=>∃ (j:Nat) (xs:List Mx) (ad:Option Addr) (c:Nat),(μ=(bI k1).length-j∧j≤(bI k1).length∧xs.map (·.2.2)=AK k1 j∧xs.length=j)∧Fr a 61 [(0,pt B.cb),(3,.slice ad j c),(47,.slice yj (bI k1).length yk),(48,.int .i64 (bI k1).length),(49,.int .i64 j)]∧U W w (Sl 124 3 ad j c (rows b6 xs)::ah b7 xs::Sl 3 1 yj (bI k1).length yk (mz (bI k1))::aA B k1::L)) ((bI k1).length) (⟨0,[],none,0,⟨rfl,by omega,rfl,rfl⟩,E.ab [0,3,47,48,49],I⟩) ?_;clear E I;rintro μ a w ⟨j,xs,ad,c,⟨rfl,hj,eG,b0⟩,E,I⟩;refine IF 3 E I (λbh a E=>?_) λbh a E=>?_
 ·
  obtain⟨i,hi⟩:∃ i,(bI k1)[j]?=some i:=⟨_,aF (by omega)⟩;obtain⟨kI,oo,rfl,gA⟩:=(I.pick (Sl 3 1 yj (bI k1).length yk (mz (bI k1)))).bW yj (by omega);have cF:=(um.1 (bJ hi)).1;refine RN 3 E I λa E=>?_;refine SS E (ae E (gA j _ (E8 hi))) λa E=>?_;refine a6 4 E I (YH (to:=i) (I.pick (aA B k1)) eX cF) λad2 c2 a w E I=>?_;refine RN 0 E I λa E=>?_;refine cp E rfl I underlying108 Ty.t124 rfl rfl rfl rfl (by decide) (by decide) λb57 a w E I ho=>?_;clear ho;refine RN 0 E I λa E=>?_;refine cQ E rfl I underlying108 Ty.t124 rfl rfl I.ai rfl (by simp[Value.oneCell']) (by decide) (by decide) (by omega) λLh Li a w E I=>?_;rw[show rows b6 xs++_=rows b6 (xs++[(ad2,c2,(k1.me,i,aS (dT k1 i)))]) from by rw[ka];rfl]at I;refine RN 3 E I λa E=>?_;have c6:=U.jG (f:=b7) (x:=(ad2,c2,(k1.me,i,aS (dT k1 i)))) (I.sub (M:=b7 (ad2,c2,(k1.me,i,aS (dT k1 i)))::ah b7 xs::Sl 124 3 Lh (j+1) Li (rows b6 (xs++[(ad2,c2,(k1.me,i,aS (dT k1 i)))]))::Sl 3 1 (some ⟨kI,oo,none⟩) (bI k1).length yk (mz (bI k1))::aA B k1::L));exact⟨(bI k1).length-(j+1),by omega,j+1,xs++[(ad2,c2,(k1.me,i,aS (dT k1 i)))],Lh,Li,⟨rfl,by omega,by
   have eH:j<(bI k1).length:=by omega
   rw[cX,eG,AK,AK,iZ eH,cX,(a8.1 hi).2];rfl,by rw[aM,b0];rfl⟩,E.ab [0,3,47,48,49],c6.sub⟩
 refine RT 3 E I ?_;obtain rfl:j=(bI k1).length:=by omega
 rw[AK,take_length]at eG;have gW:((bI k1).map λi=>(k1.me,i,aS (dT k1 i))).length=(bI k1).length:=bg _;rw[ia];refine⟨ad,c,by rw[gW],?_⟩;rw[gW];exact ct.close (xs:=xs) I.sub eG gW
theorem WC.peer (h:WC k){q:Pe}(hi:i<k.n)(hq:q.has≤1000∧q.frame≤1000∧q.sum<4294967296)(hh:q.heard≤k.now)(E:q.apart=(ar k i).apart):WC { k with ps:=k.ps.set i q } :=
 h.AA (ev:=k.ev) (cl:=k.cl) hq hh h.bx (by rw[ET (by rw[h.ps];exact hi) E];exact h.ot)
theorem WC.line (h:WC k){l:List UInt8}(hl:l.length≤1000):WC { k with ls:=k.ls.set i l } :=
 { h with
  ls:=by show (k.ls.set i l).length=_;rw[bu];exact h.ls
  m6:=λy hy=>by
   rcases mem_set hy with hy | rfl
   ·exact h.m6 y hy
   ·exact hl }
theorem Lj {ls:List (List UInt8)}{i j:Nat}{l:List UInt8}(h:i≠j):(ls.set i l).getD j []=ls.getD j []:=by
 rw[bl,getElem?_set_ne h,← bl]
theorem aA.Ll (I:U W w L)(B:pz)(k:Ks)(A:ov)(q1 q2:Pe)[kk:fE L [aa B.cb 257 (im { k with ps:=k.ps.set i q1 } B A),Sl 259 5 (some ⟨B.bp,B.op,none⟩) (k.ps.set i q1).length A.cP (rows iF (k.ps.set i q2)),Sl 100 1 A.ch k.mr.length A.cM (c4 k.mr),Sl 135 1 A.adE k.ev.length A.cE (k.ev.map cz),Qu B.qb B.aB k.ls] R]:U W w (aA B { k with ps:=k.ps.set i q2 }::R):=by
 have h1:=I.perm kk.perm;rw[show im { k with ps:=k.ps.set i q1 } B A=im { k with ps:=k.ps.set i q2 } B A from by simp only[im,bu],show (k.ps.set i q1).length=(k.ps.set i q2).length from by simp only[bu]]at h1;exact aA.close (A:=A) h1
theorem aA.YL (I:U W w L)(B:pz)(k:Ks)(A:ov)(q2:Pe)[kk:fE L [aa B.cb 257 (im k B A),Sl 259 5 (some ⟨B.bp,B.op,none⟩) k.ps.length A.cP (rows iF (k.ps.set i q2)),Sl 100 1 A.ch k.mr.length A.cM (c4 k.mr),Sl 135 1 A.adE k.ev.length A.cE (k.ev.map cz),Qu B.qb B.aB k.ls] R]:U W w (aA B { k with ps:=k.ps.set i q2 }::R):=by
 have h1:=I.perm kk.perm;rw[show im k B A=im { k with ps:=k.ps.set i q2 } B A from by simp only[im,bu],show k.ps.length=(k.ps.set i q2).length from by simp only[bu]]at h1;exact aA.close (A:=A) h1
theorem AN (h:k.cl=true):dD bs k=(6,k):=by rw[dD,al h]
theorem Lm (h:k.cl=false)(hd:eB bs=none):dD bs k=(1,k):=by rw[dD,ag (by rw[h];decide),hd]
theorem we (h:k.cl=false)(hd:eB bs=some p)(hx:p.to≠k.me∨(k.n:Int)≤p.aZ∨p.id≠k.id):dD bs k=(1,k):=by
 rw[dD,ag (by rw[h];decide),hd];show (if _ then _ else _)=_;rw[al hx]
theorem Lo (h:k.cl=false)(hd:eB bs=some p)(hx:¬ (p.to≠k.me∨(k.n:Int)≤p.aZ∨p.id≠k.id)):dD bs k=(0,fS k p):=by
 rw[dD,ag (by rw[h];decide),hd];show (if _ then _ else _)=_;rw[ag hx]
set_option maxHeartbeats 2000000 in
theorem YM (I:U W w (aA B k::L))(hk:WC k)(hb:bs.length≤65536)(hc:bs.length≤c)(hp:∀ V,U W V L→aQ V ad bs.length bs) :
   Calls prog 299 #[pt B.cb,.slice ad bs.length c] w λr V=>r=.returned (.int .i64 (dD bs k).1)∧U W V (aA B (dD bs k).2::L):=by
 have hn:=hk.n;refine EN func299 ntmps299 rfl rfl λa E=>?_;refine CL 5 E I (yg I) λa w E I=>?_;refine IF 0 E I (λaj a E=>?_) λaj a E=>?_
 ·
  refine RT 2 E I ?_;exact⟨by rw[AN aj],by rw[AN aj];exact I⟩
 refine jJ 2 E I (XV I hb hc (λV hw=>hp V hw.tail)) ?_;clear E I;rintro e w ⟨p,adP,cP,ok,rfl,hd,I⟩;refine⟨_,rfl,λa E=>?_⟩;refine AL 3 E I λb5 a w E I=>?_;refine SA 0 E I λa w E I=>?_;refine RN 3 E I λa E=>?_;obtain⟨A,I⟩:=aA.open (I.pick (aA B k));refine bS 0 [9,19,29] [0,1,2,3,5,6,7,8,3004,1009,10,11,12,13,15,16,17,18,3014,1019,20,21,22,23,25,26,27,28,3024,1029,30,31] E I λa w E I hH hC=>?_;refine RH 3 E I hH hC λa E=>?_;refine E.by (s:=17) (λbA E=>?_) (λbA E=>?_)
 ·
  have dt:ok=false:=by cases ok with | false=>rfl | true=>exact absurd rfl bA
  have dc:eB bs=none:=by
   rcases hd with ⟨h,_⟩ | ⟨_,h,_⟩
   ·rw[dt]at h;cases h
   ·exact h
  refine RH 29 E I hH hC λa E=>?_;refine RT 3 E I ?_;rw[Lm aj dc];exact⟨rfl,(aA.fold I B k A).sub⟩
 have dt:ok=true:=by cases ok with | true=>rfl | false=>exact absurd bA (by decide)
 have pB:eB bs=some p:=by
  rcases hd with ⟨_,h⟩ | ⟨h,_⟩
  ·exact h
  ·rw[dt]at h;cases h
 obtain⟨sS,gz,_⟩:=Eh pB;have Fg:=sS.1;refine RH 10 E I hH hC λa E=>?_;refine E.by (s:=27) (λhV E=>?_) (λhV E=>?_)
 ·
  refine RH 19 E I hH hC λa E=>?_;refine RT 3 E I ?_;rw[we aj pB (.inl hV)];exact⟨rfl,(aA.fold I B k A).sub⟩
 refine RH 10 E I hH hC λa E=>?_;refine E.by (s:=37) (λpj E=>?_) (λpj E=>?_)
 ·
  refine RH 9 E I hH hC λa E=>?_;refine RT 3 E I ?_;rw[we aj pB (.inr (.inl pj))];exact⟨rfl,(aA.fold I B k A).sub⟩
 refine RH 9 E I hH hC λa E=>?_;refine IF 0 E I (λao a E=>?_) λao a E=>?_
 ·
  refine RT 2 E I ?_;rw[we aj pB (.inr (.inr ao))];exact⟨rfl,(aA.fold I B k A).sub⟩
 have bX:¬ (p.to≠k.me∨(k.n:Int)≤p.aZ∨p.id≠k.id):=by
  rintro (h | h | h)
  ·exact h hV
  ·omega
  ·exact h ao
 rw[Lo aj pB bX];clear hd dt;obtain⟨fr,fq⟩:=Int.eq_ofNat_of_zero_le Fg.1;have gZ:fr<k.n:=by omega
 have eS:fr<k.ls.length:=by rw[hk.ls];exact gZ
 have m8:fr<k.ps.length:=by rw[hk.ps];exact gZ
 have Fh:fr≠k.me:=by have:=sS.2.2.1;omega
 have ik:=hk.pw gZ;have jz:p.aZ.toNat=fr:=by omega
 refine bS 1 [5] [0,1,2,4,3003,1005,6,7] E I λa w E I hH hC=>?_;refine RH 6 E I hH hC λa E=>?_;rw[fq]at E;refine RH 2 E I hH hC λa E=>?_;refine RN 8 E I λa E=>?_;refine lY (off:=B.op) (k:=fr*5+1) E rfl I Ty.t3 rfl (by omega) (by rw[iY jA];omega) λa w E I=>?_;rw[pX jA k.ps { ar k fr with heard:=k.now } m8 (by decide) (by rw[K6 m8];rfl)]at I;have ca:=hk.peer (q:={ ar k fr with heard:=k.now }) gZ ⟨ik.1,ik.2.2⟩ (bk _) rfl;replace I:=aA.YL (i:=fr) I B k A { ar k fr with heard:=k.now };refine IF 5 E I (λaz a E=>?_) λaz a E=>?_
 ·
  refine RN 4 E I λa E=>?_;rw[fq]at E;refine CL 1 E I (E5 (e:=(1,fr,0)) I ⟨by simp,by simp,by show fr<8;omega,by simp,.inr rfl⟩ (by have:=hk.kx;show k.ev.length≤100;omega)) λa w E I=>?_;refine RN 1 E I λa E=>?_;obtain⟨A2,I⟩:=aA.open I;refine ST 3 E I (λa w E I=>?_);refine RN 0 E I λa E=>?_;replace I:=aA.fold I B { k with ps:=k.ps.set fr { ar k fr with heard:=k.now },ev:=k.ev++[(1,fr,0)],cl:=true } A2;refine RT 2 E I ?_;refine⟨rfl,?_⟩;rw[fS,al az,jz];exact I.sub
 refine RN 1 E I λa E=>?_;have gS:eK p.first∧eK p.dd∧eK p.frame∧p.ak.length≤32:=by
  rcases sS.2.2.2.2 with h | h
  ·exact h.2
  ·exact absurd h.1 az
 simp only[eK]at gS;obtain⟨fi,wg⟩:=Int.eq_ofNat_of_zero_le gS.1.1;obtain⟨jl,AO⟩:=Int.eq_ofNat_of_zero_le gS.2.1.1;obtain⟨j0,Fi⟩:=Int.eq_ofNat_of_zero_le gS.2.2.1.1;obtain⟨D,I,hD⟩:=aA.E4 I;have Lp:∀ V L',U W V (Qu B.qb B.aB k.ls::D::L')→ru V B { k with ps:=k.ps.set fr { ar k fr with heard:=k.now } }:=λV L' h=>aA.rd (hD V L' _ h);refine aY 0 (λw0 V=>Rd V b5 0 (dL p adP cP)∧ru V B { k with ps:=k.ps.set fr { ar k fr with heard:=k.now } }) [5,6,8,10] [0,1,2,4,7,9,3003,3005,3008,3010,1006,1011] E I λa w E I hH=>?_;have hC:=hH.at w ⟨I.ai (b:=b5),Lp _ _ I⟩;refine RH 6 E I hH hC λa E=>?_;refine QH E (λw hc=>ae E (hc.2.cf 10 _ rfl)) hC λa E=>?_;refine QH E (λw hc=>ae E (hc.1 1 _ rfl)) hC λa E=>?_;rw[fq]at E;refine RH 0 E I hH hC λa E=>?_;refine QH E (λw hc=>ae E (hc.1 4 _ rfl)) hC λa E=>?_;rw[wg]at E;refine RH 0 E I hH hC λa E=>?_;refine QH E (λw hc=>ae E (hc.1 5 _ rfl)) hC λa E=>?_;refine RH 0 E I hH hC λa E=>?_;refine CL 0 E I (sM I eS) λa w E I=>?_;replace hC:=hH.at w ⟨I.ai (b:=b5),Lp _ _ I⟩;refine RH 0 E I hH hC λa E=>?_;refine a6 0 E I (Yg (fr:=fi) (bs:=p.ak) I eS (hk.lS gZ) (by omega) (λV hw=>(hw.pick (Sl 5 1 adP p.ak.length cP (bc p.ak))).cu adP p.ak rfl rfl)) λLq er a w E I=>?_;refine RN 0 E I λa E=>?_;replace I:=hD _ _ _ I;have l7:=ca.line (i:=fr) (l:=dw (k.ls.getD fr []) fi p.ak) (rk (hk.lS gZ)).2;have gL:aI ({ k with ls:=k.ls.set fr (dw (k.ls.getD fr []) fi p.ak),ps:=k.ps.set fr { ar k fr with heard:=k.now } }:Ks)=aI k:=by
  show ((k.ls.set fr _).getD k.me []).length=_;rw[Lj Fh];rfl
 have wi:(k.ps.set fr { ar k fr with heard:=k.now })[fr]?=some { ar k fr with heard:=k.now }:=getElem?_set_self m8;refine cc (M:=λa w=>∃ hh:Nat,hh=(if (ar k fr).has<jl∧jl≤aI k then jl else (ar k fr).has)∧Fr a 127 [(0,pt B.cb),(5,pt b5),(7,.pointer (some ⟨B.bp,B.op+fr*5,none⟩))]∧U W w (aA B { k with ls:=k.ls.set fr (dw (k.ls.getD fr []) fi p.ak),ps:=k.ps.set fr { ar k fr with heard:=k.now,has:=hh } }::aa b5 203 (dL p adP cP)::L)) ?_ ?_
 ·
  refine aY 1 (λw0 V=>Rd V b5 0 (dL p adP cP)∧ru V B { k with ls:=k.ls.set fr (dw (k.ls.getD fr []) fi p.ak),ps:=k.ps.set fr { ar k fr with heard:=k.now } }) [5,11] [0,2,3,4,3001,1005,6,7,8,10,3009,1011,12,13] E I λa w E I hH=>?_;have hC:=hH.at w ⟨I.ai (b:=b5),aA.rd I⟩;refine RH 4 E I hH hC λa E=>?_;refine QH E (λw hc=>ae E (hc.1 6 _ rfl)) hC λa E=>?_;refine RH 0 E I hH hC λa E=>?_;refine SS E (ae E (hC.2.pe fr _ wi 0 (.int .i64 (ar k fr).has) rfl)) λa E=>?_;refine RH 2 E I hH hC λa E=>?_;refine E.by (s:=91) (λiB E=>?_) (λiB E=>?_)
  ·
   refine RH 2 E I hH hC λa E=>?_;refine QH E (λw hc=>ae E (hc.1 6 _ rfl)) hC λa E=>?_;refine RH 0 E I hH hC λa E=>?_;refine CL 0 E I (sO I l7) λa w E I=>?_;replace hC:=hH.at w ⟨I.ai (b:=b5),aA.rd I⟩;rw[gL]at E;refine RH 2 E I hH hC λa E=>?_;refine IF 0 E I (λbh a E=>?_) λbh a E=>?_
   ·
    obtain⟨A2,I⟩:=aA.open I;refine RN 3 E I λa E=>?_;rw[AO]at E;refine RN 2 E I λa E=>?_;refine lY (off:=B.op) (k:=fr*5+0) E rfl I Ty.t3 rfl (by omega) (by rw[iY jA,bu];omega) λa w E I=>?_;rw[pX jA (k.ps.set fr { ar k fr with heard:=k.now }) { ar k fr with heard:=k.now,has:=jl } (by rw[bu];exact m8) (by decide) (by rw[getElem_set_self];rfl),set_set]at I;replace I:=aA.Ll (i:=fr) I B { k with ls:=k.ls.set fr (dw (k.ls.getD fr []) fi p.ak) } A2 { ar k fr with heard:=k.now } { ar k fr with heard:=k.now,has:=jl };refine RN 0 E I λa E=>?_;exact⟨jl,by rw[al ⟨by omega,by omega⟩],E.ab [0,5,7],I.sub⟩
   refine RN 0 E I λa E=>?_;exact⟨_,by rw[ag (by omega)],E.ab [0,5,7],I.sub⟩
  refine RH 6 E I hH hC λa E=>?_;refine RN 1 E I λa E=>?_;exact⟨_,by rw[ag (by omega)],E.ab [0,5,7],I.sub⟩
 clear E;(try clear I);rintro a w ⟨hh,yl,E,I⟩;refine cc (M:=λa w=>∃ q:Pe,(q=fR k.now (aI k) p (ar k fr)∧WC { k with ls:=k.ls.set fr (dw (k.ls.getD fr []) fi p.ak),ps:=k.ps.set fr q })∧Fr a 127 [(0,pt B.cb)]∧U W w (aA B { k with ls:=k.ls.set fr (dw (k.ls.getD fr []) fi p.ak),ps:=k.ps.set fr q }::aa b5 203 (dL p adP cP)::L)) ?_ ?_
 ·
  refine bS 1 [9] [0,1001,2,3,4,6,7,8,3005,1009,10,11] E I λa w E I hH hC=>?_;have wj:(k.ps.set fr { ar k fr with heard:=k.now,has:=hh })[fr]?=some { ar k fr with heard:=k.now,has:=hh }:=getElem?_set_self m8;have qX:ru w B { k with ls:=k.ls.set fr (dw (k.ls.getD fr []) fi p.ak),ps:=k.ps.set fr { ar k fr with heard:=k.now,has:=hh } }:=aA.rd I;have Fj:p.dd.toNat=jl:=by omega
  have Fk:p.frame.toNat=j0:=by omega
  have hP:fR k.now (aI k) p (ar k fr)=(if 0<p.frame∧((ar k fr).frame:Int)≤p.frame then { ar k fr with heard:=k.now,has:=hh,frame:=j0,sum:=p.sum } else { ar k fr with heard:=k.now,has:=hh }):=by
   rw[fR,Fj,Fk,yl]
  have uw:hh≤1000:=by rw[yl];split <;> omega
  refine RH 4 E I hH hC λa E=>?_;refine E.by (s:=106) (λbF E=>?_) (λbF E=>?_)
  ·
   refine RH 5 E I hH hC λa E=>?_;refine bC E (cI E rfl (s:=106)) (ae E (qX.pe fr _ wj 2 (.int .i64 (ar k fr).frame) rfl)) rfl λa E=>?_;refine RH 2 E I hH hC λa E=>?_;refine IF 0 E I (λbQ a E=>?_) λbQ a E=>?_
   ·
    refine RN 0 E I λa E=>?_;obtain⟨A3,I⟩:=aA.open I;refine aY 0 (λw0 V=>Rd V b5 0 (dL p adP cP)) [5,8] [0,1,2,4,3003,6,7,3005,1008,9,10,1011] E I λa w E I hH=>?_;have hC:=hH.at w (I.ai (b:=b5));refine RH 4 E I hH hC λa E=>?_;refine QH E (λw hc=>ae E (hc 7 _ rfl)) hC λa E=>?_;rw[Fi]at E;refine RH 2 E I hH hC λa E=>?_;refine QH E (λw hc=>ae E (hc 8 _ rfl)) hC λa E=>?_;refine RH 0 E I hH hC λa E=>?_;refine lY (off:=B.op) (k:=fr*5+2) E rfl I Ty.t3 rfl (by omega) (by rw[iY jA,bu];omega) λa w E I=>?_;replace hC:=hH.at w (I.ai (b:=b5));rw[pX jA (k.ps.set fr { ar k fr with heard:=k.now,has:=hh }) { ar k fr with heard:=k.now,has:=hh,frame:=j0 } (by rw[bu];exact m8) (by decide) (by rw[getElem_set_self];rfl),set_set]at I;refine RH 2 E I hH hC λa E=>?_;refine lY (off:=B.op) (k:=fr*5+3) E rfl I Ty.t100 rfl (by omega) (by rw[iY jA,bu];omega) λa w E I=>?_;rw[pX jA (k.ps.set fr { ar k fr with heard:=k.now,has:=hh,frame:=j0 }) { ar k fr with heard:=k.now,has:=hh,frame:=j0,sum:=p.sum } (by rw[bu];exact m8) (by decide) (by rw[getElem_set_self];rfl),set_set]at I;replace I:=aA.Ll (i:=fr) I B { k with ls:=k.ls.set fr (dw (k.ls.getD fr []) fi p.ak) } A3 { ar k fr with heard:=k.now,has:=hh } { ar k fr with heard:=k.now,has:=hh,frame:=j0,sum:=p.sum };refine RN 0 E I λa E=>?_;exact⟨_,⟨by rw[hP,al (by omega)],(hk.peer (q:={ ar k fr with heard:=k.now,has:=hh,frame:=j0,sum:=p.sum }) gZ ⟨uw,by show j0≤1000;omega,gz⟩ (bk _) rfl).line (rk (hk.lS gZ)).2⟩,E.ab [0],I.sub⟩
   refine RN 0 E I λa E=>?_;exact⟨_,⟨by rw[hP,ag (by omega)],(hk.peer (q:={ ar k fr with heard:=k.now,has:=hh }) gZ ⟨uw,ik.2.2⟩ (bk _) rfl).line (rk (hk.lS gZ)).2⟩,E.ab [0],I⟩
  refine RH 8 E I hH hC λa E=>?_;refine RN 1 E I λa E=>?_;exact⟨_,⟨by rw[hP,ag (by omega)],(hk.peer (q:={ ar k fr with heard:=k.now,has:=hh }) gZ ⟨uw,ik.2.2⟩ (bk _) rfl).line (rk (hk.lS gZ)).2⟩,E.ab [0],I⟩
 clear E;(try clear I);rintro a w ⟨q,⟨YN,og⟩,E,I⟩;refine CL 2 E I (K7 I og) λa w E I=>?_;refine RT 2 E I ?_;refine⟨rfl,?_⟩;have ym:p.first.toNat=fi:=by omega
 rw[fS,ag az,jz,ym,← YN];exact I.sub
end
end
section
section
variable {W w:World}{L:List SP}{c cO cP q:Nat}{aq adP:Option Addr}{b:List UInt8}{g:Nat→Int}{p:Pr}{fr:Int}{bad:Bool}
def Jv (q:Nat)(g:Nat→Int)(bad:Bool):SP:=λh=>(dQ g∧bad=false)∧aa q 296 (ints .i32 32 g) h
theorem Jv.open (I:U W w (Jv q g bad::L)):(dQ g∧bad=false)∧U W w (aa q 296 (ints .i32 32 g)::L):=by
 obtain⟨_,h1,h2⟩:=I.jt (ι:=Unit) (p:=λ_=>dQ g∧bad=false) (B:=λ_=>aa q 296 (ints .i32 32 g)) (λh ⟨h1,h2⟩=>⟨(),h1,h2⟩);exact⟨h1,h2⟩
theorem Jv.close (I:U W w (aa q 296 (ints .i32 32 g)::L))(h1:dQ g):U W w (Jv q g false::L) :=
 U.shut (M:=[_]) I (λ_ ⟨_,_,_,a,b,x,_⟩=>⟨⟨h1,rfl⟩,a _ _ x⟩)
theorem YO {c:Nat}(hc:c<32)(I:U W w (Jv q g bad::L)):Calls prog 351 (List.toArray [pt q,.int .i64 c]) w λe V=>e=.returned (.int .i32 (g c))∧U W V (Jv q g bad::L):=by
 have hj:=Jv.open I;clear I;obtain⟨⟨h1,rfl⟩,I⟩:=hj;refine EN func351 ntmps351 rfl rfl λa E=>?_;refine RN 8 E I λa E=>?_;refine SS E (ae E (I.bz (fO _ hc))) λa E=>?_;refine RT 1 E I ?_;exact⟨rfl,Jv.close I h1⟩
theorem YP {c:Nat}{v:Int}(hc:c<32)(hv:du v)(I:U W w (Jv q g bad::L)):Calls prog 352 (List.toArray [pt q,.int .i64 c,.int .i32 v]) w λe V =>
   ∃ (g':Nat→Int) (fp:Bool),e=.returned (.tuple #[])∧((fp=true∧g'=g)∨(fp=false∧bad=false∧g'=ck g c v))∧U W V (Jv q g' fp::L):=by
 have hj:=Jv.open I;clear I;obtain⟨⟨h1,rfl⟩,I⟩:=hj;refine EN func352 ntmps352 rfl rfl λa E=>?_;refine ST 6 E I (λa w E I=>?_) (hlt:=(by rw[dm];exact hc));rw[ints_set]at I;refine RT 0 E I ?_;exact⟨ck g c v,false,rfl,.inr ⟨rfl,rfl,rfl⟩,Jv.close I (nA h1 hv)⟩
theorem YQ:xF W 294 ⟨q,0,none⟩ 351 352 (Jv q) where
 n4:=λad w=>by kernel_rfl
 oa:=(by kernel_rfl)
 zN:=λad w=>by kernel_rfl
 vj:=(by kernel_rfl)
 ok:=λw L g bad h=>(Jv.open h).1.1
 get:=λw L g bad c hc h=>YO hc h
 set:=λw L g bad c v hc hv h=>YP hc hv h
theorem Lr (I:U W w (ay W p aq cO::L))(a7:db p)(aC:p.title.size≤1000000000)(hg:dQ g)(hb:b.length≤1099511627776)(hp:∀ V,U W V L→aQ V adP b.length b) :
   Calls prog 137 #[.agg (bw p aq cO).toArray,.agg (ints .i32 32 g).toArray,.int .i64 fr,.slice adP b.length cP] w λe V=>e=.returned (.agg (ints .i32 32 (e0 p fr b g)).toArray)∧U W V (ay W p aq cO::L):=by
 refine EN func137 ntmps137 rfl rfl λa E=>?_;refine BX 1 E I λb4 a w E I=>?_;change U W w (aa b4 45 (bw p aq cO)::_) at I;refine BX 0 E I λb5 a w E I=>?_;refine AL 0 E I λb8 a w E I=>?_;change U W w (aa b8 183 (ints .i32 32 (λ_=>0))::_) at I;refine RN 2 E I λa E=>?_;refine SK (bC E rfl (HJ E Ty.QW Ty.t296 (cs:=ints .i32 32 g) rfl) rfl ?_);clear E a;intro a E;refine BX 0 E I λFl a w E I=>?_;refine RN 7 E I λa E=>?_;replace I:=Jv.close (I.jD Fl) hg;refine jI 0 E I (Jq (M:=YQ (q:=Fl)) (L:=aa b8 183 (ints .i32 32 (λ_=>0))::L) (I.sub (M:=Jv Fl g false::ay W p aq cO::aa b8 183 (ints .i32 32 (λ_=>0))::L)) a7 aC hb (λV hw=>hp V hw.tail)) λg' fp Lq a w E ⟨oe,I⟩=>?_;refine RN 1 E I λa E=>?_;have hj:=Jv.open I;clear I;obtain⟨⟨hg',rfl⟩,I⟩:=hj;obtain⟨_,rfl⟩:=oe rfl;refine SA 4 E I λa w E I=>?_;refine RT 0 E I ?_;exact⟨rfl,I.sub⟩
theorem Ls {P:List (List UInt8)}{zs:List ed}(I:U W w (ay W p aq cO::L))(a7:db p)(aC:p.title.size≤1000000000)(hg:dQ g)(hP:P.length≤65536∧∀ b∈P,b.length≤1099511627776)(hf:-1099511627776≤fr∧fr≤1099511627776)(hz:zs.map (·.2.2)=P)(hp:∀ V,U W V L→ix V adP zs) :
   Calls prog 280 #[.agg (bw p aq cO).toArray,.agg (ints .i32 32 g).toArray,.int .i64 fr,.slice adP P.length cP] w λe V=>e=.returned (.agg (ints .i32 32 (foldI p fr g P)).toArray)∧U W V (ay W p aq cO::L):=by
 have iW:zs.length=P.length:=by rw[← hz,bg]
 have sD:=hP.1;refine EN func280 ntmps280 rfl rfl λa E=>?_;refine BX 1 E I λb4 a w E I=>?_;change U W w (aa b4 45 (bw p aq cO)::_) at I;refine BX 0 E I λb5 a w E I=>?_;refine AL 0 E I λb8 a w E I=>?_;change U W w (aa b8 183 (ints .i32 32 (λ_=>0))::_) at I;refine RN 5 E I λa E=>?_;refine aP (λμ a w=>∃ (i:Nat) (g':Nat→Int),(μ=P.length-i∧i≤P.length∧dQ g'∧foldI p fr g P=foldI p (fr+i) g' (P.drop i))∧Fr a 27 [(2,.int .i64 fr),(4,pt b4),(5,pt b5),(8,pt b8),(11,.slice adP P.length cP),(12,.int .i64 P.length),(13,.int .i64 i)]∧U W w (aa b5 183 (ints .i32 32 g')::aa b4 45 (bw p aq cO)::aa b8 183 (ints .i32 32 (λ_=>0))::ay W p aq cO::L)) (P.length) (⟨0,g,⟨by simp,by simp,hg,by simp⟩,E.ab [2,4,5,8,11,12,13],I.sub⟩) ?_;clear E I;rintro μ a w ⟨i,g',⟨rfl,hi,eJ,lH⟩,E,I⟩;refine IF 3 E I (λaj a E=>?_) λaj a E=>?_
 ·
  obtain⟨z,kq⟩:∃ z,zs[i]?=some z:=⟨_,aF (by omega)⟩;have p5:P[i]?=some z.2.2:=by rw[← hz,bn,kq];rfl
  obtain⟨bp,op,rfl,dk⟩:=(hp _ (I.sub (M:=L))).1 (by omega);have Fm:=dk i (aL z) (by rw[bn,kq];rfl);have pC:=hP.2 _ (bJ p5);have DY:foldI p fr g P=foldI p (fr+(i+1:Nat)) (e0 p (fr+i) z.2.2 g') (P.drop (i+1)):=by
   rw[lH,kb (by omega),foldI];have:P[i]'(by omega)=z.2.2:=by rw[aF (by omega)]at p5;exact Option.some.inj p5
   rw[this]
   congr 1
   omega
  refine RN 4 E I λa E=>?_;refine SS E (ae E (Fm)) λa E=>?_;rw[aL]at E;refine CL 8 E I (Lr (I.pick (ay W p aq cO)) a7 aC eJ pC (λV hw=>(hp V hw.sub).2 z (bJ kq))) λa w E I=>?_;refine SA 0 E I λa w E I=>?_;refine RN 2 E I λa E=>?_;exact⟨P.length-(i+1),by omega,i+1,_,⟨rfl,by omega,KT a7 eJ,DY⟩,E.ab [2,4,5,8,11,12,13],I.sub⟩
 refine RN 1 E I λa E=>?_;obtain rfl:i=P.length:=by omega
 rw[List.drop_length,foldI]at lH;refine SA 1 E I λa w E I=>?_;refine RT 0 E I ?_;exact⟨by rw[lH],I.sub⟩
end
end
section
theorem qm (k:IntKind)(m:Nat)(x:Int):List.replicate m (Value.int k x)=ints k m (λ_=>x):=by
 apply ext_getElem (by simp[ints,fn]);intro i h1 h2;simp[ints,fn]
abbrev dr (b:Gs)(adT:Option Addr)(cT:Nat):List Value:=[.int .i64 b.kind,.int .i64 b.order,.slice adT b.table.length cT]
theorem YR (l:List UInt8)(k:Nat):bc (l.drop k)=(bc l).drop k:=by rw[bc,bc,map_drop]
section
variable {W w:World}{L:List SP}{n c m cT:Nat}{ad adT:Option Addr}{past:List UInt8}{b:Gs}
theorem yn (I:U W w L):Calls prog 98 #[.agg (dr b adT cT).toArray] w λe V=>∃ r:Bool,e=.returned (.bool r)∧(r=true↔cY b)∧U W V L:=by
 refine EN func98 ntmps98 rfl rfl λa E=>?_;refine BX 1 E I λb1 a w E I=>?_;change U W w (aa b1 186 (dr b adT cT)::_) at I;refine IF 8 E I (λaj a E=>?_) λaj a E=>?_
 ·
  refine BY 5 E I (λbF a E=>?_) λbF a E=>?_
  ·
   refine RT 6 E I ?_;exact⟨_,rfl,(by rw[cr,cY];omega),I.sub⟩
  refine RT 6 E I ?_;exact⟨_,rfl,⟨λh=>(by cases h),λh=>by rw[cY]at h;exfalso;omega⟩,I.sub⟩
 refine IF 3 E I (λao a E=>?_) λao a E=>?_
 ·
  refine BY 5 E I (λbF a E=>?_) λbF a E=>?_
  ·
   refine BY 5 E I (λeh a E=>?_) λeh a E=>?_
   ·
    refine RT 6 E I ?_;exact⟨_,rfl,(by rw[cr,cY];omega),I.sub⟩
   refine RT 6 E I ?_;exact⟨_,rfl,⟨λh=>(by cases h),λh=>by rw[cY]at h;exfalso;omega⟩,I.sub⟩
  refine RT 11 E I ?_;exact⟨_,rfl,⟨λh=>(by cases h),λh=>by rw[cY]at h;exfalso;omega⟩,I.sub⟩
 refine IF 3 E I (λaz a E=>?_) λaz a E=>?_
 ·
  refine BY 5 E I (λbF a E=>?_) λbF a E=>?_
  ·
   refine BY 6 E I (λua a E=>?_) λua a E=>?_
   ·
    refine RT 6 E I ?_;exact⟨_,rfl,(by rw[cr,cY];omega),I.sub⟩
   refine RT 6 E I ?_;exact⟨_,rfl,⟨λh=>(by cases h),λh=>by rw[cY]at h;exfalso;omega⟩,I.sub⟩
  refine RT 12 E I ?_;exact⟨_,rfl,⟨λh=>(by cases h),λh=>by rw[cY]at h;exfalso;omega⟩,I.sub⟩
 refine RT 2 E I ?_;exact⟨_,rfl,⟨λh=>(by cases h),λh=>by rw[cY]at h;exfalso;omega⟩,I.sub⟩
theorem Lt (I:U W w L)(hb:cY b)(eF:past.length≤4000)(jN:past.length≤c)(hp:∀ V,U W V L→aQ V ad past.length past) :
   Calls prog 324 #[.agg (dr b adT cT).toArray,.slice ad past.length c] w λe V=>e=.returned (.agg (ints .i64 256 (gB b past)).toArray)∧U W V L:=by
 simp only[cY]at hb;refine EN func324 ntmps324 rfl rfl λa E=>?_;refine BX 1 E I λb2 a w E I=>?_;change U W w (aa b2 186 (dr b adT cT)::_) at I;refine AL 0 E I λb4 a w E I=>?_;rw[qm]at I;refine AL 1 E I λb5 a w E I=>?_;rw[qm]at I;refine BY 6 E I (λbF a E=>?_) λbF a E=>?_
 ·
  refine SA 9 E I λa w E I=>?_;refine RT 0 E I ?_;exact⟨by rw[gB,ag (by omega)],I.sub⟩
 refine IF 6 E I (λaj a E=>?_) λaj a E=>?_
 ·
  refine SA 2 E I λa w E I=>?_;refine RT 0 E I ?_;exact⟨by rw[gB,al (by omega),ya (by omega)],I.sub⟩
 refine RN 1 E I λa E=>?_;have ca:b.kind=2:=by omega
 obtain⟨o,ho⟩:∃ o:Nat,b.order=(o:Int):=⟨b.order.toNat,by omega⟩;rw[dr,ho]at I;have cS:o≤past.length:=by omega
 have kV:gB b past=gX o past past.length:=by rw[gB,al ca,ho,Int.toNat_natCast]
 refine RN 6 E I λa E=>?_;rw[show ((past.length:Nat):Int)-(o:Int)=((past.length-o:Nat):Int) from by omega]at E;refine RN 7 E I λa E=>?_;rw[show past.length-(past.length-o)=o from by omega]at E;have YS:o≤3:=by omega
 refine aP (λμ a w=>∃ (i:Nat),(μ=past.length-i∧o≤i∧i≤past.length)∧Fr a 52 [(1,.slice ad past.length c),(2,pt b2),(4,pt b4),(5,pt b5),(6,.slice (fm ad (past.length-o) c 1) o (c-(past.length-o))),(7,.int .i64 i)]∧U W w (aa b5 320 (ints .i64 256 (gX o past i))::aa b4 320 (ints .i64 256 (λ_=>0))::aa b2 186 [.int .i64 b.kind,.int .i64 o,.slice adT b.table.length cT]::L)) (past.length-o) (⟨o,⟨rfl,bk _,cS⟩,E.ab [1,2,4,5,6,7],by rw[ya (bk _)];exact I.sub⟩) ?_;clear E I;rintro μ a w ⟨i,⟨rfl,Fo,hi⟩,E,I⟩;refine IF 6 E I (λao a E=>?_) λao a E=>?_
 ·
  have aG:i<past.length:=by omega
  have nn:=Ax o past i past[i].toNat;have qh:=lL past[i];refine RN 7 E I λa E=>?_;rw[show ((i:Nat):Int)-(o:Int)=((i-o:Nat):Int) from by omega]at E;refine RN 2 E I λa E=>?_;rw[show i-(i-o)=o from by omega]at E;refine CL 1 E I (Kp I ((hp _ I.tail.tail.tail).yb (lo:=i-o) (n:=o) (by omega) jN) (by have:=(hp _ I.tail.tail.tail).yb (lo:=past.length-o) (n:=o) (by omega) jN;exact this)) λa w E I=>?_;refine IF 0 E I (λaz a E=>?_) λaz a E=>?_
  ·
   obtain⟨bb,oo,rfl,hr⟩:=(hp _ I.tail.tail.tail).get (by omega);refine RN 3 E I λa E=>?_;refine SS E (ae E (hr i _ (dS aG))) λa E=>?_;refine RN 1 E I λa E=>?_;refine SS E (ae E (I.bz (fO _ qh))) λa E=>?_;refine ST 2 E I (λa w E I=>?_) (hlt:=(by rw[dm];omega));rw[ints_set]at I;refine RN 3 E I λa E=>?_;exact⟨past.length-(i+1),by omega,i+1,⟨rfl,by omega,by omega⟩,E.ab [1,2,4,5,6,7],by
    rw[show gX o past (i+1)=λj=>if j=past[i].toNat then gX o past i past[i].toNat+1 else gX o past i j from by
     rw[gX,al ⟨Fo,by rw[x9,← az,fY (l:=past.drop (past.length-o)) (by rw[c8];omega)]⟩,bl,aF aG];rfl]
    exact I.sub⟩
  refine RN 3 E I λa E=>?_;exact⟨past.length-(i+1),by omega,i+1,⟨rfl,by omega,by omega⟩,E.ab [1,2,4,5,6,7],by
   rw[show gX o past (i+1)=gX o past i from by
    rw[gX,ag (λh=>by
     have h2:=h.2;rw[x9,← fY (l:=past.drop (past.length-o)) (i:=o) (by rw[c8];omega)]at h2;rw[h2]at az;cases az)]]
   exact I.sub⟩
 obtain rfl:i=past.length:=by omega
 refine SA 2 E I λa w E I=>?_;refine RT 0 E I ?_;exact⟨by rw[kV],I.sub⟩
theorem Lu (I:U W w L)(eF:past.length≤4000)(hp:∀ V,U W V L→aQ V ad past.length past) :
   Calls prog 326 #[.slice ad past.length c] w λe V=>e=.returned (.int .u8 ((ig past).toNat:Nat))∧U W V L:=by
 refine EN func326 ntmps326 rfl rfl λa E=>?_;refine IF 7 E I (λaj a E=>?_) λaj a E=>?_
 ·
  refine RT 2 E I ?_;exact⟨by rw[ig,g5 (l:=past) (by omega)];rfl,I⟩
 refine RN 1 E I λa E=>?_;obtain⟨bb,oo,rfl,hr⟩:=(hp _ I).get (by omega);refine RN 4 E I λa E=>?_;rw[show ((past.length:Nat):Int)-1=((past.length-1:Nat):Int) from by omega]at E;refine RN 1 E I λa E=>?_;refine SS E (ae E (hr (past.length-1) _ (dS (by omega)))) λa E=>?_;refine RT 1 E I ?_;refine⟨?_,I⟩;have h0:past≠[]:=λh=>by rw[h]at aj;simp at aj
 rw[ig,getLastD_eq_getLast?,List.getLast?_eq_getElem?,aF (by omega)];rfl
theorem Lw (I:U W w L)(hb:cY b)(eF:past.length≤4000)(jN:past.length≤c)(hp:∀ V,U W V L→aQ V ad past.length past)(ht:∀ V,U W V L→aQ V adT b.table.length b.table) :
   Calls prog 325 #[.agg (dr b adT cT).toArray,.slice ad past.length c] w λe V=>e=.returned (.int .u8 ((m5 b past).toNat:Nat))∧U W V L:=by
 have lf:=hb;simp only[cY]at lf;refine EN func325 ntmps325 rfl rfl λa E=>?_;refine BX 1 E I λb2 a w E I=>?_;change U W w (aa b2 186 (dr b adT cT)::_) at I;refine IF 6 E I (λaj a E=>?_) λaj a E=>?_
 ·
  refine bS 1 [5,6,7] [0,2,3,4,3001,1005,1006,1007,8,1009,10] E I λa w E I hH hC=>?_;obtain⟨Ly,Lz,rfl,tR⟩:=(ht _ I.tail).get (by omega);have Fp:past.length%b.table.length<b.table.length:=Nat.mod_lt _ (by omega);refine RH 8 E I hH hC λa E=>?_;rw[nR]at E;refine RH 1 E I hH hC λa E=>?_;refine SS E (ae E (tR (past.length%b.table.length) _ (kX Fp))) λa E=>?_;refine RH 1 E I hH hC λa E=>?_;refine RT 0 E I ?_;exact⟨by rw[m5,al (by omega)],I.sub⟩
 refine CL 3 E I (Lt I hb eF jN (λV hw=>hp V hw.tail)) λa w E I=>?_;refine AL 0 E I λb5 a w E I=>?_;rw[qm]at I;refine SA 0 E I λa w E I=>?_;refine CL 2 E I (Lu I eF (λV hw=>hp V hw.tail.tail)) λa w E I=>?_;refine RN 5 E I λa E=>?_;have Fq:=lL (ig past);refine aP (λμ a w=>∃ (i:Nat),(μ=256-i∧i≤256)∧Fr a 41 [(2,pt b2),(5,pt b5),(6,.int .u8 (lR (gB b past) (ig past).toNat i:Nat)),(27,.agg (ints .i64 256 (gB b past)).toArray),(28,.int .i64 i)]∧U W w (aa b5 320 (ints .i64 256 (gB b past))::aa b2 186 (dr b adT cT)::L)) (256) (⟨0,⟨rfl,by omega⟩,E.ab [2,5,6,27,28],I.sub⟩) ?_;clear E I;rintro μ a w ⟨i,⟨rfl,hi⟩,E,I⟩;refine IF 3 E I (λao a E=>?_) λao a E=>?_
 ·
  have nX:=EP (w:=gB b past) Fq (i:=i) hi;have AP:i<256:=by omega
  refine RN 3 E I λa E=>?_;refine SS E (rT E underlying320 underlying3 rfl Ty.t3 (by omega) (fO _ AP)) λa E=>?_;refine RN 6 E I λa E=>?_;refine SS E (ae E (I.bz (fO _ nX))) λa E=>?_;refine IF 1 E I (λaz a E=>?_) λaz a E=>?_
  ·
   refine SX 1 E I (by rw[wrap_u8];omega) λa E=>?_;refine RN 3 E I λa E=>?_;exact⟨256-(i+1),by omega,i+1,⟨rfl,by omega⟩,by rw[show lR (gB b past) (ig past).toNat (i+1)=i from by rw[lR,al (by omega)]];exact E.ab [2,5,6,27,28],I.sub⟩
  refine RN 2 E I λa E=>?_;exact⟨256-(i+1),by omega,i+1,⟨rfl,by omega⟩,by rw[show lR (gB b past) (ig past).toNat (i+1)=lR (gB b past) (ig past).toNat i from by rw[lR,ag (by omega)]];exact E.ab [2,5,6,27,28],I.sub⟩
 obtain rfl:i=256:=by omega
 have nX:=EP (w:=gB b past) Fq (i:=256) (by omega);refine RT 3 E I ?_;exact⟨by rw[m5,ag (by omega),UInt8.toNat_ofNat',Nat.mod_eq_of_lt (by omega)],I.sub⟩
theorem YT (I:U W w L)(eF:past.length≤4000)(hp:∀ V,U W V L→aQ V ad past.length past) :
   Calls prog 329 #[.slice ad past.length c] w λe V=>∃ av c',e=.returned (.slice av past.length c')∧U W V (Sl 5 1 av past.length c' (bc past)::L):=by
 obtain⟨h1,h2,h3⟩:=hp _ I;cases o4:ad with
 | none =>
  have h0:=h2 o4;rw[g5 (l:=past) h0];refine EN func329 ntmps329 rfl rfl λa E=>?_;refine RN 6 E I λa E=>?_;replace E:=E.dX 4;refine RT 3 E I ?_;exact⟨_,_,rfl,I.bO _ _ _⟩
 | some a =>
  rw[← o4];refine EN func329 ntmps329 rfl rfl λa E=>?_;refine RN 6 E I λa E=>?_;rw[show ad.isNone=false from by rw[o4];rfl]at E;replace E:=E.aK 4;refine RN 2 E I λa E=>?_;refine tu E rfl I underlying22 Ty.t5 rfl λb5 a w E I ho=>?_;clear ho;replace I:U W w (Sl 5 1 (some ⟨b5,0,none⟩) 0 0 []::L):=I.tail.bO _ _ _;refine RN 1 E I λa E=>?_;refine gU E rfl I underlying22 Ty.t5 rfl rfl (by decide) (λh0=>(hp _ I.tail).get h0) (by rw[dB];omega) (ey _) (by omega) λr5 l5 a w E I=>?_;rw[nil_append,Nat.zero_add]at I;rw[Nat.zero_add]at E;refine RT 1 E I ?_;exact⟨_,_,rfl,I⟩
theorem YU {to:Int}(I:U W w L)(hb:cY b)(eF:past.length≤1001)(jN:past.length≤c)(hn:m≤1000)(hp:∀ V,U W V L→aQ V ad past.length past)(ht:∀ V,U W V L→aQ V adT b.table.length b.table) :
   Calls prog 311 #[.agg (dr b adT cT).toArray,.slice ad past.length c,.int .i64 m] w λe V=>∃ av c',e=.returned (.slice av m c')∧U W V (Sl 5 1 av m c' (bc (jX b past m))::L):=by
 refine EN func311 ntmps311 rfl rfl λa E=>?_;refine BX 1 E I λb3 a w E I=>?_;change U W w (aa b3 186 (dr b adT cT)::_) at I;refine aR 4 E I (yn I) λr a w E ⟨hr,I⟩=>?_;rw[hr.2 hb]at E;refine RN 1 E I λa E=>?_;replace E:=E.aK 10;refine a6 3 E I (YT I (by omega) (λV hw=>hp V hw.tail)) λlp dN a w E I=>?_;refine RN 6 E I λa E=>?_;rw[show min (max (m:Int) 0) 1000=(m:Int) from by omega]at E;refine RN 1 E I λa E=>?_;refine aP (λμ a w=>∃ (i:Nat) (ad2:Option Addr) (c2:Nat),(μ=m-i∧i≤m)∧Fr a 29 [(1,.slice ad past.length c),(3,pt b3),(7,.slice ad2 (en b past i).length c2),(15,.int .i64 m),(16,.int .i64 i)]∧U W w (Sl 5 1 ad2 (en b past i).length c2 (bc (en b past i))::aa b3 186 (dr b adT cT)::L)) (m) (⟨0,lp,dN,⟨rfl,by omega⟩,E.ab [1,3,7,15,16],I⟩) ?_;clear E I;rintro μ a w ⟨i,ad2,c2,⟨rfl,hi⟩,E,I⟩;refine IF 3 E I (λao a E=>?_) λao a E=>?_
 ·
  have b9:=ij b past i;have Fs:=(I.sl ad2).2;refine CL 4 E I (Lw I hb (by omega) Fs (λV hw=>hw.cu ad2 (en b past i) rfl rfl) (λV hw=>ht V hw.tail.tail)) λa w E I=>?_;refine RN 0 E I λa E=>?_;refine cp E rfl I underlying22 Ty.t5 rfl rfl rfl rfl (by decide) (by decide) λtV a w E I ho=>?_;clear ho;refine RN 0 E I λa E=>?_;refine cQ E rfl I underlying22 Ty.t5 rfl rfl I.ai rfl (ey [m5 b (en b past i)]) (by decide) (by decide) (by omega) λgq gr a w E I=>?_;rw[show bc (en b past i)++_=bc (en b past (i+1)) from (fI _ [_]).symm,show (en b past i).length+1=(en b past (i+1)).length from by rw[ij,ij];omega]at I;rw[show (en b past i).length+1=(en b past (i+1)).length from by rw[ij,ij];omega]at E;refine RN 3 E I λa E=>?_;exact⟨m-(i+1),by omega,i+1,gq,gr,⟨rfl,by omega⟩,E.ab [1,3,7,15,16],I.sub⟩
 obtain rfl:i=m:=by omega
 have b9:=ij b past i;refine RT 6 E I ?_;have h1:=I.Cc ad2 past.length (en b past i).length (by omega) (bk _);rw[show (en b past i).length-past.length=i from by omega,Nat.mul_one,Nat.mul_one,← YR,fY (by rw[dB,c8];omega),show List.drop past.length (en b past i)=jX b past i from rfl]at h1;refine⟨_,_,by rw[show (en b past i).length-past.length=i from by omega],h1.sub⟩
end
end
end Go.Proofs.YteoldcfapaiobaaGreat
