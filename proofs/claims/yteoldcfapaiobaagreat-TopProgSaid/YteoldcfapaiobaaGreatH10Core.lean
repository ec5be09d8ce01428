/- What a player knows, in memory: core.May, New, Conf, Queue, Head, Closed, Press, note, hold, Mark, Marks, Events. -/
import Derived.Test.YteoldcfapaiobaaGreatH08Pkt3
import Derived.Test.YteoldcfapaiobaaGreatH09CoQ
import Derived.Test.YteoldcfapaiobaaGreatH05Vm
import Derived.Test.YteoldcfapaiobaaGreatH06Ref
import Derived.Test.YteoldcfapaiobaaGreatH01Row
namespace Go.Proofs.YteoldcfapaiobaaGreat
open Tryz
open List (length_range take_succ_cons nil_append ext_getElem set_set map_drop range_succ getElem?_set_ne getElem?_set_self replicate_succ' getLastD_eq_getLast?)
open Go.RowKit
set_option linter.unusedVariables false
set_option linter.unusedSimpArgs false
set_option maxRecDepth 10000
set_option synthInstance.maxSize 4000
set_option synthInstance.maxHeartbeats 400000
section
abbrev iR (p:Pe):List Value:=[.int .i64 p.has,.int .i64 p.heard,.int .i64 p.frame,.int .u32 p.sum,.bool p.apart]
theorem jS (p:Pe):(iR p).length=5:=rfl
theorem ZR (p:Pe):∀ v∈iR p,v.oneCell'=true:=by
 intro v hv;simp[iR]at hv;rcases hv with rfl | rfl | rfl | rfl | rfl <;> rfl
def c0 (l:List Nat):List Value:=l.map λs:Nat=>Value.int .u32 (s:Int)
structure p6 where
 cb:Nat
 qb:Nat
 aB:List Nat
 bp:Nat
 op:Nat
structure o3 where
 cP:Nat
 ch:Option Addr
 cM:Nat
 adE:Option Addr
 cE:Nat
abbrev iz (k:Ks)(B:p6)(A:o3):List Value:=[.int .i64 k.n,.int .i64 k.me,.int .i64 k.id,.int .i64 k.aJ,.int .i64 k.bo,.int .i64 k.a8,.int .i64 k.order,.int .i64 k.cw,.int .i64 k.workers,.int .i64 k.room,
 pt B.qb,.slice (some ⟨B.bp,B.op,none⟩) k.ps.length A.cP,.slice A.ch k.mr.length A.cM,.slice A.adE k.ev.length A.cE,.int .i64 k.now,.bool k.cl]
def aA (B:p6)(k:Ks):SP:=λh=>∃ A:o3,cp [aa B.cb 257 (iz k B A),Sl 259 5 (some ⟨B.bp,B.op,none⟩) k.ps.length A.cP (rows iR k.ps),Sl 100 1 A.ch k.mr.length A.cM (c0 k.mr),Sl 135 1 A.adE k.ev.length A.cE (k.ev.map cz),Qu B.qb B.aB k.ls] h
section
variable {W w:World}{L L' R:List SP}{n c cb qb i:Nat}{ad:Option Addr}{aB:List Nat}{k:Ks}{A:o3}{B:p6}{cf:Cf}{e:kj}
theorem aA.open (I:U W w (aA B k::L)):∃ A:o3,U W w (aa B.cb 257 (iz k B A)::Sl 259 5 (some ⟨B.bp,B.op,none⟩) k.ps.length A.cP (rows iR k.ps)::Sl 100 1 A.ch k.mr.length A.cM (c0 k.mr)::Sl 135 1 A.adE k.ev.length A.cE (k.ev.map cz)::Qu B.qb B.aB k.ls::L):=by
 obtain⟨A,_,I⟩:=I.jL (ι:=o3) (p:=λ_=>True) (B:=λA h=>cp [aa B.cb 257 (iz k B A),Sl 259 5 (some ⟨B.bp,B.op,none⟩) k.ps.length A.cP (rows iR k.ps),Sl 100 1 A.ch k.mr.length A.cM (c0 k.mr),Sl 135 1 A.adE k.ev.length A.cE (k.ev.map cz),Qu B.qb B.aB k.ls] h) λ_ ⟨A,h⟩=>⟨A,trivial,h⟩;exact⟨A,I.open (M:=[_,_,_,_,_]) λ_ h=>h⟩
theorem aA.close (I:U W w (aa B.cb 257 (iz k B A)::Sl 259 5 (some ⟨B.bp,B.op,none⟩) k.ps.length A.cP (rows iR k.ps)::Sl 100 1 A.ch k.mr.length A.cM (c0 k.mr)::Sl 135 1 A.adE k.ev.length A.cE (k.ev.map cz)::Qu B.qb B.aB k.ls::L)):U W w (aA B k::L) :=
 U.shut (M:=[_,_,_,_,_]) I λ_ h=>⟨A,h⟩
theorem aA.mk' (I:U W w L)(A:o3)[kk:fN L (aa B.cb 257 (iz k B A)::Sl 259 5 (some ⟨B.bp,B.op,none⟩) k.ps.length A.cP (rows iR k.ps)::Sl 100 1 A.ch k.mr.length A.cM (c0 k.mr)::Sl 135 1 A.adE k.ev.length A.cE (k.ev.map cz)::Qu B.qb B.aB k.ls::L') R]:U W w (aA B k::L'):=aA.close (A:=A) I.sub
theorem aA.fold (I:U W w L)(B:p6)(k:Ks)(A:o3)[kk:fN L [aa B.cb 257 (iz k B A),Sl 259 5 (some ⟨B.bp,B.op,none⟩) k.ps.length A.cP (rows iR k.ps),Sl 100 1 A.ch k.mr.length A.cM (c0 k.mr),Sl 135 1 A.adE k.ev.length A.cE (k.ev.map cz),Qu B.qb B.aB k.ls] R]:U W w (aA B k::R):=aA.close (A:=A) (I.perm kk.perm)
theorem o4 {x lo hi:Int}(I:U W w L):Calls prog 167 #[.int .i64 x,.int .i64 lo,.int .i64 hi] w λe V=>∃ r:Bool,e=.returned (.bool r)∧(r=true↔dE x lo hi)∧U W V L:=by
 refine EN func167 ntmps167 rfl rfl λa E=>?_;refine BY 7 E I (λbE a E=>?_) λbE a E=>?_
 ·
  refine RT 5 E I ?_;exact⟨_,rfl,⟨λh=>⟨bE,m3 h⟩,λh=>dp h.2⟩,I⟩
 refine RT 5 E I ?_;exact⟨_,rfl,⟨λh=>(by cases h),λh=>by have:=h.1;omega⟩,I⟩
theorem Mg (I:U W w L):Calls prog 130 #[.agg (bV cf).toArray] w λe V=>∃ r:Bool,e=.returned (.bool r)∧(r=true↔ft cf)∧U W V L:=by
 refine EN func130 ntmps130 rfl rfl λa E=>?_;refine BX 1 E I λb1 a w E I=>?_;change U W w (aa b1 28 (bV cf)::_) at I;refine RN 1 E I λa E=>?_;refine cc (M:=λa w=>∃ z:Bool,(z=true↔(dE cf.n 2 8∧dE cf.me 0 (cf.n-1)∧dE cf.id 0 1099511627776))∧Fr a 73 [(1,pt b1),(3,.bool z)]∧U W w (aa b1 28 (bV cf)::L)) ?_ ?_
 ·
  refine aW 2 E I (o4 I) λr1 a w E ⟨eB,I⟩=>?_;refine BY 1 E I (λbE a E=>?_) λbE a E=>?_
  ·
   refine RN 4 E I λa E=>?_;refine SK (bu E (cu E rfl (s:=8)) (xZ E) rfl ?_);clear E a;intro a E;have mi:IntKind.i64.wrap (cf.n-1)=cf.n-1:=fU (by have:=(eB.1 bE).1;omega) (by have:=(eB.1 bE).2;omega);rw[mi]at E;refine aW 0 E I (o4 I) λr2 a w E ⟨eg,I⟩=>?_;refine BY 2 E I (λk9 a E=>?_) λk9 a E=>?_
   ·
    refine BY 5 E I (λuV a E=>?_) λuV a E=>?_
    ·
     refine RN 5 E I λa E=>?_;exact⟨_,⟨λh=>⟨eB.1 bE,eg.1 k9,uV,m3 h⟩,λh=>dp h.2.2.2⟩,E.ab [1,3],I⟩
    refine RN 5 E I λa E=>?_;exact⟨_,⟨λh=>(by cases h),λh=>by have:=h.2.2.1;omega⟩,E.ab [1,3],I⟩
   refine RN 10 E I λa E=>?_;exact⟨_,⟨λh=>(by cases h),λh=>by have:=eg.2 h.2.1;rw[k9]at this;cases this⟩,E.ab [1,3],I⟩
  refine RN 18 E I λa E=>?_;exact⟨_,⟨λh=>(by cases h),λh=>by have:=eB.2 h.1;rw[bE]at this;cases this⟩,E.ab [1,3],I⟩
 clear E;(try clear I);rintro a w ⟨z1,cv,E,I⟩;refine cc (M:=λa w=>∃ z:Bool,(z=true↔(dE cf.aJ 0 8∧dE cf.bo 1 16∧dE cf.a8 1 3∧dE cf.order 0 3))∧Fr a 73 [(1,pt b1),(3,.bool z1),(4,.bool z)]∧U W w (aa b1 28 (bV cf)::L)) ?_ ?_
 ·
  refine aW 2 E I (o4 I) λr1 a w E ⟨eB,I⟩=>?_;refine BY 1 E I (λbE a E=>?_) λbE a E=>?_
  ·
   refine aW 2 E I (o4 I) λr2 a w E ⟨eg,I⟩=>?_;refine BY 2 E I (λek a E=>?_) λek a E=>?_
   ·
    refine aW 2 E I (o4 I) λr3 a w E ⟨g2,I⟩=>?_;refine BY 2 E I (λkP a E=>?_) λkP a E=>?_
    ·
     refine aW 2 E I (o4 I) λKN a w E ⟨lj,I⟩=>?_;refine RN 2 E I λa E=>?_;exact⟨_,⟨λh=>⟨eB.1 bE,eg.1 ek,g2.1 kP,lj.1 h⟩,λh=>lj.2 h.2.2.2⟩,E.ab [1,3,4],I⟩
    refine RN 5 E I λa E=>?_;exact⟨_,⟨λh=>(by cases h),λh=>by have:=g2.2 h.2.2.1;rw[kP]at this;cases this⟩,E.ab [1,3,4],I⟩
   refine RN 10 E I λa E=>?_;exact⟨_,⟨λh=>(by cases h),λh=>by have:=eg.2 h.2.1;rw[ek]at this;cases this⟩,E.ab [1,3,4],I⟩
  refine RN 15 E I λa E=>?_;exact⟨_,⟨λh=>(by cases h),λh=>by have:=eB.2 h.1;rw[bE]at this;cases this⟩,E.ab [1,3,4],I⟩
 clear E;(try clear I);rintro a w ⟨z2,ew,E,I⟩;refine BY 3 E I (λnh a E=>?_) λnh a E=>?_
 ·
  refine BY 3 E I (λdk a E=>?_) λdk a E=>?_
  ·
   refine BY 4 E I (λek a E=>?_) λek a E=>?_
   ·
    have vg:cf.order=0∨cf.a8=2:=.inl ek;refine aW 8 E I (o4 I) λr1 a w E ⟨eB,I⟩=>?_;refine BY 2 E I (λp0 a E=>?_) λp0 a E=>?_
    ·
     refine aW 2 E I (o4 I) λr2 a w E ⟨eg,I⟩=>?_;refine BY 2 E I (λvh a E=>?_) λvh a E=>?_
     ·
      refine aW 2 E I (o4 I) λr3 a w E ⟨g2,I⟩=>?_;refine RT 2 E I ?_;exact⟨_,rfl,⟨λh=>⟨cv.1 nh,ew.1 dk,vg,eB.1 p0,eg.1 vh,g2.1 h⟩,λh=>g2.2 h.2.2.2.2.2⟩,I.sub⟩
     refine RT 5 E I ?_;exact⟨_,rfl,⟨λh=>(by cases h),λh=>by have:=eg.2 h.2.2.2.2.1;rw[vh]at this;cases this⟩,I.sub⟩
    refine RT 10 E I ?_;exact⟨_,rfl,⟨λh=>(by cases h),λh=>by have:=eB.2 h.2.2.2.1;rw[p0]at this;cases this⟩,I.sub⟩
   refine BY 6 E I (λjO a E=>?_) λjO a E=>?_
   ·
    have vg:cf.order=0∨cf.a8=2:=.inr jO;refine aW 2 E I (o4 I) λr1 a w E ⟨eB,I⟩=>?_;refine BY 2 E I (λp0 a E=>?_) λp0 a E=>?_
    ·
     refine aW 2 E I (o4 I) λr2 a w E ⟨eg,I⟩=>?_;refine BY 2 E I (λvh a E=>?_) λvh a E=>?_
     ·
      refine aW 2 E I (o4 I) λr3 a w E ⟨g2,I⟩=>?_;refine RT 2 E I ?_;exact⟨_,rfl,⟨λh=>⟨cv.1 nh,ew.1 dk,vg,eB.1 p0,eg.1 vh,g2.1 h⟩,λh=>g2.2 h.2.2.2.2.2⟩,I.sub⟩
     refine RT 5 E I ?_;exact⟨_,rfl,⟨λh=>(by cases h),λh=>by have:=eg.2 h.2.2.2.2.1;rw[vh]at this;cases this⟩,I.sub⟩
    refine RT 10 E I ?_;exact⟨_,rfl,⟨λh=>(by cases h),λh=>by have:=eB.2 h.2.2.2.1;rw[p0]at this;cases this⟩,I.sub⟩
   refine RT 15 E I ?_;exact⟨_,rfl,⟨λh=>(by cases h),λh=>by have:=h.2.2.1;omega⟩,I.sub⟩
  refine RT 25 E I ?_;exact⟨_,rfl,⟨λh=>(by cases h),λh=>by have:=ew.2 h.2.1;rw[dk]at this;cases this⟩,I.sub⟩
 refine RT 28 E I ?_;exact⟨_,rfl,⟨λh=>(by cases h),λh=>by have:=cv.2 h.1;rw[nh]at this;cases this⟩,I.sub⟩
theorem ZS (I:U W w L)(h:¬ ft cf):Calls prog 96 #[.agg (bV cf).toArray] w λe V=>e=.returned (.tuple #[.pointer none,.int .i64 1])∧U W V L:=by
 refine EN func96 ntmps96 rfl rfl λa E=>?_;refine BX 1 E I λb1 a w E I=>?_;change U W w (aa b1 28 (bV cf)::_) at I;refine aW 5 E I (Mg I) λr a w E ⟨hr,I⟩=>?_;rw[show r=false from by cases hh:r with | false=>rfl | true=>exact absurd (hr.1 hh) h]at E;refine RN 1 E I λa E=>?_;replace E:=E.eG 7;refine RT 4 E I ?_;exact⟨rfl,I.sub⟩
theorem Mh {n me aJ bo:Nat}{id a8 order cw workers room:Int}(I:U W w L)(h:ft ⟨n,me,id,aJ,bo,a8,order,cw,workers,room⟩) :
   Calls prog 96 #[.agg (bV ⟨n,me,id,aJ,bo,a8,order,cw,workers,room⟩).toArray] w λe V=>∃ B,e=.returned (.tuple #[pt B.cb,.int .i64 0])∧U W V (aA B (fv ⟨n,me,id,aJ,bo,a8,order,cw,workers,room⟩)::L):=by
 have hh:=h;obtain⟨⟨h1,h2,h3⟩,⟨h4,h5,h6,h7⟩,h8,h9,fP,m9⟩:=hh;simp only[dE] at *;refine EN func96 ntmps96 rfl rfl λa E=>?_;refine BX 1 E I λb1 a w E I=>?_;change U W w (aa b1 28 (bV ⟨n,me,id,aJ,bo,a8,order,cw,workers,room⟩)::_) at I;refine aW 5 E I (Mg I) λr a w E ⟨hr,I⟩=>?_;rw[hr.2 h]at E;refine RN 1 E I λa E=>?_;replace E:=E.aK 7;refine RN 1 E I λa E=>?_;refine cc (M:=λa w=>∃ cb qb aB,Fr a 34 [(1,pt b1),(4,pt cb)]∧U W w (aa cb 257 [.int .i64 n,.int .i64 me,.int .i64 id,.int .i64 aJ,.int .i64 bo,.int .i64 a8,.int .i64 order,.int .i64 cw,.int .i64 workers,.int .i64 room,pt qb,.slice none 0 0,.slice none 0 0,.slice none 0 0,.int .i64 0,.bool false]::Qu qb aB (List.replicate n (List.replicate aJ 0))::aa b1 28 (bV ⟨n,me,id,aJ,bo,a8,order,cw,workers,room⟩)::L)) ?_ ?_
 ·
  refine a1 0 (λw0 V=>Rd V b1 0 (bV ⟨n,me,id,aJ,bo,a8,order,cw,workers,room⟩)) [2,4,5] [1,3,3000,3002,1004,1005,6,1007,8] E I λa w E I hH=>?_;have hC:=hH.at w I.ai;refine RH 2 E I hH hC λa E=>?_;refine QH E (λw hc=>bQ E underlying28 rfl Ty.t28 (hc)) hC λa E=>?_;simp only[bV]at E;refine RH 0 E I hH hC λa E=>?_;refine QH E (λw hc=>ae E (hc 0 _ rfl)) hC λa E=>?_;refine RH 0 E I hH hC λa E=>?_;refine SS E (ae E (hC 3 _ rfl)) λa E=>?_;refine RH 0 E I hH hC λa E=>?_;refine aX 0 E I (ZC (n:=n) (d:=aJ) I (by omega) (by omega)) λqb aB a w E I=>?_;replace hC:=hH.at w I.ai;refine RH 1 E I hH hC λa E=>?_;refine x4 E rfl I rfl λVH a w E I ho=>?_;clear ho;refine RN 1 E I λa E=>?_;exact⟨_,qb,aB,E.ab [1,4],I⟩
 clear E;(try clear I);rintro a w ⟨cb,qb,aB,E,I⟩;refine RN 5 E I λa E=>?_;replace I:=I.bR 259 5 none;refine aQ (λμ a w=>∃ (i:Nat) (ad:Option Addr) (c:Nat),(μ=n-i∧i≤n)∧Fr a 34 [(1,pt b1),(4,pt cb),(17,.int .i64 n),(18,.int .i64 i)]∧U W w (aa cb 257 [.int .i64 n,.int .i64 me,.int .i64 id,.int .i64 aJ,.int .i64 bo,.int .i64 a8,.int .i64 order,.int .i64 cw,.int .i64 workers,.int .i64 room,pt qb,.slice ad i c,.slice none 0 0,.slice none 0 0,.int .i64 0,.bool false]::Sl 259 5 ad i c (rows iR (List.replicate i (fG aJ)))::Qu qb aB (List.replicate n (List.replicate aJ 0))::aa b1 28 (bV ⟨n,me,id,aJ,bo,a8,order,cw,workers,room⟩)::L)) (n) (⟨0,none,0,⟨rfl,by omega⟩,E.ab [1,4,17,18],(I.perm (cW _ _ _):U W w (aa cb 257 _::Sl 259 5 none 0 0 []::_))⟩) ?_;clear E I;rintro μ a w ⟨i,ad,c,⟨rfl,hi⟩,E,I⟩;refine IF 3 E I (λao a E=>?_) λao a E=>?_
 ·
  refine bW 1 [6,7,8] [0,1,2,3,5,3004,1006,1007,1008,1009,10,11,1012] E I λa w E I hH hC=>?_;refine RH 8 E I hH hC λa E=>?_;refine cn E rfl I underlying255 Ty.t259 rfl rfl rfl rfl (by decide) (by decide) λJc a w E I ho=>?_;replace hC:=hC.trans ho;clear ho;refine RH 0 E I hH hC λa E=>?_;refine cK E rfl I underlying255 Ty.t259 rfl rfl I.ai rfl (ZR (fG aJ)) (by decide) (by decide) (by omega) λMi Mj a w E I=>?_;rw[show rows iR (List.replicate i (fG aJ))++_=rows iR (List.replicate (i+1) (fG aJ)) from by rw[replicate_succ',kz];rfl]at I;refine ST 2 E I (λa w E I=>?_);refine RN 2 E I λa E=>?_;exact⟨n-(i+1),by omega,i+1,Mi,Mj,⟨rfl,by omega⟩,E.ab [1,4,17,18],I.sub⟩
 obtain rfl:i=n:=by omega
 replace I:=I.bR 100 1 none;replace I:=I.bR 135 1 none;refine RT 4 E I ?_;obtain⟨bp,op,rfl,_⟩:=(I.pick (Sl 259 5 ad i c (rows iR (List.replicate i (fG aJ))))).bY ad (by omega);refine⟨⟨cb,qb,aB,bp,op⟩,rfl,?_⟩;refine aA.close (A:=⟨c,none,0,none,0⟩) ?_;have hl:(fv ⟨i,me,id,aJ,bo,a8,order,cw,workers,room⟩).ps.length=i:=by simp[fv]
 rw[iz,hl];exact I.sub (M:=aa cb 257 [.int .i64 i,.int .i64 me,.int .i64 id,.int .i64 aJ,.int .i64 bo,.int .i64 a8,.int .i64 order,.int .i64 cw,.int .i64 workers,.int .i64 room,pt qb,.slice (some ⟨bp,op,none⟩) i c,.slice none 0 0,.slice none 0 0,.int .i64 0,.bool false]::Sl 259 5 (some ⟨bp,op,none⟩) i c (rows iR (List.replicate i (fG aJ)))::Sl 100 1 none 0 0 []::Sl 135 1 none 0 0 []::Qu qb aB (List.replicate i (List.replicate aJ 0))::L)
theorem Mk (I:U W w (aA B k::L)):Calls prog 292 #[pt B.cb] w λe V=>e=.returned (.agg (bV (fu k)).toArray)∧U W V (aA B k::L):=by
 obtain⟨A,I⟩:=aA.open I;refine EN func292 ntmps292 rfl rfl λa E=>?_;refine AL 1 E I λb2 a w E I=>?_;refine RN 4 E I λa E=>?_;replace E:=E.aK 4;refine SA 6 E I λa w E I=>?_;refine RT 0 E I ?_;exact⟨rfl,aA.close I.tail⟩
theorem o5 (I:U W w (aA B k::L)):Calls prog 134 #[pt B.cb] w λe V=>e=.returned (pt B.qb)∧U W V (aA B k::L):=by
 obtain⟨A,I⟩:=aA.open I;refine EN func134 ntmps134 rfl rfl λa E=>?_;refine RN 6 E I λa E=>?_;replace E:=E.aK 4;refine RT 7 E I ?_;exact⟨rfl,aA.close I⟩
theorem aA.Gh (I:U W w (aA B k::L)):∃ D:SP,U W w (Qu B.qb B.aB k.ls::D::L)∧∀ (V:World) (L':List SP) (kS:List (List UInt8)),U W V (Qu B.qb B.aB kS::D::L')→U W V (aA B { k with ls:=kS }::L'):=by
 obtain⟨A,I⟩:=aA.open I;refine⟨λh=>cp [aa B.cb 257 (iz k B A),Sl 259 5 (some ⟨B.bp,B.op,none⟩) k.ps.length A.cP (rows iR k.ps),Sl 100 1 A.ch k.mr.length A.cM (c0 k.mr),Sl 135 1 A.adE k.ev.length A.cE (k.ev.map cz)] h,?_,λV L' kS I=>?_⟩
 ·refine U.perm (L:=(λh=>cp [aa B.cb 257 (iz k B A),Sl 259 5 (some ⟨B.bp,B.op,none⟩) k.ps.length A.cP (rows iR k.ps),Sl 100 1 A.ch k.mr.length A.cM (c0 k.mr),Sl 135 1 A.adE k.ev.length A.cE (k.ev.map cz)] h)::Qu B.qb B.aB k.ls::L) ?_ (cW _ _ _);exact U.shut (M:=[_,_,_,_]) I λ_ h=>h
 ·have h1:=(I.perm (cW _ _ _)).open (M:=[_,_,_,_]) λ_ h=>h;exact aA.close (k:={ k with ls:=kS }) (A:=A) h1
theorem aA.qu (I:U W w (aA B k::L)):∃ D:SP,U W w (Qu B.qb B.aB k.ls::D::L)∧∀ (V:World) (L':List SP),U W V (Qu B.qb B.aB k.ls::D::L')→U W V (aA B k::L'):=by
 obtain⟨D,h1,h2⟩:=aA.Gh I;exact⟨D,h1,λV L' h=>h2 V L' k.ls h⟩
theorem tE (I:U W w (aA B k::L))(hk:WC k):Calls prog 275 #[pt B.cb] w λe V=>e=.returned (.int .i64 (aH k))∧U W V (aA B k::L):=by
 have eo:k.me<k.ls.length:=by rw[hk.ls];exact hk.me
 refine EN func275 ntmps275 rfl rfl λa E=>?_;refine CL 4 E I (o5 I) λa w E I=>?_;refine CL 1 E I (Mk I) λa w E I=>?_;refine RN 0 E I λa E=>?_;refine SS E (I6 E underlying28 rfl underlying3 rfl rfl) λa E=>?_;obtain⟨D,I,hD⟩:=aA.qu I;refine CL 0 E I (tC I eo) λa w E I=>?_;refine CL 0 E I (zf I eo) λa w E I=>?_;refine RT 1 E I ?_;exact⟨rfl,hD _ _ I⟩
theorem zi (I:U W w (aA B k::L)):Calls prog 179 #[pt B.cb] w λe V=>e=.returned (.bool k.cl)∧U W V (aA B k::L):=by
 obtain⟨A,I⟩:=aA.open I;refine EN func179 ntmps179 rfl rfl λa E=>?_;refine RN 6 E I λa E=>?_;replace E:=E.aK 5;refine RT 6 E I ?_;exact⟨rfl,aA.close I⟩
theorem Mm (I:U W w (aA B k::L)):Calls prog 133 #[pt B.cb] w λe V=>e=.returned (.int .i64 k.mr.length)∧U W V (aA B k::L):=by
 obtain⟨A,I⟩:=aA.open I;refine EN func133 ntmps133 rfl rfl λa E=>?_;refine RN 6 E I λa E=>?_;replace E:=E.aK 4;refine RT 8 E I ?_;exact⟨rfl,aA.close I⟩
theorem Gi (I:U W w (aA B k::L))(he:tD e)(hl:k.ev.length≤100):Calls prog 204 #[pt B.cb,.agg (bZ e).toArray] w λr V=>r=.returned (.tuple #[])∧U W V (aA B { k with ev:=k.ev++[e] }::L):=by
 obtain⟨A,I⟩:=aA.open I;refine EN func204 ntmps204 rfl rfl λa E=>?_;refine BX 1 E I λb3 a w E I=>?_;change U W w (aa b3 102 (bZ e)::_) at I;refine CL 2 E I (ZM I he) λa w E I=>?_;refine AL 3 E I λb4 a w E I=>?_;refine SA 0 E I λa w E I=>?_;refine RN 3 E I λa E=>?_;replace E:=E.eG 11;refine bW 1 [5,6] [0,1,2,3,3004,1005,1006,1007,8,9,1010] E I λa w E I hH hC=>?_;refine RH 6 E I hH hC λa E=>?_;refine cn E rfl I underlying90 Ty.t135 rfl rfl rfl rfl (by decide) (by decide) λtp a w E I ho=>?_;replace hC:=hC.trans ho;clear ho;refine RH 0 E I hH hC λa E=>?_;refine cK E rfl I underlying90 Ty.t135 rfl rfl I.ai rfl (by simpa using Gf e) (by decide) (by decide) (by omega) λBi Bj a w E I=>?_;rw[show List.map cz k.ev++_=List.map cz (k.ev++[e]) from by rw[cS];rfl,show k.ev.length+1=(k.ev++[e]).length from by simp]at I;rw[show k.ev.length+1=(k.ev++[e]).length from by simp]at E;refine ST 2 E I (λa w E I=>?_);refine RT 0 E I ?_;exact⟨rfl,aA.mk' (k:={ k with ev:=k.ev++[e] }) I { A with adE:=Bi,cE:=Bj }⟩
structure sk (w:World)(B:p6)(k:Ks):Prop where
 cf:Rd w B.cb 0 [.int .i64 k.n,.int .i64 k.me,.int .i64 k.id,.int .i64 k.aJ,.int .i64 k.bo,.int .i64 k.a8,.int .i64 k.order,.int .i64 k.cw,.int .i64 k.workers,.int .i64 k.room,pt B.qb]
 now:w.cell? ⟨B.cb,14,none⟩=some (.int .i64 k.now)
 cl:w.cell? ⟨B.cb,15,none⟩=some (.bool k.cl)
 pe:∀ (i:Nat) (p:Pe),k.ps[i]?=some p→Rd w B.bp (B.op+i*5) (iR p)
 agb:∃ ad c,w.cell? ⟨B.cb,12,none⟩=some (.slice ad k.mr.length c)
 pl:∃ c,w.cell? ⟨B.cb,11,none⟩=some (.slice (some ⟨B.bp,B.op,none⟩) k.ps.length c)
theorem g8 {α:Type}{f:α→List Value}{sz:Nat}(hf:∀ x,(f x).length=sz){l:List α}{i:Nat}{x:α}{b o:Nat}(h:Rd w b o (rows f l))(hx:l[i]?=some x):Rd w b (o+i*sz) (f x):=by
 obtain⟨hi,rfl⟩:=aZ.1 hx;have h1:=h.part (i*sz) sz
 rwa [vZ hf l i hi]at h1
theorem aA.rd (I:U W w (aA B k::L)):sk w B k:=by
 obtain⟨A,I⟩:=aA.open I;refine⟨I.qm 11,I.bz rfl,I.bz rfl,λi p hp=>?_,⟨_,_,I.bz rfl⟩,⟨_,I.bz rfl⟩⟩;have hi:=(aZ.1 hp).1;exact g8 jS (I.cJ B.bp B.op (by omega)) hp
end
theorem B3 {l:List Nat}{i:Nat}(h:i<l.length):(c0 l)[i]?=some (.int .u32 (l.getD i 0:Nat)):=by
 rw[c0,bm,aD h,bl,aD h];rfl
theorem vi {k:Ks}{i:Nat}(h:i<k.ps.length):k.ps[i]?=some (ar k i):=by
 rw[ar,bl,aD h];rfl
theorem Mn {k:Ks}{i:Nat}(h:i<k.ps.length):k.ps[i]=ar k i:=by
 rw[ar,bl,aD h];rfl
section
variable {W w:World}{L L':List SP}{n c i:Nat}{ad:Option Addr}{k:Ks}{A:o3}{B:p6}{x:UInt8}
theorem Mo (I:U W w (aA B k::L))(hk:WC k):Calls prog 175 #[pt B.cb] w λr V=>r=.returned (.tuple #[])∧U W V (aA B (lq k)::L):=by
 have eO:k.ps.length=k.n:=hk.ps;obtain⟨A0,I⟩:=aA.open I;refine EN func175 ntmps175 rfl rfl λa E=>?_;refine RN 7 E I λa E=>?_;replace I:=aA.close I;refine aQ (λμ a w=>∃ (i:Nat),(μ=k.ps.length-i∧i≤k.ps.length)∧Fr a 71 [(0,pt B.cb),(8,.int .i64 k.ps.length),(9,.int .i64 i)]∧U W w (aA B (gx k i)::L)) (k.ps.length) (⟨0,⟨rfl,by omega⟩,E.ab [0,8,9],I⟩) ?_;clear E I;rintro μ a w ⟨i,⟨rfl,hi⟩,E,I⟩;refine IF 3 E I (λaj a E=>?_) λaj a E=>?_
 ·
  have aF:i<k.ps.length:=by omega
  have j4:=hk.gx (i:=i) (by omega);have dS:=BU k i;have fl:gx k (i+1)=lp (gx k i) i:=rfl;rw[lp]at fl;generalize gx k i=kk at I j4 dS fl;rw[← dS]at aF;have ix:=j4.p4 (i:=i) (by rw[← j4.ps];exact aF);have fb:=vi aF;have Li:i<8:=by have:=j4.n;have:=j4.ps;omega
  obtain⟨A,I⟩:=aA.open I;have fp:=g8 jS (I.cJ B.bp B.op (by omega)) fb;refine RN 14 E I λa E=>?_;have fp:Rd w.drew B.bp (B.op+i*5) (iR (ar kk i)):=fp;have jQ:Rd w.drew B.cb 0 (iz kk B A):=I.drew.ai;refine qy 0 (Old w.drew) [13,14,31,35,36,37,38] [0,1,2,1003,4,5,6,7,8,10,11,12,3009,1013,1014,15,16,17,18,19,20,1021,22,23,24,25,26,28,29,30,32,33,34,3027,3031,1035,1036,1037,1038,39,40] E I λa E=>?_;replace I:=I.drew;have hH:=Hd.fK I;have hC:=Old.refl w.drew;generalize w.drew=w at I hH hC fp jQ ⊢;refine RH 3 E I hH hC λa E=>?_;refine SS E (ae E (fp 2 _ rfl)) λa E=>?_;refine RH 2 E I hH hC λa E=>?_;refine E.by (s:=23) (λjg E=>?_) (λjg E=>?_)
  ·
   refine RH 35 E I hH hC λa E=>?_;refine RN 3 E I λa E=>?_;rw[ag (λh=>by have:=h.2.1;omega)]at fl;exact⟨k.ps.length-(i+1),by omega,i+1,⟨rfl,by omega⟩,E.ab [0,8,9],by rw[fl];exact aA.close I⟩
  refine RH 6 E I hH hC λa E=>?_;refine QH E (λw hc=>ae E (hc.cell (fp 2 _ rfl))) hC λa E=>?_;refine RH 0 E I hH hC λa E=>?_;refine bu E (cu E rfl (s:=23)) (ae E (jQ 12 _ rfl)) rfl λa E=>?_;refine RH 4 E I hH hC λa E=>?_;refine E.by (s:=35) (λZT E=>?_) (λZT E=>?_)
  ·
   refine RH 23 E I hH hC λa E=>?_;refine RN 3 E I λa E=>?_;rw[ag (λh=>by have:=h.2.2.1;omega)]at fl;exact⟨k.ps.length-(i+1),by omega,i+1,⟨rfl,by omega⟩,E.ab [0,8,9],by rw[fl];exact aA.close I⟩
  refine RH 3 E I hH hC λa E=>?_;refine bu E (cu E rfl (s:=35)) (ae E (fp 4 _ rfl)) rfl λa E=>?_;refine RH 2 E I hH hC λa E=>?_;refine E.by (s:=41) (λkJ E=>?_) (λkJ E=>?_)
  ·
   refine RH 17 E I hH hC λa E=>?_;refine RN 3 E I λa E=>?_;rw[ag (λh=>by have:=h.1;rw[kJ]at this;cases this)]at fl;exact⟨k.ps.length-(i+1),by omega,i+1,⟨rfl,by omega⟩,E.ab [0,8,9],by rw[fl];exact aA.close I⟩
  have mA:(ar kk i).frame-1<kk.mr.length:=by omega
  obtain⟨Gj,Gk,eo,lS⟩:=I.bY A.ch (by omega);have zj:=jQ 12 _ rfl;rw[eo]at zj;refine RH 9 E I hH hC λa E=>?_;refine QH E (λw hc=>ae E (hc.cell (fp 3 _ rfl))) hC λa E=>?_;refine QH E (λw hc=>ae E (hc.cell (zj))) hC λa E=>?_;refine RH 0 E I hH hC λa E=>?_;refine bu E (cu E rfl (s:=41)) (ae E (fp 2 _ rfl)) rfl λa E=>?_;refine RH 1 E I hH hC λa E=>?_;rw[show (((ar kk i).frame:Nat):Int)-1=(((ar kk i).frame-1:Nat):Int) from by omega]at E;refine RH 1 E I hH hC λa E=>?_;refine bu E (cu E rfl (s:=41)) (ae E (lS ((ar kk i).frame-1) _ (B3 mA))) rfl λa E=>?_;refine RH 2 E I hH hC λa E=>?_;refine IF 0 E I (λao a E=>?_) λao a E=>?_
  ·
   refine RN 2 E I λa E=>?_;rw[ag (λh=>by have:=h.2.2.2;omega)]at fl;exact⟨k.ps.length-(i+1),by omega,i+1,⟨rfl,by omega⟩,E.ab [0,8,9],by rw[fl];exact aA.close I⟩
  refine RN 1 E I λa E=>?_;rw[ak ⟨kJ,by omega,by omega,by omega⟩]at fl;refine RN 3 E I λa E=>?_;refine mx (off:=B.op) (k:=i*5+4) E rfl I Ty.t4 rfl (by omega) (by rw[iG jS];omega) λa w E I=>?_;rw[qx jS kk.ps { ar kk i with apart:=true } aF (by decide) (by rw[Mn aF];rfl)]at I;have g5:(kk.ps.set i { ar kk i with apart:=true }).length=kk.ps.length:=bt;rw[show iz kk B A=iz { kk with ps:=kk.ps.set i { ar kk i with apart:=true } } B A from by simp only[iz,g5],← g5]at I;replace I:=aA.mk' (L':=L) (B:=B) (k:={ kk with ps:=kk.ps.set i { ar kk i with apart:=true } }) I A;refine RN 5 E I λa E=>?_;refine SS E (ae E (((aA.rd I).pe i { ar kk i with apart:=true } (by rw[getElem?_set_self aF])) 2 _ rfl)) λa E=>?_;refine CL 1 E I (Gi (e:=(3,i,(ar kk i).frame)) I ⟨by simp,by simp,by have:=j4.n;have:=j4.ps;show i<8;omega,ix.2.2.1,.inl rfl⟩ (by have:=j4.kQ;show kk.ev.length≤100;omega)) λa w E I=>?_;refine RN 2 E I λa E=>?_;exact⟨k.ps.length-(i+1),by omega,i+1,⟨rfl,by omega⟩,E.ab [0,8,9],by rw[fl];exact I⟩
 refine RT 0 E I ?_;obtain rfl:i=k.ps.length:=by omega
 exact⟨rfl,I⟩
theorem ZU {s:Nat}(I:U W w (aA B k::L))(hk:WC k)(hl:k.mr.length<1000)(yI:s<4294967296):Calls prog 138 #[pt B.cb,.int .u32 s] w λr V=>r=.returned (.tuple #[])∧U W V (aA B (lN k s)::L):=by
 have zk : WC { k with mr := k.mr ++ [s] } := { hk with
     mr:=by show (k.mr++[s]).length≤1000;rw[aN,jC];omega
     sg:=λx hx=>by
      rcases eX.1 hx with hx | hx
      ·exact hk.sg x hx
      ·rw[iF]at hx;rw[hx];exact yI }
 obtain⟨A,I⟩:=aA.open I;refine EN func138 ntmps138 rfl rfl λa E=>?_;refine RN 5 E I λa E=>?_;replace E:=E.aK 6;refine RN 7 E I λa E=>?_;rw[bn (by omega)]at E;refine RN 8 E I λa E=>?_;refine cn E rfl I underlying69 Ty.t100 rfl rfl rfl rfl (by decide) (by decide) λJV a w E I ho=>?_;clear ho;refine RN 0 E I λa E=>?_;refine cK E rfl I underlying69 Ty.t100 rfl rfl I.ai rfl (by simp[Value.oneCell']) (by decide) (by decide) (by omega) λrH rI a w E I=>?_;rw[show c0 k.mr++_=c0 (k.mr++[s]) from by rw[c0,c0,cS];rfl,show k.mr.length+1=(k.mr++[s]).length from by simp]at I;rw[show k.mr.length+1=(k.mr++[s]).length from by simp]at E;refine ST 2 E I (λa w E I=>?_);refine RN 0 E I λa E=>?_;replace I:=aA.mk' (B:=B) (L':=L) (k:={ k with mr:=k.mr++[s] }) I { A with ch:=rH,cM:=rI };refine CL 1 E I (Mo I zk) λa w E I=>?_;refine RT 0 E I ?_;exact⟨rfl,by rw[lN,ak hl];exact I⟩
theorem ZV (I:U W w (aA B k::L)):Calls prog 296 #[pt B.cb] w λr V=>∃ ad c,r=.returned (.slice ad k.ev.length c)∧U W V (Sl 135 1 ad k.ev.length c (k.ev.map cz)::aA B { k with ev:=[] }::L):=by
 obtain⟨A,I⟩:=aA.open I;refine EN func296 ntmps296 rfl rfl λa E=>?_;refine RN 6 E I λa E=>?_;replace E:=E.aK 5;refine ST 11 E I (λa w E I=>?_);refine RT 3 E I ?_;refine⟨A.adE,A.cE,rfl,?_⟩;replace I:=I.bR 135 1 none;refine U.perm (L:=aA B { k with ev:=[] }::Sl 135 1 A.adE k.ev.length A.cE (k.ev.map cz)::L) ?_ (cW _ _ _);refine aA.close (A:=⟨A.cP,A.ch,A.cM,none,0⟩) ?_;exact I.sub (M:=aa B.cb 257 [.int .i64 k.n,.int .i64 k.me,.int .i64 k.id,.int .i64 k.aJ,.int .i64 k.bo,.int .i64 k.a8,.int .i64 k.order,.int .i64 k.cw,.int .i64 k.workers,.int .i64 k.room,pt B.qb,.slice (some ⟨B.bp,B.op,none⟩) k.ps.length A.cP,.slice A.ch k.mr.length A.cM,.slice none 0 0,.int .i64 k.now,.bool k.cl]::Sl 259 5 (some ⟨B.bp,B.op,none⟩) k.ps.length A.cP (rows iR k.ps)::Sl 100 1 A.ch k.mr.length A.cM (c0 k.mr)::Sl 135 1 none 0 0 []::Qu B.qb B.aB k.ls::Sl 135 1 A.adE k.ev.length A.cE (k.ev.map cz)::L)
theorem ZW (I:U W w (aA B k::L))(hk:WC k):Calls prog 297 #[pt B.cb,.int .u8 (x.toNat:Nat)] w λr V=>r=.returned (.int .i64 (cZ x k).1)∧U W V (aA B (cZ x k).2::L):=by
 have eo:k.me<k.ls.length:=by rw[hk.ls];exact hk.me
 have gS:=hk.lO;have fA:aV k.ls≤aH k:=hk.ny;refine EN func297 ntmps297 rfl rfl λa E=>?_;refine CL 5 E I (zi I) λa w E I=>?_;refine IF 1 E I (λaj a E=>?_) λaj a E=>?_
 ·
  refine RT 2 E I ?_;exact⟨by rw[cZ,ak aj],by rw[cZ,ak aj];exact I⟩
 have cm:¬ k.cl=true:=by rw[aj];decide
 refine CL 2 E I (tE I hk) λa w E I=>?_;refine IF 2 E I (λao a E=>?_) λao a E=>?_
 ·
  refine RT 2 E I ?_;exact⟨by rw[cZ,ag cm,ak (by omega)],by rw[cZ,ag cm,ak (by omega)];exact I⟩
 refine a1 1 (λw0 V=>sk V B k) [1,6,7,12] [0,2,3,4,8,9,10,11,3005,3012,1001,1006,1007,13,14] E I λa w E I hH=>?_;have hC:=hH.at w (aA.rd I);refine RH 8 E I hH hC λa E=>?_;refine QH E (λw hc=>ae E (hc.cf 10 _ rfl)) hC λa E=>?_;refine QH E (λw hc=>ae E (hc.cf 4 _ rfl)) hC λa E=>?_;refine RH 0 E I hH hC λa E=>?_;refine CL 0 E I (tE I hk) λa w E I=>?_;replace hC:=hH.at w (aA.rd I);obtain⟨D,I,hD⟩:=aA.qu I;refine RH 0 E I hH hC λa E=>?_;refine CL 0 E I (sf I hk.lr (by rw[hk.ls];exact hk.n.2)) λa w E I=>?_;replace hC:=hH.at w (aA.rd (hD _ _ I));replace I:=hD _ _ I;refine RH 3 E I hH hC λa E=>?_;refine IF 0 E I (λay a E=>?_) λay a E=>?_
 ·
  refine RT 2 E I ?_;exact⟨by rw[cZ,ag cm,ag (by omega),ak (by rw[aw];omega)],by rw[cZ,ag cm,ag (by omega),ak (by rw[aw];omega)];exact I⟩
 refine a1 1 (λw0 V=>sk V B k) [8] [0,1,2,4,5,6,7,10,3003,1008,1009,1011,12] E I λa w E I hH=>?_;have hC:=hH.at w (aA.rd I);refine RH 8 E I hH hC λa E=>?_;refine QH E (λw hc=>ae E (hc.cf 10 _ rfl)) hC λa E=>?_;refine RH 0 E I hH hC λa E=>?_;refine SS E (ae E (hC.cf 1 _ rfl)) λa E=>?_;obtain⟨D,I,hD⟩:=aA.Gh I;refine RH 0 E I hH hC λa E=>?_;refine CL 0 E I (tC I eo) λa w E I=>?_;refine CL 0 E I (Zx I eo (by simp only[aH]at ao;omega)) λa w E I=>?_;refine RN 1 E I λa E=>?_;refine RT 0 E I ?_;have vj:cZ x k=(0,{ k with ls:=k.ls.set k.me (k.ls.getD k.me []++[x]) }):=by rw[cZ,ag cm,ag (by omega),ag (by rw[aw];omega)]
 rw[vj];exact⟨rfl,hD _ _ _ I⟩
end
def mS (l:List Nat):List Value:=l.map λi:Nat=>Value.int .i64 (i:Int)
theorem Gl {l:List Nat}{i j:Nat}(h:l[i]?=some j):(mS l)[i]?=some (.int .i64 (j:Int)):=by rw[mS,bm,h];rfl
def lu (k:Ks)(i:Nat):List Nat:=(List.range i).filter (·≠k.me)
theorem Gm (k:Ks)(i:Nat):lu k (i+1)=if i=k.me then lu k i else lu k i++[i]:=by
 rw[lu,range_succ,yy];by_cases h:i=k.me
 ·rw[ak h];simp[h,lu]
 ·rw[ag h];simp[h,lu]
theorem Mp (k:Ks):∀ i,(lu k i).length≤i:=λi=>by
 have:=qE (λx=>decide (x≠k.me)) (List.range i);rw[length_range]at this;exact this
abbrev Mx:=Option Addr×Nat×Ml
abbrev bJ (x:Mx):List Value:=[.int .i64 x.2.2.1,.int .i64 x.2.2.2.1,.slice x.1 x.2.2.2.2.length x.2.1]
theorem nz (x:Mx):(bJ x).length=3:=rfl
theorem ZX (x:Mx):∀ v∈bJ x,v.oneCell'=true:=by
 intro v hv;simp[bJ]at hv;rcases hv with rfl | rfl | rfl <;> rfl
def bS (x:Mx):SP:=Sl 5 1 x.1 x.2.2.2.2.length x.2.1 (bc x.2.2.2.2)
def bU (e:TypeId)(ad:Option Addr)(n c:Nat)(ms:List Ml):SP:=λh=>∃ xs:List Mx,(xs.map (·.2.2)=ms∧ms.length=n)∧cp [Sl e 3 ad n c (rows bJ xs),ah bS xs] h
section
variable {W w:World}{L L':List SP}{n c i e to:Nat}{ad adP:Option Addr}{k:Ks}{A:o3}{B:p6}{x:UInt8}{ms:List Ml}{p:Pk}
theorem bU.open (I:U W w (bU e ad n c ms::L)):∃ xs:List Mx,xs.map (·.2.2)=ms∧ms.length=n∧U W w (Sl e 3 ad n c (rows bJ xs)::ah bS xs::L):=by
 obtain⟨xs,⟨h1,h2⟩,I⟩:=I.jL (ι:=List Mx) (p:=λxs=>xs.map (·.2.2)=ms∧ms.length=n) (B:=λxs h=>cp [Sl e 3 ad n c (rows bJ xs),ah bS xs] h) λ_ ⟨xs,h1,h2⟩=>⟨xs,h1,h2⟩;exact⟨xs,h1,h2,I.open (M:=[_,_]) λ_ h=>h⟩
theorem bU.close {xs:List Mx}(I:U W w (Sl e 3 ad n c (rows bJ xs)::ah bS xs::L))(h1:xs.map (·.2.2)=ms)(h2:ms.length=n):U W w (bU e ad n c ms::L) :=
 U.shut (M:=[_,_]) I λ_ h=>⟨xs,⟨h1,h2⟩,h⟩
theorem bU.nil (I:U W w L):U W w (bU e none 0 0 []::L):=bU.close (xs:=[]) (U.bR (U.iZ I) e 3 none) rfl rfl
theorem Gn (I:U W w (aA B k::L))(hk:WC k):Calls prog 315 #[pt B.cb] w λr V=>∃ ad c,r=.returned (.slice ad (bI k).length c)∧U W V (Sl 3 1 ad (bI k).length c (mS (bI k))::aA B k::L):=by
 have gH:=hk.ps;have hn:=hk.n;obtain⟨A,I⟩:=aA.open I;refine EN func315 ntmps315 rfl rfl λa E=>?_;refine RN 12 E I λa E=>?_;rw[gH]at E;replace I:=aA.close I;replace I:=I.bR 3 1 none;refine aQ (λμ a w=>∃ (i:Nat) (ad:Option Addr) (c:Nat),(μ=k.n-i∧i≤k.n)∧Fr a 26 [(0,pt B.cb),(3,.slice ad (lu k i).length c),(9,.int .i64 k.n),(10,.int .i64 i)]∧U W w (Sl 3 1 ad (lu k i).length c (mS (lu k i))::aA B k::L)) (k.n) (⟨0,none,0,⟨rfl,by omega⟩,E.ab [0,3,9,10],I⟩) ?_;clear E I;rintro μ a w ⟨i,ad,c,⟨rfl,hi⟩,E,I⟩;refine IF 3 E I (λaj a E=>?_) λaj a E=>?_
 ·
  have dO:=Mp k i;have lT:=Gm k i;refine RN 10 E I λa E=>?_;refine SS E (ae E (((aA.rd I.tail).cf 1 _ rfl))) λa E=>?_;refine IF 1 E I (λao a E=>?_) λao a E=>?_
  ·
   rw[ag (by omega)]at lT;refine RN 2 E I λa E=>?_;refine cn E rfl I underlying53 Ty.t3 rfl rfl rfl rfl (by decide) (by decide) λuW a w E I ho=>?_;clear ho;refine RN 0 E I λa E=>?_;refine cK E rfl I underlying53 Ty.t3 rfl rfl I.ai rfl (by simp[Value.oneCell']) (by decide) (by decide) (by omega) λgz gA a w E I=>?_;rw[show mS (lu k i)++_=mS (lu k (i+1)) from by rw[lT,mS,mS,cS];rfl,show (lu k i).length+1=(lu k (i+1)).length from by rw[lT,aN];rfl]at I;rw[show (lu k i).length+1=(lu k (i+1)).length from by rw[lT,aN];rfl]at E;refine RN 3 E I λa E=>?_;exact⟨k.n-(i+1),by omega,i+1,gz,gA,⟨rfl,by omega⟩,E.ab [0,3,9,10],I.sub⟩
  rw[ak (by omega)]at lT;refine RN 2 E I λa E=>?_;exact⟨k.n-(i+1),by omega,i+1,ad,c,⟨rfl,by omega⟩,by rw[lT];exact E.ab [0,3,9,10],by rw[lT];exact I⟩
 refine RT 3 E I ?_;obtain rfl:i=k.n:=by omega
 exact⟨ad,c,rfl,I⟩
def tF (k:Ks)(to:Nat)(p:Pk):Pk:={ p with aY:=k.me,to:=to,id:=k.id }
theorem Mq (I:U W w (aA B k::L))(mh:p.sum<4294967296)(hp:∀ V,U W V (aA B k::L)→aL V adP p.al.length p.al) :
   Calls prog 316 #[pt B.cb,.agg (dR p adP c).toArray,.int .i64 to] w λr V=>∃ au c',r=.returned (.agg (bJ (au,c',(k.me,to,aS (tF k to p)))).toArray)∧U W V (bS (au,c',(k.me,to,aS (tF k to p)))::aA B k::L):=by
 refine EN func316 ntmps316 rfl rfl λa E=>?_;refine BX 1 E I λb4 a w E I=>?_;simp only[dR]at I;refine AL 0 E I λcG a w E I=>?_;refine a1 1 (λw0 V=>sk V B k) [10,12,13,14] [0,1,2,3,5,6,7,8,9,3004,11,3010,1012,1013,1014,15,1016] E I λa w E I hH=>?_;have hC:=hH.at w (aA.rd (I.pick (aA B k)));refine RH 9 E I hH hC λa E=>?_;refine QH E (λw hc=>ae E (hc.cf 1 _ rfl)) hC λa E=>?_;refine RH 1 E I hH hC λa E=>?_;refine QH E (λw hc=>ae E (hc.cf 2 _ rfl)) hC λa E=>?_;refine RH 0 E I hH hC λa E=>?_;refine ST 0 E I (λa w E I=>?_);replace hC:=hH.at w (aA.rd (I.pick (aA B k)));refine RH 1 E I hH hC λa E=>?_;refine ST 0 E I (λa w E I=>?_);replace hC:=hH.at w (aA.rd (I.pick (aA B k)));refine RH 1 E I hH hC λa E=>?_;refine ST 0 E I (λa w E I=>?_);refine a1 1 (λw0 V=>Rd V b4 0 (dR (tF k to p) adP c)) [3,4,5] [0,2,3001,3003,1004,1005,6,1007] E I λa w E I hH=>?_;have hC:=hH.at w (I.ai (b:=b4));refine RH 2 E I hH hC λa E=>?_;refine QH E (λw hc=>ae E (hc 1 _ rfl)) hC λa E=>?_;refine QH E (λw hc=>ae E (hc 2 _ rfl)) hC λa E=>?_;refine RH 0 E I hH hC λa E=>?_;refine SS E (bQ E underlying203 rfl Ty.t203 (hC)) λa E=>?_;refine RH 0 E I hH hC λa E=>?_;refine aX 0 E I (Lu (p:=tF k to p) (ad:=adP) (c:=c) I mh (λV hw=>hp V hw.sub)) λad2 c2 a w E I=>?_;replace hC:=hH.at w (I.ai (b:=b4));refine RH 1 E I hH hC λa E=>?_;refine SA 0 E I λa w E I=>?_;refine RT 0 E I ?_;exact⟨ad2,c2,rfl,I.sub (M:=Sl 5 1 ad2 (aS (tF k to p)).length c2 (bc (aS (tF k to p)))::aA B k::L)⟩
theorem Mr {l:List Nat}(h:0<l.length):l.getD (l.length-1) 0=l.getLastD 0:=by
 rw[getLastD_eq_getLast?,List.getLast?_eq_getElem?,bl]
theorem ZY (k:Ks)(to:Nat):tF k to ⟨1,0,0,0,(ar k to).has,(k.ls.getD to []).length,k.mr.length,k.mr.getLastD 0,((k.ls.getD k.me []).drop (ar k to).has).take 32⟩=dV k to:=rfl
set_option maxHeartbeats 1000000 in
theorem ZZ (I:U W w (aA B k::L))(hk:WC k)(tG:to<k.n):Calls prog 319 #[pt B.cb,.int .i64 to] w λr V=>∃ au c',r=.returned (.agg (bJ (au,c',(k.me,to,aS (dV k to)))).toArray)∧U W V (bS (au,c',(k.me,to,aS (dV k to)))::aA B k::L):=by
 have eo:k.me<k.ls.length:=by rw[hk.ls];exact hk.me
 have eU:to<k.ls.length:=by rw[hk.ls];exact tG
 have Z0:to<k.ps.length:=by rw[hk.ps];exact tG
 have ix:=hk.p4 tG;have mA:=hk.ml hk.me;have fb:=vi Z0;have hn:=hk.n;have Ms:=hk.mr;obtain⟨A,I⟩:=aA.open I;refine EN func319 ntmps319 rfl rfl λa E=>?_;refine AL 1 E I λb4 a w E I=>?_;refine RN 0 E I λa E=>?_;refine cc (M:=λa w=>∃ b5:Nat,Fr a 62 [(0,pt B.cb),(1,.int .i64 to),(4,pt b4),(5,pt b5)]∧U W w (aa b5 203 [.int .i64 1,.int .i64 0,.int .i64 0,.int .i64 0,.int .i64 (ar k to).has,.slice none 0 0,.int .i64 (k.ls.getD to []).length,.int .i64 k.mr.length,.int .u32 0]::aa b4 124 [.int .i64 0,.int .i64 0,.slice none 0 0]::aa B.cb 257 (iz k B A)::Sl 259 5 (some ⟨B.bp,B.op,none⟩) k.ps.length A.cP (rows iR k.ps)::Sl 100 1 A.ch k.mr.length A.cM (c0 k.mr)::Sl 135 1 A.adE k.ev.length A.cE (k.ev.map cz)::Qu B.qb B.aB k.ls::L)) ?_ ?_
 ·
  refine a1 0 (λw0 V=>Rd V B.cb 0 (iz k B A)∧Rd V B.bp (B.op+to*5) (iR (ar k to))) [11,13,14,18,19,21] [0,1,2,4,8,9,10,12,15,16,17,3003,5,6,3007,3011,3018,3019,2013,2014,20,1021,1022] E I λa w E I hH=>?_;have hC:=hH.at w ⟨I.ai (b:=B.cb),g8 jS (I.cJ B.bp B.op (by omega)) fb⟩;refine RH 11 E I hH hC λa E=>?_;refine QH E (λw hc=>ae E (hc.1 11 _ rfl)) hC λa E=>?_;refine RH 2 E I hH hC λa E=>?_;refine QH E (λw hc=>ae E (hc.2 0 _ rfl)) hC λa E=>?_;refine QH E (λw hc=>ae E (hc.1 10 _ rfl)) hC λa E=>?_;refine QH E (λw hc=>ae E (hc.1 12 _ rfl)) hC λa E=>?_;refine RH 1 E I hH hC λa E=>?_;refine DN [(13,[2014,20,1021,1022]),(21,[1013,1014,20,1022])] (by kernel_rfl) rfl ⟨⟨_,rfl,?_⟩,⟨_,rfl,?_⟩,trivial⟩
  ·
   refine RH 0 E I hH hC λa E=>?_;refine CL 0 E I (tC (I.pick (Qu B.qb B.aB k.ls)) eU) λa w E I=>?_;replace hC:=hH.at w ⟨I.ai (b:=B.cb),g8 jS (I.cJ B.bp B.op (by omega)) fb⟩;refine RH 0 E I hH hC λa E=>?_;refine DN [(14,[20,1021,1022]),(21,[1014,20,1022])] (by kernel_rfl) rfl ⟨⟨_,rfl,?_⟩,⟨_,rfl,?_⟩,trivial⟩
   ·
    refine RH 0 E I hH hC λa E=>?_;refine CL 0 E I (zf (I.pick (Qu B.qb B.aB k.ls)) eU) λa w E I=>?_;replace hC:=hH.at w ⟨I.ai (b:=B.cb),g8 jS (I.cJ B.bp B.op (by omega)) fb⟩;refine RH 1 E I hH hC λa E=>?_;refine e5 E rfl I Ty.t203 rfl λb5 a w E I ho=>?_;clear ho;replace hC:=hH.at w ⟨I.ai (b:=B.cb),g8 jS (I.cJ B.bp B.op (by omega)) fb⟩;refine RH 0 E I hH hC λa E=>?_;refine SA 0 E I λa w E I=>?_;refine RN 0 E I λa E=>?_;exact⟨_,E.ab [0,1,4,5],I.sub⟩
   refine RH 0 E I hH hC λa E=>?_;refine e5 E rfl I Ty.t203 rfl λb5 a w E I ho=>?_;clear ho;replace hC:=hH.at w ⟨I.ai (b:=B.cb),g8 jS (I.cJ B.bp B.op (by omega)) fb⟩;refine RH 0 E I hH hC λa E=>?_;refine CL 0 E I (zf (I.pick (Qu B.qb B.aB k.ls)) eU) λa w E I=>?_;replace hC:=hH.at w ⟨I.ai (b:=B.cb),g8 jS (I.cJ B.bp B.op (by omega)) fb⟩;refine RH 1 E I hH hC λa E=>?_;refine SA 0 E I λa w E I=>?_;refine RN 0 E I λa E=>?_;exact⟨_,E.ab [0,1,4,5],I.sub⟩
  refine RH 0 E I hH hC λa E=>?_;refine e5 E rfl I Ty.t203 rfl λb5 a w E I ho=>?_;clear ho;replace hC:=hH.at w ⟨I.ai (b:=B.cb),g8 jS (I.cJ B.bp B.op (by omega)) fb⟩;refine RH 0 E I hH hC λa E=>?_;refine CL 0 E I (tC (I.pick (Qu B.qb B.aB k.ls)) eU) λa w E I=>?_;replace hC:=hH.at w ⟨I.ai (b:=B.cb),g8 jS (I.cJ B.bp B.op (by omega)) fb⟩;refine RH 0 E I hH hC λa E=>?_;refine CL 0 E I (zf (I.pick (Qu B.qb B.aB k.ls)) eU) λa w E I=>?_;replace hC:=hH.at w ⟨I.ai (b:=B.cb),g8 jS (I.cJ B.bp B.op (by omega)) fb⟩;refine RH 1 E I hH hC λa E=>?_;refine SA 0 E I λa w E I=>?_;refine RN 0 E I λa E=>?_;exact⟨_,E.ab [0,1,4,5],I.sub⟩
 clear E;(try clear I);rintro a w ⟨b5,E,I⟩;refine cc (M:=λa w=>∃ (cX:Option Addr) (dU:Nat),Fr a 62 [(0,pt B.cb),(1,.int .i64 to),(4,pt b4),(5,pt b5)]∧U W w (aa b5 203 [.int .i64 1,.int .i64 0,.int .i64 0,.int .i64 0,.int .i64 (ar k to).has,.slice cX (((k.ls.getD k.me []).drop (ar k to).has).take 32).length dU,.int .i64 (k.ls.getD to []).length,.int .i64 k.mr.length,.int .u32 0]::Sl 5 1 cX (((k.ls.getD k.me []).drop (ar k to).has).take 32).length dU (bc (((k.ls.getD k.me []).drop (ar k to).has).take 32))::aa b4 124 [.int .i64 0,.int .i64 0,.slice none 0 0]::aa B.cb 257 (iz k B A)::Sl 259 5 (some ⟨B.bp,B.op,none⟩) k.ps.length A.cP (rows iR k.ps)::Sl 100 1 A.ch k.mr.length A.cM (c0 k.mr)::Sl 135 1 A.adE k.ev.length A.cE (k.ev.map cz)::Qu B.qb B.aB k.ls::L)) ?_ ?_
 ·
  refine a1 0 (λw0 V=>Rd V B.cb 0 (iz k B A)∧Rd V b5 0 [.int .i64 1,.int .i64 0,.int .i64 0,.int .i64 0,.int .i64 (ar k to).has,.slice none 0 0,.int .i64 (k.ls.getD to []).length,.int .i64 k.mr.length,.int .u32 0]) [8,9,11] [0,1,2,4,5,6,7,10,3003,3008,3011,1009,1012,13,1014] E I λa w E I hH=>?_;have hC:=hH.at w ⟨I.ai (b:=B.cb),I.ai (b:=b5)⟩;refine RH 8 E I hH hC λa E=>?_;refine QH E (λw hc=>ae E (hc.1 10 _ rfl)) hC λa E=>?_;refine QH E (λw hc=>ae E (hc.1 1 _ rfl)) hC λa E=>?_;refine QH E (λw hc=>ae E (hc.2 4 _ rfl)) hC λa E=>?_;refine RH 0 E I hH hC λa E=>?_;refine CL 0 E I (tC (I.pick (Qu B.qb B.aB k.ls)) eo) λa w E I=>?_;replace hC:=hH.at w ⟨I.ai (b:=B.cb),I.ai (b:=b5)⟩;refine RH 0 E I hH hC λa E=>?_;refine aX 0 E I (Zz (k:=32) (I.pick (Qu B.qb B.aB k.ls)) eo mA ix.1 (by decide)) λcX dU a w E I=>?_;refine ST 1 E I (λa w E I=>?_);refine RN 0 E I λa E=>?_;exact⟨cX,dU,E.ab [0,1,4,5],I.sub⟩
 clear E;(try clear I);rintro a w ⟨cX,dU,E,I⟩;refine cc (M:=λa w=>Fr a 62 [(0,pt B.cb),(1,.int .i64 to),(4,pt b4),(5,pt b5)]∧U W w (aa b5 203 [.int .i64 1,.int .i64 0,.int .i64 0,.int .i64 0,.int .i64 (ar k to).has,.slice cX (((k.ls.getD k.me []).drop (ar k to).has).take 32).length dU,.int .i64 (k.ls.getD to []).length,.int .i64 k.mr.length,.int .u32 (k.mr.getLastD 0:Nat)]::Sl 5 1 cX (((k.ls.getD k.me []).drop (ar k to).has).take 32).length dU (bc (((k.ls.getD k.me []).drop (ar k to).has).take 32))::aa b4 124 [.int .i64 0,.int .i64 0,.slice none 0 0]::aA B k::L)) ?_ ?_
 ·
  refine IF 10 E I (λaj a E=>?_) λaj a E=>?_
  ·
   obtain⟨Gj,Gk,Gp,lS⟩:=(I.pick (Sl 100 1 A.ch k.mr.length A.cM (c0 k.mr))).bY A.ch (by omega);refine RN 4 E I λa E=>?_;rw[Gp]at E;refine RN 2 E I λa E=>?_;rw[show ((k.mr.length:Nat):Int)-1=((k.mr.length-1:Nat):Int) from by omega]at E;refine RN 1 E I λa E=>?_;refine SS E (ae E (lS (k.mr.length-1) _ (B3 (by omega)))) λa E=>?_;refine ST 1 E I (λa w E I=>?_);refine RN 0 E I λa E=>?_;rw[Mr (by omega)]at I;exact⟨E.ab [0,1,4,5],(aA.fold I B k A).sub⟩
  refine RN 0 E I λa E=>?_;have h0:k.mr.getLastD 0=0:=by rw[hG (l:=k.mr) (by omega)];rfl
  exact⟨E.ab [0,1,4,5],by rw[h0];exact (aA.fold I B k A).sub⟩
 clear E;(try clear I);rintro a w ⟨E,I⟩;refine aX 4 E I (Mq (p:=⟨1,0,0,0,(ar k to).has,(k.ls.getD to []).length,k.mr.length,k.mr.getLastD 0,((k.ls.getD k.me []).drop (ar k to).has).take 32⟩) (adP:=cX) (c:=dU) (I.pick (aA B k)) (by
  show k.mr.getLastD 0<4294967296;rw[getLastD_eq_getLast?];cases hl:k.mr.getLast? with
  | none=>decide
  | some s=>exact hk.sg s (List.mem_of_getLast? hl)) (λV hw=>(hw.pick (Sl 5 1 cX (((k.ls.getD k.me []).drop (ar k to).has).take 32).length dU (bc (((k.ls.getD k.me []).drop (ar k to).has).take 32)))).cr cX _ rfl rfl)) λad2 c2 a w E I=>?_
 rw[ZY]at E I;refine SA 0 E I λa w E I=>?_;refine RT 0 E I ?_;exact⟨ad2,c2,rfl,I.sub⟩
def B4 (k:Ks)(j:Nat):List Ml:=((bI k).take j).map λi=>(k.me,i,aS (dV k i))
def B5 (k:Ks)(j:Nat):List Ml:=((bI k).take j).map λi=>(k.me,i,aS (gy k i))
theorem Mt (k:Ks):(bI k).length≤k.n:=Mp k k.n
theorem Z1 (I:U W w (aA B k::L))(hk:WC k):Calls prog 298 #[pt B.cb] w λr V=>∃ ad c,r=.returned (.slice ad (bF k).1.length c)∧U W V (bU 124 ad (bF k).1.length c (bF k).1::aA B (bF k).2::L):=by
 have hn:=hk.n;have dO:=Mt k;refine EN func298 ntmps298 rfl rfl λa E=>?_;refine CL 5 E I (zi I) λa w E I=>?_;refine IF 0 E I (λaj a E=>?_) λaj a E=>?_
 ·
  refine RT 2 E I ?_;exact⟨none,0,by rw[bF,ak aj];rfl,by rw[bF,ak aj];exact bU.nil I⟩
 have hq:bF k=((bI k).map λi=>(k.me,i,aS (gy k i)),{ k with cl:=true }):=by rw[bF,ag (by rw[aj];decide)]
 obtain⟨A,I⟩:=aA.open I;refine ST 4 E I (λa w E I=>?_);refine RN 0 E I λa E=>?_;replace I:=aA.mk' (B:=B) (L':=L) (k:={ k with cl:=true }) I A;refine aX 5 E I (Gn I (by exact (hk.lP).1 |> λh=>by rw[hq]at h;exact h)) λmT co a w E I=>?_;refine RN 2 E I λa E=>?_;replace I:=U.bR (U.iZ (f:=bS) I) 124 3 none;replace E:Fr a 27 ((14,.int .i64 (0:Nat))::(13,.int .i64 (bI k).length)::(12,.slice mT (bI k).length co)::(3,.slice none 0 0)::(0,pt B.cb)::[]):=E.ab [14,13,12,3,0];refine aQ (λμ a w=>∃ (j:Nat) (xs:List Mx) (ad:Option Addr) (c:Nat),(μ=(bI k).length-j∧j≤(bI k).length∧xs.map (·.2.2)=B5 k j∧xs.length=j)∧Fr a 27 [(0,pt B.cb),(3,.slice ad j c),(12,.slice mT (bI k).length co),(13,.int .i64 (bI k).length),(14,.int .i64 j)]∧U W w (Sl 124 3 ad j c (rows bJ xs)::ah bS xs::Sl 3 1 mT (bI k).length co (mS (bI k))::aA B { k with cl:=true }::L)) ((bI k).length) (⟨0,[],none,0,⟨rfl,by omega,rfl,rfl⟩,E.ab [0,3,12,13,14],I⟩) ?_;clear E I;rintro μ a w ⟨j,xs,ad,c,⟨rfl,hj,eh,b0⟩,E,I⟩;refine IF 3 E I (λao a E=>?_) λao a E=>?_
 ·
  obtain⟨i,hi⟩:∃ i,(bI k)[j]?=some i:=⟨_,aD (by omega)⟩;obtain⟨kZ,oo,rfl,gI⟩:=(I.pick (Sl 3 1 mT (bI k).length co (mS (bI k)))).bY mT (by omega);refine RN 3 E I λa E=>?_;refine SS E (ae E (gI j _ (Gl hi))) λa E=>?_;refine aX 5 E I (Mq (k:={ k with cl:=true }) (to:=i) (p:=⟨2,0,0,0,0,0,0,0,[]⟩) (adP:=none) (c:=0) (I.pick (aA B { k with cl:=true })) (by decide) (λV hw=>aL.nil)) λad2 c2 a w E I=>?_;rw[show tF { k with cl:=true } i ⟨2,0,0,0,0,0,0,0,[]⟩=gy k i from rfl]at E I;refine RN 0 E I λa E=>?_;refine cn E rfl I underlying108 Ty.t124 rfl rfl rfl rfl (by decide) (by decide) λyO a w E I ho=>?_;clear ho;refine RN 0 E I λa E=>?_;refine cK E rfl I underlying108 Ty.t124 rfl rfl I.ai rfl (by simp[Value.oneCell']) (by decide) (by decide) (by omega) λMv Mw a w E I=>?_;rw[show rows bJ xs++_=rows bJ (xs++[(ad2,c2,(k.me,i,aS (gy k i)))]) from by rw[kz];rfl]at I;refine RN 3 E I λa E=>?_;have cI:=U.jY (f:=bS) (x:=(ad2,c2,(k.me,i,aS (gy k i)))) (I.sub (M:=bS (ad2,c2,(k.me,i,aS (gy k i)))::ah bS xs::Sl 124 3 Mv (j+1) Mw (rows bJ (xs++[(ad2,c2,(k.me,i,aS (gy k i)))]))::Sl 3 1 (some ⟨kZ,oo,none⟩) (bI k).length co (mS (bI k))::aA B { k with cl:=true }::L));exact⟨(bI k).length-(j+1),by omega,j+1,xs++[(ad2,c2,(k.me,i,aS (gy k i)))],Mv,Mw,⟨rfl,by omega,by
   have ea:j<(bI k).length:=by omega
   rw[cS,eh,B5,B5,jv ea,cS,(aZ.1 hi).2];rfl,by rw[aN,b0];rfl⟩,E.ab [0,3,12,13,14],cI.sub⟩
 refine RT 3 E I ?_;obtain rfl:j=(bI k).length:=by omega
 rw[B5,k0]at eh;have g5:((bI k).map λi=>(k.me,i,aS (gy k i))).length=(bI k).length:=bf _;rw[hq];refine⟨ad,c,by rw[g5],?_⟩;rw[g5];exact bU.close (xs:=xs) I.sub eh g5
end
theorem My {α:Type}{p:α→Bool}:∀ {l:List α} {j:Nat} {x:α},(∀ y∈l.take j,p y=false)→l[j]?=some x→p x=true→l.find? p=some x
 | [],j,x,_,h,_=>by simp at h
 | y::l,0,x,_,h,hp=>by
  obtain rfl:y=x:=by simpa using h
  rw[List.find?_cons,hp]
 | y::l,j+1,x,E,h,hp=>by
  rw[List.find?_cons,E y (by simp)];exact My (j:=j) (λz hz=>E z (by rw[take_succ_cons];exact gU _ hz)) (by simpa using h) hp
theorem Mz {α:Type}{p:α→Bool}{l:List α}(h:∀ y∈l,p y=false):l.find? p=none:=by
 rw[List.find?_eq_none];intro y hy hp;rw[h y hy]at hp;cases hp
section
variable {W w:World}{L L' R:List SP}{n c i e to:Nat}{ad adP:Option Addr}{k:Ks}{A:o3}{B:p6}{x:UInt8}{p:Pk}{bs:List UInt8}
theorem Z2 (I:U W w (aA B k::L))(hk:WC k)(pv:k.now≤1000000):Calls prog 300 #[pt B.cb] w λr V=>∃ ad c,r=.returned (.slice ad (bq k).1.length c)∧U W V (bU 124 ad (bq k).1.length c (bq k).1::aA B (bq k).2::L):=by
 have hn:=hk.n;refine EN func300 ntmps300 rfl rfl λa E=>?_;refine CL 5 E I (zi I) λa w E I=>?_;refine IF 0 E I (λaj a E=>?_) λaj a E=>?_
 ·
  refine RT 2 E I ?_;exact⟨none,0,by rw[bq,ak aj];rfl,by rw[bq,ak aj];exact bU.nil I⟩
 have hq:bq k=(match (bI { k with now:=k.now+1 }).find? (λi=>decide (jD { k with now:=k.now+1 } i)) with
  | some i=>([],{ k with now:=k.now+1,ev:=k.ev++[(2,i,0)],cl:=true })
  | none=>((bI { k with now:=k.now+1 }).map λi=>(k.me,i,aS (dV { k with now:=k.now+1 } i)),{ k with now:=k.now+1 })):=by rw[bq,ag (by rw[aj];decide)];rfl
 obtain⟨A,I⟩:=aA.open I;refine RN 6 E I λa E=>?_;rw[show ((k.now:Nat):Int)+1=((k.now+1:Nat):Int) from by omega]at E;refine ST 2 E I (λa w E I=>?_);refine RN 0 E I λa E=>?_;replace I:=aA.fold I B { k with now:=k.now+1 } A;have e7:WC { k with now:=k.now+1 }:=hk.BW;have p7:=hk.kQ;have Gq:({ k with now:=k.now+1 }:Ks).now≤1000001:=by show k.now+1≤_;omega
 have Gr:({ k with now:=k.now+1 }:Ks).ev.length≤9:=p7;have il:bq k=(match (bI { k with now:=k.now+1 }).find? (λi=>decide (jD { k with now:=k.now+1 } i)) with
  | some i=>([],{ ({ k with now:=k.now+1 }:Ks) with ev:=({ k with now:=k.now+1 }:Ks).ev++[(2,i,0)],cl:=true })
  | none=>((bI { k with now:=k.now+1 }).map λi=>(({ k with now:=k.now+1 }:Ks).me,i,aS (dV { k with now:=k.now+1 } i)),{ k with now:=k.now+1 })):=hq
 clear hq;have Gt:2≤({ k with now:=k.now+1 }:Ks).n∧({ k with now:=k.now+1 }:Ks).n≤8:=hn;generalize ({ k with now:=k.now+1 }:Ks)=k1 at I e7 il Gq Gr Gt;have dO:=Mt k1;refine aX 5 E I (Gn I e7) λmT co a w E I=>?_;refine RN 2 E I λa E=>?_;replace E:Fr a 61 ((20,.int .i64 (0:Nat))::(19,.int .i64 (bI k1).length)::(18,.slice mT (bI k1).length co)::(3,.slice none 0 0)::(0,pt B.cb)::[]):=E.ab [20,19,18,3,0];refine aQ (λμ a w=>∃ (j:Nat),(μ=(bI k1).length-j∧j≤(bI k1).length∧∀ y∈(bI k1).take j,decide (jD k1 y)=false)∧Fr a 61 [(0,pt B.cb),(3,.slice none 0 0),(18,.slice mT (bI k1).length co),(19,.int .i64 (bI k1).length),(20,.int .i64 j)]∧U W w (Sl 3 1 mT (bI k1).length co (mS (bI k1))::aA B k1::L)) ((bI k1).length) (⟨0,⟨rfl,by omega,λy hy=>by simp at hy⟩,E.ab [0,3,18,19,20],I⟩) ?_;clear E I;rintro μ a w ⟨j,⟨rfl,hj,b6⟩,E,I⟩;refine IF 3 E I (λao a E=>?_) λao a E=>?_
 ·
  have ea:j<(bI k1).length:=by omega
  obtain⟨i,hi⟩:∃ i,(bI k1)[j]?=some i:=⟨_,aD ea⟩;obtain⟨kZ,oo,rfl,gI⟩:=I.bY mT (by omega);have cF:=(ve.1 (bH hi)).1;have ix:=e7.p4 cF;have aF:i<k1.ps.length:=by rw[e7.ps];exact cF
  have rR:=aA.rd (I.tail);obtain⟨cP,eO⟩:=rR.pl;refine RN 3 E I λa E=>?_;refine SS E (ae E (gI j _ (Gl hi))) λa E=>?_;refine RN 2 E I λa E=>?_;have tH:sk w.drew B k1:=aA.rd (I.drew.tail);have uI:w.drew.cell? ⟨B.cb,11,none⟩=some (.slice (some ⟨B.bp,B.op,none⟩) k1.ps.length cP):=eO;refine qy 0 (Old w.drew) [7,9,10,11] [0,1,2,4,5,6,8,3003,1007,1009,1010,1011,12,13] E I λa E=>?_;replace I:=I.drew;have hH:=Hd.fK I;have hC:=Old.refl w.drew;generalize w.drew=w at I hH hC tH uI ⊢;refine RH 7 E I hH hC λa E=>?_;refine QH E (λw hc=>ae E (hc.cell (tH.now))) hC λa E=>?_;refine RH 0 E I hH hC λa E=>?_;refine SS E (ae E (uI)) λa E=>?_;refine RH 2 E I hH hC λa E=>?_;refine SS E (ae E (tH.pe i _ (vi aF) 1 _ rfl)) λa E=>?_;refine RH 2 E I hH hC λa E=>?_;refine IF 0 E I (λay a E=>?_) λay a E=>?_
  ·
   have hlt:jD k1 i:=by rw[jD];omega
   rw[My b6 hi (dp hlt)]at il;refine CL 4 E I (Gi (e:=(2,i,0)) (I.pick (aA B k1)) ⟨by simp,by simp,by show i<8;omega,by simp,.inr rfl⟩ (by omega)) λa w E I=>?_;refine RN 1 E I λa E=>?_;obtain⟨A2,I⟩:=aA.open I;refine ST 3 E I (λa w E I=>?_);refine RN 0 E I λa E=>?_;replace I:=aA.fold I B { k1 with ev:=k1.ev++[(2,i,0)],cl:=true } A2;refine RT 2 E I ?_;rw[il];exact⟨none,0,rfl,bU.nil I.sub⟩
  have hlt:¬ jD k1 i:=by rw[jD];omega
  refine RN 2 E I λa E=>?_;exact⟨(bI k1).length-(j+1),by omega,j+1,⟨rfl,by omega,λy hy=>by
   rw[jv ea,eX,iF]at hy;rcases hy with hy | rfl
   ·exact b6 y hy
   ·rw[(aZ.1 hi).2];exact bn hlt⟩,E.ab [0,3,18,19,20],I⟩
 obtain rfl:j=(bI k1).length:=by omega
 rw[k0]at b6;rw[Mz b6]at il;clear b6;refine aX 3 E I (Gn (I.tail) e7) λzl zm a w E I=>?_;refine RN 2 E I λa E=>?_;replace I:=U.bR (U.iZ (f:=bS) I) 124 3 none;replace E:Fr a 61 ((49,.int .i64 (0:Nat))::(48,.int .i64 (bI k1).length)::(47,.slice zl (bI k1).length zm)::(3,.slice none 0 0)::(0,pt B.cb)::[]):=E.ab [49,48,47,3,0];refine aQ (λμ a w=>∃ (j:Nat) (xs:List Mx) (ad:Option Addr) (c:Nat),(μ=(bI k1).length-j∧j≤(bI k1).length∧xs.map (·.2.2)=B4 k1 j∧xs.length=j)∧Fr a 61 [(0,pt B.cb),(3,.slice ad j c),(47,.slice zl (bI k1).length zm),(48,.int .i64 (bI k1).length),(49,.int .i64 j)]∧U W w (Sl 124 3 ad j c (rows bJ xs)::ah bS xs::Sl 3 1 zl (bI k1).length zm (mS (bI k1))::aA B k1::L)) ((bI k1).length) (⟨0,[],none,0,⟨rfl,by omega,rfl,rfl⟩,E.ab [0,3,47,48,49],I⟩) ?_;clear E I;rintro μ a w ⟨j,xs,ad,c,⟨rfl,hj,eh,b0⟩,E,I⟩;refine IF 3 E I (λbj a E=>?_) λbj a E=>?_
 ·
  obtain⟨i,hi⟩:∃ i,(bI k1)[j]?=some i:=⟨_,aD (by omega)⟩;obtain⟨kZ,oo,rfl,gI⟩:=(I.pick (Sl 3 1 zl (bI k1).length zm (mS (bI k1)))).bY zl (by omega);have cF:=(ve.1 (bH hi)).1;refine RN 3 E I λa E=>?_;refine SS E (ae E (gI j _ (Gl hi))) λa E=>?_;refine aX 4 E I (ZZ (to:=i) (I.pick (aA B k1)) e7 cF) λad2 c2 a w E I=>?_;refine RN 0 E I λa E=>?_;refine cn E rfl I underlying108 Ty.t124 rfl rfl rfl rfl (by decide) (by decide) λb57 a w E I ho=>?_;clear ho;refine RN 0 E I λa E=>?_;refine cK E rfl I underlying108 Ty.t124 rfl rfl I.ai rfl (by simp[Value.oneCell']) (by decide) (by decide) (by omega) λMA MB a w E I=>?_;rw[show rows bJ xs++_=rows bJ (xs++[(ad2,c2,(k1.me,i,aS (dV k1 i)))]) from by rw[kz];rfl]at I;refine RN 3 E I λa E=>?_;have cI:=U.jY (f:=bS) (x:=(ad2,c2,(k1.me,i,aS (dV k1 i)))) (I.sub (M:=bS (ad2,c2,(k1.me,i,aS (dV k1 i)))::ah bS xs::Sl 124 3 MA (j+1) MB (rows bJ (xs++[(ad2,c2,(k1.me,i,aS (dV k1 i)))]))::Sl 3 1 (some ⟨kZ,oo,none⟩) (bI k1).length zm (mS (bI k1))::aA B k1::L));exact⟨(bI k1).length-(j+1),by omega,j+1,xs++[(ad2,c2,(k1.me,i,aS (dV k1 i)))],MA,MB,⟨rfl,by omega,by
   have ea:j<(bI k1).length:=by omega
   rw[cS,eh,B4,B4,jv ea,cS,(aZ.1 hi).2];rfl,by rw[aN,b0];rfl⟩,E.ab [0,3,47,48,49],cI.sub⟩
 refine RT 3 E I ?_;obtain rfl:j=(bI k1).length:=by omega
 rw[B4,k0]at eh;have g5:((bI k1).map λi=>(k1.me,i,aS (dV k1 i))).length=(bI k1).length:=bf _;rw[il];refine⟨ad,c,by rw[g5],?_⟩;rw[g5];exact bU.close (xs:=xs) I.sub eh g5
theorem WC.peer (h:WC k){q:Pe}(hi:i<k.n)(hq:q.has≤1000∧q.frame≤1000∧q.sum<4294967296)(hh:q.heard≤k.now)(E:q.apart=(ar k i).apart):WC { k with ps:=k.ps.set i q } :=
 h.BT (ev:=k.ev) (cl:=k.cl) hq hh h.bw (by rw[F5 (by rw[h.ps];exact hi) E];exact h.oZ)
theorem WC.line (h:WC k){l:List UInt8}(hl:l.length≤1000):WC { k with ls:=k.ls.set i l } :=
 { h with
  ls:=by show (k.ls.set i l).length=_;rw[bt];exact h.ls
  nx:=λy hy=>by
   rcases mem_set hy with hy | rfl
   ·exact h.nx y hy
   ·exact hl }
theorem MC {ls:List (List UInt8)}{i j:Nat}{l:List UInt8}(h:i≠j):(ls.set i l).getD j []=ls.getD j []:=by
 rw[bl,getElem?_set_ne h,← bl]
theorem aA.MD (I:U W w L)(B:p6)(k:Ks)(A:o3)(q1 q2:Pe)[kk:fN L [aa B.cb 257 (iz { k with ps:=k.ps.set i q1 } B A),Sl 259 5 (some ⟨B.bp,B.op,none⟩) (k.ps.set i q1).length A.cP (rows iR (k.ps.set i q2)),Sl 100 1 A.ch k.mr.length A.cM (c0 k.mr),Sl 135 1 A.adE k.ev.length A.cE (k.ev.map cz),Qu B.qb B.aB k.ls] R]:U W w (aA B { k with ps:=k.ps.set i q2 }::R):=by
 have h1:=I.perm kk.perm;rw[show iz { k with ps:=k.ps.set i q1 } B A=iz { k with ps:=k.ps.set i q2 } B A from by simp only[iz,bt],show (k.ps.set i q1).length=(k.ps.set i q2).length from by simp only[bt]]at h1;exact aA.close (A:=A) h1
theorem aA.Z3 (I:U W w L)(B:p6)(k:Ks)(A:o3)(q2:Pe)[kk:fN L [aa B.cb 257 (iz k B A),Sl 259 5 (some ⟨B.bp,B.op,none⟩) k.ps.length A.cP (rows iR (k.ps.set i q2)),Sl 100 1 A.ch k.mr.length A.cM (c0 k.mr),Sl 135 1 A.adE k.ev.length A.cE (k.ev.map cz),Qu B.qb B.aB k.ls] R]:U W w (aA B { k with ps:=k.ps.set i q2 }::R):=by
 have h1:=I.perm kk.perm;rw[show iz k B A=iz { k with ps:=k.ps.set i q2 } B A from by simp only[iz,bt],show k.ps.length=(k.ps.set i q2).length from by simp only[bt]]at h1;exact aA.close (A:=A) h1
theorem B6 (h:k.cl=true):dC bs k=(6,k):=by rw[dC,ak h]
theorem ME (h:k.cl=false)(hd:eJ bs=none):dC bs k=(1,k):=by rw[dC,ag (by rw[h];decide),hd]
theorem xm (h:k.cl=false)(hd:eJ bs=some p)(hx:p.to≠k.me∨(k.n:Int)≤p.aY∨p.id≠k.id):dC bs k=(1,k):=by
 rw[dC,ag (by rw[h];decide),hd];show (if _ then _ else _)=_;rw[ak hx]
theorem MF (h:k.cl=false)(hd:eJ bs=some p)(hx:¬ (p.to≠k.me∨(k.n:Int)≤p.aY∨p.id≠k.id)):dC bs k=(0,gb k p):=by
 rw[dC,ag (by rw[h];decide),hd];show (if _ then _ else _)=_;rw[ag hx]
set_option maxHeartbeats 2000000 in
theorem Z4 (I:U W w (aA B k::L))(hk:WC k)(hb:bs.length≤65536)(hc:bs.length≤c)(hp:∀ V,U W V L→aL V ad bs.length bs) :
   Calls prog 299 #[pt B.cb,.slice ad bs.length c] w λr V=>r=.returned (.int .i64 (dC bs k).1)∧U W V (aA B (dC bs k).2::L):=by
 have hn:=hk.n;refine EN func299 ntmps299 rfl rfl λa E=>?_;refine CL 5 E I (zi I) λa w E I=>?_;refine IF 0 E I (λaj a E=>?_) λaj a E=>?_
 ·
  refine RT 2 E I ?_;exact⟨by rw[B6 aj],by rw[B6 aj];exact I⟩
 refine j2 2 E I (Zc I hb hc (λV hw=>hp V hw.tail)) ?_;clear E I;rintro e w ⟨p,adP,cP,ok,rfl,hd,I⟩;refine⟨_,rfl,λa E=>?_⟩;refine AL 3 E I λb5 a w E I=>?_;refine SA 0 E I λa w E I=>?_;refine RN 3 E I λa E=>?_;obtain⟨A,I⟩:=aA.open (I.pick (aA B k));refine bW 0 [9,19,29] [0,1,2,3,5,6,7,8,3004,1009,10,11,12,13,15,16,17,18,3014,1019,20,21,22,23,25,26,27,28,3024,1029,30,31] E I λa w E I hH hC=>?_;refine RH 3 E I hH hC λa E=>?_;refine E.by (s:=17) (λbA E=>?_) (λbA E=>?_)
 ·
  have dj:ok=false:=by cases ok with | false=>rfl | true=>exact absurd rfl bA
  have c7:eJ bs=none:=by
   rcases hd with ⟨h,_⟩ | ⟨_,h,_⟩
   ·rw[dj]at h;cases h
   ·exact h
  refine RH 29 E I hH hC λa E=>?_;refine RT 3 E I ?_;rw[ME aj c7];exact⟨rfl,(aA.fold I B k A).sub⟩
 have dj:ok=true:=by cases ok with | true=>rfl | false=>exact absurd bA (by decide)
 have p8:eJ bs=some p:=by
  rcases hd with ⟨_,h⟩ | ⟨h,_⟩
  ·exact h
  ·rw[dj]at h;cases h
 obtain⟨tI,gH,_⟩:=Fy p8;have Gu:=tI.1;refine RH 10 E I hH hC λa E=>?_;refine E.by (s:=27) (λic E=>?_) (λic E=>?_)
 ·
  refine RH 19 E I hH hC λa E=>?_;refine RT 3 E I ?_;rw[xm aj p8 (.inl ic)];exact⟨rfl,(aA.fold I B k A).sub⟩
 refine RH 10 E I hH hC λa E=>?_;refine E.by (s:=37) (λpY E=>?_) (λpY E=>?_)
 ·
  refine RH 9 E I hH hC λa E=>?_;refine RT 3 E I ?_;rw[xm aj p8 (.inr (.inl pY))];exact⟨rfl,(aA.fold I B k A).sub⟩
 refine RH 9 E I hH hC λa E=>?_;refine IF 0 E I (λao a E=>?_) λao a E=>?_
 ·
  refine RT 2 E I ?_;rw[xm aj p8 (.inr (.inr ao))];exact⟨rfl,(aA.fold I B k A).sub⟩
 have b6:¬ (p.to≠k.me∨(k.n:Int)≤p.aY∨p.id≠k.id):=by
  rintro (h | h | h)
  ·exact h ic
  ·omega
  ·exact h ao
 rw[MF aj p8 b6];clear hd dj;obtain⟨fr,fA⟩:=sm Gu.1;have g9:fr<k.n:=by omega
 have eY:fr<k.ls.length:=by rw[hk.ls];exact g9
 have nA:fr<k.ps.length:=by rw[hk.ps];exact g9
 have Gv:fr≠k.me:=by have:=tI.2.2.1;omega
 have ix:=hk.p4 g9;have jR:p.aY.toNat=fr:=by omega
 refine bW 1 [5] [0,1,2,4,3003,1005,6,7] E I λa w E I hH hC=>?_;refine RH 6 E I hH hC λa E=>?_;rw[fA]at E;refine RH 2 E I hH hC λa E=>?_;refine RN 8 E I λa E=>?_;refine mx (off:=B.op) (k:=fr*5+1) E rfl I Ty.t3 rfl (by omega) (by rw[iG jS];omega) λa w E I=>?_;rw[qx jS k.ps { ar k fr with heard:=k.now } nA (by decide) (by rw[Mn nA];rfl)]at I;have ca:=hk.peer (q:={ ar k fr with heard:=k.now }) g9 ⟨ix.1,ix.2.2⟩ (bh _) rfl;replace I:=aA.Z3 (i:=fr) I B k A { ar k fr with heard:=k.now };refine IF 5 E I (λay a E=>?_) λay a E=>?_
 ·
  refine RN 4 E I λa E=>?_;rw[fA]at E;refine CL 1 E I (Gi (e:=(1,fr,0)) I ⟨by simp,by simp,by show fr<8;omega,by simp,.inr rfl⟩ (by have:=hk.kQ;show k.ev.length≤100;omega)) λa w E I=>?_;refine RN 1 E I λa E=>?_;obtain⟨A2,I⟩:=aA.open I;refine ST 3 E I (λa w E I=>?_);refine RN 0 E I λa E=>?_;replace I:=aA.fold I B { k with ps:=k.ps.set fr { ar k fr with heard:=k.now },ev:=k.ev++[(1,fr,0)],cl:=true } A2;refine RT 2 E I ?_;refine⟨rfl,?_⟩;rw[gb,ak ay,jR];exact I.sub
 refine RN 1 E I λa E=>?_;have gZ:eR p.first∧eR p.c8∧eR p.frame∧p.al.length≤32:=by
  rcases tI.2.2.2.2 with h | h
  ·exact h.2
  ·exact absurd h.1 ay
 simp only[eR]at gZ;obtain⟨fi,xn⟩:=sm gZ.1.1;obtain⟨jE,B7⟩:=sm gZ.2.1.1;obtain⟨kl,Gw⟩:=sm gZ.2.2.1.1;obtain⟨D,I,hD⟩:=aA.Gh I;have MG:∀ V L',U W V (Qu B.qb B.aB k.ls::D::L')→sk V B { k with ps:=k.ps.set fr { ar k fr with heard:=k.now } }:=λV L' h=>aA.rd (hD V L' _ h);refine a1 0 (λw0 V=>Rd V b5 0 (dR p adP cP)∧sk V B { k with ps:=k.ps.set fr { ar k fr with heard:=k.now } }) [5,6,8,10] [0,1,2,4,7,9,3003,3005,3008,3010,1006,1011] E I λa w E I hH=>?_;have hC:=hH.at w ⟨I.ai (b:=b5),MG _ _ I⟩;refine RH 6 E I hH hC λa E=>?_;refine QH E (λw hc=>ae E (hc.2.cf 10 _ rfl)) hC λa E=>?_;refine QH E (λw hc=>ae E (hc.1 1 _ rfl)) hC λa E=>?_;rw[fA]at E;refine RH 0 E I hH hC λa E=>?_;refine QH E (λw hc=>ae E (hc.1 4 _ rfl)) hC λa E=>?_;rw[xn]at E;refine RH 0 E I hH hC λa E=>?_;refine QH E (λw hc=>ae E (hc.1 5 _ rfl)) hC λa E=>?_;refine RH 0 E I hH hC λa E=>?_;refine CL 0 E I (tC I eY) λa w E I=>?_;replace hC:=hH.at w ⟨I.ai (b:=b5),MG _ _ I⟩;refine RH 0 E I hH hC λa E=>?_;refine aX 0 E I (Zy (fr:=fi) (bs:=p.al) I eY (hk.ml g9) (by omega) (λV hw=>(hw.pick (Sl 5 1 adP p.al.length cP (bc p.al))).cr adP p.al rfl rfl)) λMH er a w E I=>?_;refine RN 0 E I λa E=>?_;replace I:=hD _ _ _ I;have mC:=ca.line (i:=fr) (l:=dw (k.ls.getD fr []) fi p.al) (se (hk.ml g9)).2;have gS:aH ({ k with ls:=k.ls.set fr (dw (k.ls.getD fr []) fi p.al),ps:=k.ps.set fr { ar k fr with heard:=k.now } }:Ks)=aH k:=by
  show ((k.ls.set fr _).getD k.me []).length=_;rw[MC Gv];rfl
 have xp:(k.ps.set fr { ar k fr with heard:=k.now })[fr]?=some { ar k fr with heard:=k.now }:=getElem?_set_self nA;refine cc (M:=λa w=>∃ hh:Nat,hh=(if (ar k fr).has<jE∧jE≤aH k then jE else (ar k fr).has)∧Fr a 127 [(0,pt B.cb),(5,pt b5),(7,.pointer (some ⟨B.bp,B.op+fr*5,none⟩))]∧U W w (aA B { k with ls:=k.ls.set fr (dw (k.ls.getD fr []) fi p.al),ps:=k.ps.set fr { ar k fr with heard:=k.now,has:=hh } }::aa b5 203 (dR p adP cP)::L)) ?_ ?_
 ·
  refine a1 1 (λw0 V=>Rd V b5 0 (dR p adP cP)∧sk V B { k with ls:=k.ls.set fr (dw (k.ls.getD fr []) fi p.al),ps:=k.ps.set fr { ar k fr with heard:=k.now } }) [5,11] [0,2,3,4,3001,1005,6,7,8,10,3009,1011,12,13] E I λa w E I hH=>?_;have hC:=hH.at w ⟨I.ai (b:=b5),aA.rd I⟩;refine RH 4 E I hH hC λa E=>?_;refine QH E (λw hc=>ae E (hc.1 6 _ rfl)) hC λa E=>?_;refine RH 0 E I hH hC λa E=>?_;refine SS E (ae E (hC.2.pe fr _ xp 0 (.int .i64 (ar k fr).has) rfl)) λa E=>?_;refine RH 2 E I hH hC λa E=>?_;refine E.by (s:=91) (λiN E=>?_) (λiN E=>?_)
  ·
   refine RH 2 E I hH hC λa E=>?_;refine QH E (λw hc=>ae E (hc.1 6 _ rfl)) hC λa E=>?_;refine RH 0 E I hH hC λa E=>?_;refine CL 0 E I (tE I mC) λa w E I=>?_;replace hC:=hH.at w ⟨I.ai (b:=b5),aA.rd I⟩;rw[gS]at E;refine RH 2 E I hH hC λa E=>?_;refine IF 0 E I (λbj a E=>?_) λbj a E=>?_
   ·
    obtain⟨A2,I⟩:=aA.open I;refine RN 3 E I λa E=>?_;rw[B7]at E;refine RN 2 E I λa E=>?_;refine mx (off:=B.op) (k:=fr*5+0) E rfl I Ty.t3 rfl (by omega) (by rw[iG jS,bt];omega) λa w E I=>?_;rw[qx jS (k.ps.set fr { ar k fr with heard:=k.now }) { ar k fr with heard:=k.now,has:=jE } (by rw[bt];exact nA) (by decide) (by rw[ou];rfl),set_set]at I;replace I:=aA.MD (i:=fr) I B { k with ls:=k.ls.set fr (dw (k.ls.getD fr []) fi p.al) } A2 { ar k fr with heard:=k.now } { ar k fr with heard:=k.now,has:=jE };refine RN 0 E I λa E=>?_;exact⟨jE,by rw[ak ⟨by omega,by omega⟩],E.ab [0,5,7],I.sub⟩
   refine RN 0 E I λa E=>?_;exact⟨_,by rw[ag (by omega)],E.ab [0,5,7],I.sub⟩
  refine RH 6 E I hH hC λa E=>?_;refine RN 1 E I λa E=>?_;exact⟨_,by rw[ag (by omega)],E.ab [0,5,7],I.sub⟩
 clear E;(try clear I);rintro a w ⟨hh,zn,E,I⟩;refine cc (M:=λa w=>∃ q:Pe,(q=ga k.now (aH k) p (ar k fr)∧WC { k with ls:=k.ls.set fr (dw (k.ls.getD fr []) fi p.al),ps:=k.ps.set fr q })∧Fr a 127 [(0,pt B.cb)]∧U W w (aA B { k with ls:=k.ls.set fr (dw (k.ls.getD fr []) fi p.al),ps:=k.ps.set fr q }::aa b5 203 (dR p adP cP)::L)) ?_ ?_
 ·
  refine bW 1 [9] [0,1001,2,3,4,6,7,8,3005,1009,10,11] E I λa w E I hH hC=>?_;have xq:(k.ps.set fr { ar k fr with heard:=k.now,has:=hh })[fr]?=some { ar k fr with heard:=k.now,has:=hh }:=getElem?_set_self nA;have rR:sk w B { k with ls:=k.ls.set fr (dw (k.ls.getD fr []) fi p.al),ps:=k.ps.set fr { ar k fr with heard:=k.now,has:=hh } }:=aA.rd I;have Gx:p.c8.toNat=jE:=by omega
  have Gy:p.frame.toNat=kl:=by omega
  have hP:ga k.now (aH k) p (ar k fr)=(if 0<p.frame∧((ar k fr).frame:Int)≤p.frame then { ar k fr with heard:=k.now,has:=hh,frame:=kl,sum:=p.sum } else { ar k fr with heard:=k.now,has:=hh }):=by
   rw[ga,Gx,Gy,zn]
  have vk:hh≤1000:=by rw[zn];split <;> omega
  refine RH 4 E I hH hC λa E=>?_;refine E.by (s:=106) (λbE E=>?_) (λbE E=>?_)
  ·
   refine RH 5 E I hH hC λa E=>?_;refine bu E (cu E rfl (s:=106)) (ae E (rR.pe fr _ xq 2 (.int .i64 (ar k fr).frame) rfl)) rfl λa E=>?_;refine RH 2 E I hH hC λa E=>?_;refine IF 0 E I (λbO a E=>?_) λbO a E=>?_
   ·
    refine RN 0 E I λa E=>?_;obtain⟨A3,I⟩:=aA.open I;refine a1 0 (λw0 V=>Rd V b5 0 (dR p adP cP)) [5,8] [0,1,2,4,3003,6,7,3005,1008,9,10,1011] E I λa w E I hH=>?_;have hC:=hH.at w (I.ai (b:=b5));refine RH 4 E I hH hC λa E=>?_;refine QH E (λw hc=>ae E (hc 7 _ rfl)) hC λa E=>?_;rw[Gw]at E;refine RH 2 E I hH hC λa E=>?_;refine QH E (λw hc=>ae E (hc 8 _ rfl)) hC λa E=>?_;refine RH 0 E I hH hC λa E=>?_;refine mx (off:=B.op) (k:=fr*5+2) E rfl I Ty.t3 rfl (by omega) (by rw[iG jS,bt];omega) λa w E I=>?_;replace hC:=hH.at w (I.ai (b:=b5));rw[qx jS (k.ps.set fr { ar k fr with heard:=k.now,has:=hh }) { ar k fr with heard:=k.now,has:=hh,frame:=kl } (by rw[bt];exact nA) (by decide) (by rw[ou];rfl),set_set]at I;refine RH 2 E I hH hC λa E=>?_;refine mx (off:=B.op) (k:=fr*5+3) E rfl I Ty.t100 rfl (by omega) (by rw[iG jS,bt];omega) λa w E I=>?_;rw[qx jS (k.ps.set fr { ar k fr with heard:=k.now,has:=hh,frame:=kl }) { ar k fr with heard:=k.now,has:=hh,frame:=kl,sum:=p.sum } (by rw[bt];exact nA) (by decide) (by rw[ou];rfl),set_set]at I;replace I:=aA.MD (i:=fr) I B { k with ls:=k.ls.set fr (dw (k.ls.getD fr []) fi p.al) } A3 { ar k fr with heard:=k.now,has:=hh } { ar k fr with heard:=k.now,has:=hh,frame:=kl,sum:=p.sum };refine RN 0 E I λa E=>?_;exact⟨_,⟨by rw[hP,ak (by omega)],(hk.peer (q:={ ar k fr with heard:=k.now,has:=hh,frame:=kl,sum:=p.sum }) g9 ⟨vk,by show kl≤1000;omega,gH⟩ (bh _) rfl).line (se (hk.ml g9)).2⟩,E.ab [0],I.sub⟩
   refine RN 0 E I λa E=>?_;exact⟨_,⟨by rw[hP,ag (by omega)],(hk.peer (q:={ ar k fr with heard:=k.now,has:=hh }) g9 ⟨vk,ix.2.2⟩ (bh _) rfl).line (se (hk.ml g9)).2⟩,E.ab [0],I⟩
  refine RH 8 E I hH hC λa E=>?_;refine RN 1 E I λa E=>?_;exact⟨_,⟨by rw[hP,ag (by omega)],(hk.peer (q:={ ar k fr with heard:=k.now,has:=hh }) g9 ⟨vk,ix.2.2⟩ (bh _) rfl).line (se (hk.ml g9)).2⟩,E.ab [0],I⟩
 clear E;(try clear I);rintro a w ⟨q,⟨Z5,oS⟩,E,I⟩;refine CL 2 E I (Mo I oS) λa w E I=>?_;refine RT 2 E I ?_;refine⟨rfl,?_⟩;have zo:p.first.toNat=fi:=by omega
 rw[gb,ag ay,jR,zo,← Z5];exact I.sub
end
end
section
section
variable {W w:World}{L:List SP}{c cO cP q:Nat}{an adP:Option Addr}{b:List UInt8}{g:Nat→Int}{p:Pr}{fr:Int}{bad:Bool}
def Jv (q:Nat)(g:Nat→Int)(bad:Bool):SP:=λh=>(dT g∧bad=false)∧aa q 296 (ints .i32 32 g) h
theorem Jv.open (I:U W w (Jv q g bad::L)):(dT g∧bad=false)∧U W w (aa q 296 (ints .i32 32 g)::L):=by
 obtain⟨_,h1,h2⟩:=I.jL (ι:=Unit) (p:=λ_=>dT g∧bad=false) (B:=λ_=>aa q 296 (ints .i32 32 g)) (λh ⟨h1,h2⟩=>⟨(),h1,h2⟩);exact⟨h1,h2⟩
theorem Jv.close (I:U W w (aa q 296 (ints .i32 32 g)::L))(h1:dT g):U W w (Jv q g false::L) :=
 U.shut (M:=[_]) I (λ_ ⟨_,_,_,a,b,x,_⟩=>⟨⟨h1,rfl⟩,a _ _ x⟩)
theorem Z6 {c:Nat}(hc:c<32)(I:U W w (Jv q g bad::L)):Calls prog 351 (List.toArray [pt q,.int .i64 c]) w λe V=>e=.returned (.int .i32 (g c))∧U W V (Jv q g bad::L):=by
 have hj:=Jv.open I;clear I;obtain⟨⟨h1,rfl⟩,I⟩:=hj;refine EN func351 ntmps351 rfl rfl λa E=>?_;refine RN 8 E I λa E=>?_;refine SS E (ae E (I.bz (fX _ hc))) λa E=>?_;refine RT 1 E I ?_;exact⟨rfl,Jv.close I h1⟩
theorem Z7 {c:Nat}{v:Int}(hc:c<32)(hv:du v)(I:U W w (Jv q g bad::L)):Calls prog 352 (List.toArray [pt q,.int .i64 c,.int .i32 v]) w λe V =>
   ∃ (g':Nat→Int) (fz:Bool),e=.returned (.tuple #[])∧((fz=true∧g'=g)∨(fz=false∧bad=false∧g'=ck g c v))∧U W V (Jv q g' fz::L):=by
 have hj:=Jv.open I;clear I;obtain⟨⟨h1,rfl⟩,I⟩:=hj;refine EN func352 ntmps352 rfl rfl λa E=>?_;refine ST 6 E I (λa w E I=>?_) (hlt:=(by rw[di];exact hc));rw[ints_set]at I;refine RT 0 E I ?_;exact⟨ck g c v,false,rfl,.inr ⟨rfl,rfl,rfl⟩,Jv.close I (nW h1 hv)⟩
theorem Z8:yK W 294 ⟨q,0,none⟩ 351 352 (Jv q) where
 oN:=λad w=>by kernel_rfl
 oO:=(by kernel_rfl)
 A9:=λad w=>by kernel_rfl
 wm:=(by kernel_rfl)
 ok:=λw L g bad h=>(Jv.open h).1.1
 get:=λw L g bad c hc h=>Z6 hc h
 set:=λw L g bad c v hc hv h=>Z7 hc hv h
theorem MJ (I:U W w (az W p an cO::L))(a7:dq p)(aE:p.title.size≤1000000000)(hg:dT g)(hb:b.length≤1099511627776)(hp:∀ V,U W V L→aL V adP b.length b) :
   Calls prog 137 #[.agg (bx p an cO).toArray,.agg (ints .i32 32 g).toArray,.int .i64 fr,.slice adP b.length cP] w λe V=>e=.returned (.agg (ints .i32 32 (fa p fr b g)).toArray)∧U W V (az W p an cO::L):=by
 refine EN func137 ntmps137 rfl rfl λa E=>?_;refine BX 1 E I λb4 a w E I=>?_;change U W w (aa b4 45 (bx p an cO)::_) at I;refine BX 0 E I λb5 a w E I=>?_;refine AL 0 E I λb8 a w E I=>?_;change U W w (aa b8 183 (ints .i32 32 (λ_=>0))::_) at I;refine RN 2 E I λa E=>?_;refine SK (bu E rfl (IV E Ty.Sd Ty.t296 (cs:=ints .i32 32 g) rfl) rfl ?_);clear E a;intro a E;refine BX 0 E I λGz a w E I=>?_;refine RN 7 E I λa E=>?_;replace I:=Jv.close (I.jV Gz) hg;refine j1 0 E I (Kz (M:=Z8 (q:=Gz)) (L:=aa b8 183 (ints .i32 32 (λ_=>0))::L) (I.sub (M:=Jv Gz g false::az W p an cO::aa b8 183 (ints .i32 32 (λ_=>0))::L)) a7 aE hb (λV hw=>hp V hw.tail)) λg' fz MH a w E ⟨oR,I⟩=>?_;refine RN 1 E I λa E=>?_;have hj:=Jv.open I;clear I;obtain⟨⟨hg',rfl⟩,I⟩:=hj;obtain⟨_,rfl⟩:=oR rfl;refine SA 4 E I λa w E I=>?_;refine RT 0 E I ?_;exact⟨rfl,I.sub⟩
theorem MK {P:List (List UInt8)}{zs:List ef}(I:U W w (az W p an cO::L))(a7:dq p)(aE:p.title.size≤1000000000)(hg:dT g)(hP:P.length≤65536∧∀ b∈P,b.length≤1099511627776)(hf:-1099511627776≤fr∧fr≤1099511627776)(hz:zs.map (·.2.2)=P)(hp:∀ V,U W V L→iH V adP zs) :
   Calls prog 280 #[.agg (bx p an cO).toArray,.agg (ints .i32 32 g).toArray,.int .i64 fr,.slice adP P.length cP] w λe V=>e=.returned (.agg (ints .i32 32 (foldI p fr g P)).toArray)∧U W V (az W p an cO::L):=by
 have jt:zs.length=P.length:=by rw[← hz,bf]
 have qN:=hP.1;refine EN func280 ntmps280 rfl rfl λa E=>?_;refine BX 1 E I λb4 a w E I=>?_;change U W w (aa b4 45 (bx p an cO)::_) at I;refine BX 0 E I λb5 a w E I=>?_;refine AL 0 E I λb8 a w E I=>?_;change U W w (aa b8 183 (ints .i32 32 (λ_=>0))::_) at I;refine RN 5 E I λa E=>?_;refine aQ (λμ a w=>∃ (i:Nat) (g':Nat→Int),(μ=P.length-i∧i≤P.length∧dT g'∧foldI p fr g P=foldI p (fr+i) g' (P.drop i))∧Fr a 27 [(2,.int .i64 fr),(4,pt b4),(5,pt b5),(8,pt b8),(11,.slice adP P.length cP),(12,.int .i64 P.length),(13,.int .i64 i)]∧U W w (aa b5 183 (ints .i32 32 g')::aa b4 45 (bx p an cO)::aa b8 183 (ints .i32 32 (λ_=>0))::az W p an cO::L)) (P.length) (⟨0,g,⟨by simp,by simp,hg,by simp⟩,E.ab [2,4,5,8,11,12,13],I.sub⟩) ?_;clear E I;rintro μ a w ⟨i,g',⟨rfl,hi,eQ,l7⟩,E,I⟩;refine IF 3 E I (λaj a E=>?_) λaj a E=>?_
 ·
  obtain⟨z,kM⟩:∃ z,zs[i]?=some z:=⟨_,aD (by omega)⟩;have qD:P[i]?=some z.2.2:=by rw[← hz,bm,kM];rfl
  obtain⟨bp,op,rfl,dh⟩:=(hp _ (I.sub (M:=L))).1 (by omega);have p9:=dh i (aM z) (by rw[bm,kM];rfl);have qa:=hP.2 _ (bH qD);have Fb:foldI p fr g P=foldI p (fr+(i+1:Nat)) (fa p (fr+i) z.2.2 g') (P.drop (i+1)):=by
   rw[l7,kA (by omega),foldI];have:P[i]'(by omega)=z.2.2:=by rw[aD (by omega)]at qD;exact nX qD
   rw[this]
   congr 1
   omega
  refine RN 4 E I λa E=>?_;refine SS E (ae E (p9)) λa E=>?_;rw[aM]at E;refine CL 8 E I (MJ (I.pick (az W p an cO)) a7 aE eQ qa (λV hw=>(hp V hw.sub).2 z (bH kM))) λa w E I=>?_;refine SA 0 E I λa w E I=>?_;refine RN 2 E I λa E=>?_;exact⟨P.length-(i+1),by omega,i+1,_,⟨rfl,by omega,L9 a7 eQ,Fb⟩,E.ab [2,4,5,8,11,12,13],I.sub⟩
 refine RN 1 E I λa E=>?_;obtain rfl:i=P.length:=by omega
 rw[List.drop_length,foldI]at l7;refine SA 1 E I λa w E I=>?_;refine RT 0 E I ?_;exact⟨by rw[l7],I.sub⟩
end
end
section
theorem qV (k:IntKind)(m:Nat)(x:Int):List.replicate m (Value.int k x)=ints k m (λ_=>x):=by
 apply ext_getElem (by simp[ints,fn]);intro i h1 h2;simp[ints,fn]
abbrev dr (b:Gs)(adT:Option Addr)(cT:Nat):List Value:=[.int .i64 b.kind,.int .i64 b.order,.slice adT b.table.length cT]
theorem Z9 (l:List UInt8)(k:Nat):bc (l.drop k)=(bc l).drop k:=by rw[bc,bc,map_drop]
section
variable {W w:World}{L:List SP}{n c m cT:Nat}{ad adT:Option Addr}{past:List UInt8}{b:Gs}
theorem zp (I:U W w L):Calls prog 98 #[.agg (dr b adT cT).toArray] w λe V=>∃ r:Bool,e=.returned (.bool r)∧(r=true↔cY b)∧U W V L:=by
 refine EN func98 ntmps98 rfl rfl λa E=>?_;refine BX 1 E I λb1 a w E I=>?_;change U W w (aa b1 186 (dr b adT cT)::_) at I;refine IF 8 E I (λaj a E=>?_) λaj a E=>?_
 ·
  refine BY 5 E I (λbE a E=>?_) λbE a E=>?_
  ·
   refine RT 6 E I ?_;exact⟨_,rfl,(by rw[ct,cY];omega),I.sub⟩
  refine RT 6 E I ?_;exact⟨_,rfl,⟨λh=>(by cases h),λh=>by rw[cY]at h;exfalso;omega⟩,I.sub⟩
 refine IF 3 E I (λao a E=>?_) λao a E=>?_
 ·
  refine BY 5 E I (λbE a E=>?_) λbE a E=>?_
  ·
   refine BY 5 E I (λek a E=>?_) λek a E=>?_
   ·
    refine RT 6 E I ?_;exact⟨_,rfl,(by rw[ct,cY];omega),I.sub⟩
   refine RT 6 E I ?_;exact⟨_,rfl,⟨λh=>(by cases h),λh=>by rw[cY]at h;exfalso;omega⟩,I.sub⟩
  refine RT 11 E I ?_;exact⟨_,rfl,⟨λh=>(by cases h),λh=>by rw[cY]at h;exfalso;omega⟩,I.sub⟩
 refine IF 3 E I (λay a E=>?_) λay a E=>?_
 ·
  refine BY 5 E I (λbE a E=>?_) λbE a E=>?_
  ·
   refine BY 6 E I (λu1 a E=>?_) λu1 a E=>?_
   ·
    refine RT 6 E I ?_;exact⟨_,rfl,(by rw[ct,cY];omega),I.sub⟩
   refine RT 6 E I ?_;exact⟨_,rfl,⟨λh=>(by cases h),λh=>by rw[cY]at h;exfalso;omega⟩,I.sub⟩
  refine RT 12 E I ?_;exact⟨_,rfl,⟨λh=>(by cases h),λh=>by rw[cY]at h;exfalso;omega⟩,I.sub⟩
 refine RT 2 E I ?_;exact⟨_,rfl,⟨λh=>(by cases h),λh=>by rw[cY]at h;exfalso;omega⟩,I.sub⟩
theorem ML (I:U W w L)(hb:cY b)(eO:past.length≤4000)(j6:past.length≤c)(hp:∀ V,U W V L→aL V ad past.length past) :
   Calls prog 324 #[.agg (dr b adT cT).toArray,.slice ad past.length c] w λe V=>e=.returned (.agg (ints .i64 256 (gJ b past)).toArray)∧U W V L:=by
 simp only[cY]at hb;refine EN func324 ntmps324 rfl rfl λa E=>?_;refine BX 1 E I λb2 a w E I=>?_;change U W w (aa b2 186 (dr b adT cT)::_) at I;refine AL 0 E I λb4 a w E I=>?_;rw[qV]at I;refine AL 1 E I λb5 a w E I=>?_;rw[qV]at I;refine BY 6 E I (λbE a E=>?_) λbE a E=>?_
 ·
  refine SA 9 E I λa w E I=>?_;refine RT 0 E I ?_;exact⟨by rw[gJ,ag (by omega)],I.sub⟩
 refine IF 6 E I (λaj a E=>?_) λaj a E=>?_
 ·
  refine SA 2 E I λa w E I=>?_;refine RT 0 E I ?_;exact⟨by rw[gJ,ak (by omega),zc (by omega)],I.sub⟩
 refine RN 1 E I λa E=>?_;have ca:b.kind=2:=by omega
 obtain⟨o,ho⟩:∃ o:Nat,b.order=(o:Int):=⟨b.order.toNat,by omega⟩;rw[dr,ho]at I;have dO:o≤past.length:=by omega
 have lh:gJ b past=g6 o past past.length:=by rw[gJ,ak ca,ho,c3]
 refine RN 6 E I λa E=>?_;rw[show ((past.length:Nat):Int)-(o:Int)=((past.length-o:Nat):Int) from by omega]at E;refine RN 7 E I λa E=>?_;rw[show past.length-(past.length-o)=o from by omega]at E;have ho3:o≤3:=by omega
 refine aQ (λμ a w=>∃ (i:Nat),(μ=past.length-i∧o≤i∧i≤past.length)∧Fr a 52 [(1,.slice ad past.length c),(2,pt b2),(4,pt b4),(5,pt b5),(6,.slice (e6 ad (past.length-o) c 1) o (c-(past.length-o))),(7,.int .i64 i)]∧U W w (aa b5 320 (ints .i64 256 (g6 o past i))::aa b4 320 (ints .i64 256 (λ_=>0))::aa b2 186 [.int .i64 b.kind,.int .i64 o,.slice adT b.table.length cT]::L)) (past.length-o) (⟨o,⟨rfl,bh _,dO⟩,E.ab [1,2,4,5,6,7],by rw[zc (bh _)];exact I.sub⟩) ?_;clear E I;rintro μ a w ⟨i,⟨rfl,GA,hi⟩,E,I⟩;refine IF 6 E I (λao a E=>?_) λao a E=>?_
 ·
  have aF:i<past.length:=by omega
  have nL:=BQ o past i past[i].toNat;have qQ:=lK past[i];refine RN 7 E I λa E=>?_;rw[show ((i:Nat):Int)-(o:Int)=((i-o:Nat):Int) from by omega]at E;refine RN 2 E I λa E=>?_;rw[show i-(i-o)=o from by omega]at E;refine CL 1 E I (LD I ((hp _ I.tail.tail.tail).zd (lo:=i-o) (n:=o) (by omega) j6) (by have:=(hp _ I.tail.tail.tail).zd (lo:=past.length-o) (n:=o) (by omega) j6;exact this)) λa w E I=>?_;refine IF 0 E I (λay a E=>?_) λay a E=>?_
  ·
   obtain⟨bb,oo,rfl,hr⟩:=(hp _ I.tail.tail.tail).get (by omega);refine RN 3 E I λa E=>?_;refine SS E (ae E (hr i _ (dQ aF))) λa E=>?_;refine RN 1 E I λa E=>?_;refine SS E (ae E (I.bz (fX _ qQ))) λa E=>?_;refine ST 2 E I (λa w E I=>?_) (hlt:=(by rw[di];omega));rw[ints_set]at I;refine RN 3 E I λa E=>?_;exact⟨past.length-(i+1),by omega,i+1,⟨rfl,by omega,by omega⟩,E.ab [1,2,4,5,6,7],by
    rw[show g6 o past (i+1)=λj=>if j=past[i].toNat then g6 o past i past[i].toNat+1 else g6 o past i j from by
     rw[g6,ak ⟨GA,by rw[zb,← ay,fO (l:=past.drop (past.length-o)) (by rw[c4];omega)]⟩,bl,aD aF];rfl]
    exact I.sub⟩
  refine RN 3 E I λa E=>?_;exact⟨past.length-(i+1),by omega,i+1,⟨rfl,by omega,by omega⟩,E.ab [1,2,4,5,6,7],by
   rw[show g6 o past (i+1)=g6 o past i from by
    rw[g6,ag (λh=>by
     have h2:=h.2;rw[zb,← fO (l:=past.drop (past.length-o)) (i:=o) (by rw[c4];omega)]at h2;rw[h2]at ay;cases ay)]]
   exact I.sub⟩
 obtain rfl:i=past.length:=by omega
 refine SA 2 E I λa w E I=>?_;refine RT 0 E I ?_;exact⟨by rw[lh],I.sub⟩
theorem MM (I:U W w L)(eO:past.length≤4000)(hp:∀ V,U W V L→aL V ad past.length past) :
   Calls prog 326 #[.slice ad past.length c] w λe V=>e=.returned (.int .u8 ((iv past).toNat:Nat))∧U W V L:=by
 refine EN func326 ntmps326 rfl rfl λa E=>?_;refine IF 7 E I (λaj a E=>?_) λaj a E=>?_
 ·
  refine RT 2 E I ?_;exact⟨by rw[iv,hG (l:=past) (by omega)];rfl,I⟩
 refine RN 1 E I λa E=>?_;obtain⟨bb,oo,rfl,hr⟩:=(hp _ I).get (by omega);refine RN 4 E I λa E=>?_;rw[show ((past.length:Nat):Int)-1=((past.length-1:Nat):Int) from by omega]at E;refine RN 1 E I λa E=>?_;refine SS E (ae E (hr (past.length-1) _ (dQ (by omega)))) λa E=>?_;refine RT 1 E I ?_;refine⟨?_,I⟩;have h0:past≠[]:=λh=>by rw[h]at aj;simp at aj
 rw[iv,getLastD_eq_getLast?,List.getLast?_eq_getElem?,aD (by omega)];rfl
theorem MN (I:U W w L)(hb:cY b)(eO:past.length≤4000)(j6:past.length≤c)(hp:∀ V,U W V L→aL V ad past.length past)(ht:∀ V,U W V L→aL V adT b.table.length b.table) :
   Calls prog 325 #[.agg (dr b adT cT).toArray,.slice ad past.length c] w λe V=>e=.returned (.int .u8 ((nv b past).toNat:Nat))∧U W V L:=by
 have lF:=hb;simp only[cY]at lF;refine EN func325 ntmps325 rfl rfl λa E=>?_;refine BX 1 E I λb2 a w E I=>?_;change U W w (aa b2 186 (dr b adT cT)::_) at I;refine IF 6 E I (λaj a E=>?_) λaj a E=>?_
 ·
  refine bW 1 [5,6,7] [0,2,3,4,3001,1005,1006,1007,8,1009,10] E I λa w E I hH hC=>?_;obtain⟨aaa,aab,rfl,uS⟩:=(ht _ I.tail).get (by omega);have GC:past.length%b.table.length<b.table.length:=Nat.mod_lt _ (by omega);refine RH 8 E I hH hC λa E=>?_;rw[ot]at E;refine RH 1 E I hH hC λa E=>?_;refine SS E (ae E (uS (past.length%b.table.length) _ (ll GC))) λa E=>?_;refine RH 1 E I hH hC λa E=>?_;refine RT 0 E I ?_;exact⟨by rw[nv,ak (by omega)],I.sub⟩
 refine CL 3 E I (ML I hb eO j6 (λV hw=>hp V hw.tail)) λa w E I=>?_;refine AL 0 E I λb5 a w E I=>?_;rw[qV]at I;refine SA 0 E I λa w E I=>?_;refine CL 2 E I (MM I eO (λV hw=>hp V hw.tail.tail)) λa w E I=>?_;refine RN 5 E I λa E=>?_;have GD:=lK (iv past);refine aQ (λμ a w=>∃ (i:Nat),(μ=256-i∧i≤256)∧Fr a 41 [(2,pt b2),(5,pt b5),(6,.int .u8 (mj (gJ b past) (iv past).toNat i:Nat)),(27,.agg (ints .i64 256 (gJ b past)).toArray),(28,.int .i64 i)]∧U W w (aa b5 320 (ints .i64 256 (gJ b past))::aa b2 186 (dr b adT cT)::L)) (256) (⟨0,⟨rfl,by omega⟩,E.ab [2,5,6,27,28],I.sub⟩) ?_;clear E I;rintro μ a w ⟨i,⟨rfl,hi⟩,E,I⟩;refine IF 3 E I (λao a E=>?_) λao a E=>?_
 ·
  have oC:=F2 (w:=gJ b past) GD (i:=i) hi;have B8:i<256:=by omega
  refine RN 3 E I λa E=>?_;refine SS E (sP E underlying320 underlying3 rfl Ty.t3 (by omega) (fX _ B8)) λa E=>?_;refine RN 6 E I λa E=>?_;refine SS E (ae E (I.bz (fX _ oC))) λa E=>?_;refine IF 1 E I (λay a E=>?_) λay a E=>?_
  ·
   refine SX 1 E I (by rw[wrap_u8];omega) λa E=>?_;refine RN 3 E I λa E=>?_;exact⟨256-(i+1),by omega,i+1,⟨rfl,by omega⟩,by rw[show mj (gJ b past) (iv past).toNat (i+1)=i from by rw[mj,ak (by omega)]];exact E.ab [2,5,6,27,28],I.sub⟩
  refine RN 2 E I λa E=>?_;exact⟨256-(i+1),by omega,i+1,⟨rfl,by omega⟩,by rw[show mj (gJ b past) (iv past).toNat (i+1)=mj (gJ b past) (iv past).toNat i from by rw[mj,ag (by omega)]];exact E.ab [2,5,6,27,28],I.sub⟩
 obtain rfl:i=256:=by omega
 have oC:=F2 (w:=gJ b past) GD (i:=256) (by omega);refine RT 3 E I ?_;exact⟨by rw[nv,ag (by omega),UInt8.toNat_ofNat',kX (by omega)],I.sub⟩
theorem aac (I:U W w L)(eO:past.length≤4000)(hp:∀ V,U W V L→aL V ad past.length past) :
   Calls prog 329 #[.slice ad past.length c] w λe V=>∃ au c',e=.returned (.slice au past.length c')∧U W V (Sl 5 1 au past.length c' (bc past)::L):=by
 obtain⟨h1,h2,h3⟩:=hp _ I;cases pM:ad with
 | none =>
  have h0:=h2 pM;rw[hG (l:=past) h0];refine EN func329 ntmps329 rfl rfl λa E=>?_;refine RN 6 E I λa E=>?_;replace E:=E.eG 4;refine RT 3 E I ?_;exact⟨_,_,rfl,I.bR _ _ _⟩
 | some a =>
  rw[← pM];refine EN func329 ntmps329 rfl rfl λa E=>?_;refine RN 6 E I λa E=>?_;rw[show ad.isNone=false from by rw[pM];rfl]at E;replace E:=E.aK 4;refine RN 2 E I λa E=>?_;refine ux E rfl I underlying22 Ty.t5 rfl λb5 a w E I ho=>?_;clear ho;replace I:U W w (Sl 5 1 (some ⟨b5,0,none⟩) 0 0 []::L):=I.tail.bR _ _ _;refine RN 1 E I λa E=>?_;refine g3 E rfl I underlying22 Ty.t5 rfl rfl (by decide) (λh0=>(hp _ I.tail).get h0) (by rw[dt];omega) (eF _) (by omega) λsX rD a w E I=>?_;rw[nil_append,ep]at I;rw[ep]at E;refine RT 1 E I ?_;exact⟨_,_,rfl,I⟩
theorem aad {to:Int}(I:U W w L)(hb:cY b)(eO:past.length≤1001)(j6:past.length≤c)(hn:m≤1000)(hp:∀ V,U W V L→aL V ad past.length past)(ht:∀ V,U W V L→aL V adT b.table.length b.table) :
   Calls prog 311 #[.agg (dr b adT cT).toArray,.slice ad past.length c,.int .i64 m] w λe V=>∃ au c',e=.returned (.slice au m c')∧U W V (Sl 5 1 au m c' (bc (kh b past m))::L):=by
 refine EN func311 ntmps311 rfl rfl λa E=>?_;refine BX 1 E I λb3 a w E I=>?_;change U W w (aa b3 186 (dr b adT cT)::_) at I;refine aW 4 E I (zp I) λr a w E ⟨hr,I⟩=>?_;rw[hr.2 hb]at E;refine RN 1 E I λa E=>?_;replace E:=E.aK 10;refine aX 3 E I (aac I (by omega) (λV hw=>hp V hw.tail)) λlM dD a w E I=>?_;refine RN 6 E I λa E=>?_;rw[show min (max (m:Int) 0) 1000=(m:Int) from by omega]at E;refine RN 1 E I λa E=>?_;refine aQ (λμ a w=>∃ (i:Nat) (ad2:Option Addr) (c2:Nat),(μ=m-i∧i≤m)∧Fr a 29 [(1,.slice ad past.length c),(3,pt b3),(7,.slice ad2 (ey b past i).length c2),(15,.int .i64 m),(16,.int .i64 i)]∧U W w (Sl 5 1 ad2 (ey b past i).length c2 (bc (ey b past i))::aa b3 186 (dr b adT cT)::L)) (m) (⟨0,lM,dD,⟨rfl,by omega⟩,E.ab [1,3,7,15,16],I⟩) ?_;clear E I;rintro μ a w ⟨i,ad2,c2,⟨rfl,hi⟩,E,I⟩;refine IF 3 E I (λao a E=>?_) λao a E=>?_
 ·
  have cm:=iw b past i;have GF:=(I.sl ad2).2;refine CL 4 E I (MN I hb (by omega) GF (λV hw=>hw.cr ad2 (ey b past i) rfl rfl) (λV hw=>ht V hw.tail.tail)) λa w E I=>?_;refine RN 0 E I λa E=>?_;refine cn E rfl I underlying22 Ty.t5 rfl rfl rfl rfl (by decide) (by decide) λuW a w E I ho=>?_;clear ho;refine RN 0 E I λa E=>?_;refine cK E rfl I underlying22 Ty.t5 rfl rfl I.ai rfl (eF [nv b (ey b past i)]) (by decide) (by decide) (by omega) λgz gA a w E I=>?_;rw[show bc (ey b past i)++_=bc (ey b past (i+1)) from (fR _ [_]).symm,show (ey b past i).length+1=(ey b past (i+1)).length from by rw[iw,iw];omega]at I;rw[show (ey b past i).length+1=(ey b past (i+1)).length from by rw[iw,iw];omega]at E;refine RN 3 E I λa E=>?_;exact⟨m-(i+1),by omega,i+1,gz,gA,⟨rfl,by omega⟩,E.ab [1,3,7,15,16],I.sub⟩
 obtain rfl:i=m:=by omega
 have cm:=iw b past i;refine RT 6 E I ?_;have h1:=I.Dw ad2 past.length (ey b past i).length (by omega) (bh _);rw[show (ey b past i).length-past.length=i from by omega,fD,fD,← Z9,fO (by rw[dt,c4];omega),show List.drop past.length (ey b past i)=kh b past i from rfl]at h1;refine⟨_,_,by rw[show (ey b past i).length-past.length=i from by omega],h1.sub⟩
end
end
end Go.Proofs.YteoldcfapaiobaaGreat
