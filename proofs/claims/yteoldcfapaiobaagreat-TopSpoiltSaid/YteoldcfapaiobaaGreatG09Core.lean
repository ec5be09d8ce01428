/- What a player knows, in memory: core.May, New, Conf, Queue, Head, Closed, Press, note, hold, Mark, Marks, Events. -/
import Derived.Test.YteoldcfapaiobaaGreatG08Pkt4
import Derived.Test.YteoldcfapaiobaaGreatG05Vm
import Derived.Test.YteoldcfapaiobaaGreatG06Ref
import Derived.ChangeSame
import Derived.Test.YteoldcfapaiobaaGreatG01Row
namespace Go.Proofs.YteoldcfapaiobaaGreat
open Tryz
open List (length_range take_succ_cons nil_append ext_getElem set_set map_drop range_succ getElem?_set_ne getElem?_set_self replicate_succ' getLastD_eq_getLast?)
open Go.RowKit
set_option linter.unusedVariables false
set_option linter.unusedSimpArgs false
set_option maxRecDepth 10000
set_option synthInstance.maxSize 4000
set_option synthInstance.maxHeartbeats 400000
section
abbrev iS (p:Pe):List Value:=[.int .i64 p.has,.int .i64 p.heard,.int .i64 p.frame,.int .u32 p.sum,.bool p.apart]
theorem jX (p:Pe):(iS p).length=5:=rfl
theorem ZN (p:Pe):∀ v∈iS p,v.oneCell'=true:=by
 intro v hv;simp[iS]at hv;rcases hv with rfl | rfl | rfl | rfl | rfl <;> rfl
def c4 (l:List Nat):List Value:=l.map λs:Nat=>Value.int .u32 (s:Int)
structure qg where
 cb:Nat
 qb:Nat
 aB:List Nat
 bp:Nat
 op:Nat
structure o9 where
 cP:Nat
 cj:Option Addr
 cM:Nat
 adE:Option Addr
 cE:Nat
abbrev iG (k:Ks)(B:qg)(A:o9):List Value:=[.int .i64 k.n,.int .i64 k.me,.int .i64 k.id,.int .i64 k.aL,.int .i64 k.bq,.int .i64 k.bf,.int .i64 k.order,.int .i64 k.cv,.int .i64 k.workers,.int .i64 k.room,
 pt B.qb,.slice (some ⟨B.bp,B.op,none⟩) k.ps.length A.cP,.slice A.cj k.mr.length A.cM,.slice A.adE k.ev.length A.cE,.int .i64 k.now,.bool k.cl]
def az (B:qg)(k:Ks):SP:=λh=>∃ A:o9,cm [aa B.cb 257 (iG k B A),Sl 259 5 (some ⟨B.bp,B.op,none⟩) k.ps.length A.cP (rows iS k.ps),Sl 100 1 A.cj k.mr.length A.cM (c4 k.mr),Sl 135 1 A.adE k.ev.length A.cE (k.ev.map cB),Qu B.qb B.aB k.ls] h
section
variable {W w:World}{L L' R:List SP}{n c cb qb i:Nat}{ad:Option Addr}{aB:List Nat}{k:Ks}{A:o9}{B:qg}{cf:Cf}{e:ko}
theorem az.open (I:U W w (az B k::L)):∃ A:o9,U W w (aa B.cb 257 (iG k B A)::Sl 259 5 (some ⟨B.bp,B.op,none⟩) k.ps.length A.cP (rows iS k.ps)::Sl 100 1 A.cj k.mr.length A.cM (c4 k.mr)::Sl 135 1 A.adE k.ev.length A.cE (k.ev.map cB)::Qu B.qb B.aB k.ls::L):=by
 obtain⟨A,_,I⟩:=I.jM (ι:=o9) (p:=λ_=>True) (B:=λA h=>cm [aa B.cb 257 (iG k B A),Sl 259 5 (some ⟨B.bp,B.op,none⟩) k.ps.length A.cP (rows iS k.ps),Sl 100 1 A.cj k.mr.length A.cM (c4 k.mr),Sl 135 1 A.adE k.ev.length A.cE (k.ev.map cB),Qu B.qb B.aB k.ls] h) λ_ ⟨A,h⟩=>⟨A,trivial,h⟩;exact⟨A,I.open (M:=[_,_,_,_,_]) λ_ h=>h⟩
theorem az.close (I:U W w (aa B.cb 257 (iG k B A)::Sl 259 5 (some ⟨B.bp,B.op,none⟩) k.ps.length A.cP (rows iS k.ps)::Sl 100 1 A.cj k.mr.length A.cM (c4 k.mr)::Sl 135 1 A.adE k.ev.length A.cE (k.ev.map cB)::Qu B.qb B.aB k.ls::L)):U W w (az B k::L) :=
 U.shut (M:=[_,_,_,_,_]) I λ_ h=>⟨A,h⟩
theorem az.mk' (I:U W w L)(A:o9)[kk:fI L (aa B.cb 257 (iG k B A)::Sl 259 5 (some ⟨B.bp,B.op,none⟩) k.ps.length A.cP (rows iS k.ps)::Sl 100 1 A.cj k.mr.length A.cM (c4 k.mr)::Sl 135 1 A.adE k.ev.length A.cE (k.ev.map cB)::Qu B.qb B.aB k.ls::L') R]:U W w (az B k::L'):=az.close (A:=A) I.sub
theorem az.fold (I:U W w L)(B:qg)(k:Ks)(A:o9)[kk:fI L [aa B.cb 257 (iG k B A),Sl 259 5 (some ⟨B.bp,B.op,none⟩) k.ps.length A.cP (rows iS k.ps),Sl 100 1 A.cj k.mr.length A.cM (c4 k.mr),Sl 135 1 A.adE k.ev.length A.cE (k.ev.map cB),Qu B.qb B.aB k.ls] R]:U W w (az B k::R):=az.close (A:=A) (I.perm kk.perm)
theorem pa {x lo hi:Int}(I:U W w L):Calls prog 167 #[.int .i64 x,.int .i64 lo,.int .i64 hi] w λe w'=>∃ r:Bool,e=.returned (.bool r)∧(r=true↔fB x lo hi)∧U W w' L:=by
 refine EN func167 ntmps167 rfl rfl λa E=>?_;refine BY 7 E I (λbX a E=>?_) λbX a E=>?_
 ·
  refine RT 5 E I ?_;exact⟨_,rfl,⟨λh=>⟨bX,qE h⟩,λh=>dk h.2⟩,I⟩
 refine RT 5 E I ?_;exact⟨_,rfl,⟨λh=>(by cases h),λh=>by have:=h.1;omega⟩,I⟩
theorem Mg (I:U W w L):Calls prog 130 #[.agg (bV cf).toArray] w λe w'=>∃ r:Bool,e=.returned (.bool r)∧(r=true↔eV cf)∧U W w' L:=by
 refine EN func130 ntmps130 rfl rfl λa E=>?_;refine BX 1 E I λb1 a w E I=>?_;change U W w (aa b1 28 (bV cf)::_) at I;refine RN 1 E I λa E=>?_;refine cc (M:=λa w=>∃ z:Bool,(z=true↔(fB cf.n 2 8∧fB cf.me 0 (cf.n-1)∧fB cf.id 0 1099511627776))∧Fr a 73 [(1,pt b1),(3,.bool z)]∧U W w (aa b1 28 (bV cf)::L)) ?_ ?_
 ·
  refine bh 2 E I (pa I) λr1 a w E ⟨ff,I⟩=>?_;refine BY 1 E I (λbX a E=>?_) λbX a E=>?_
  ·
   refine RN 4 E I λa E=>?_;refine SK (bw E (cw E rfl (s:=8)) (Ad E) rfl ?_);clear E a;intro a E;have nC:IntKind.i64.wrap (cf.n-1)=cf.n-1:=fR (by have:=(ff.1 bX).1;omega) (by have:=(ff.1 bX).2;omega);rw[nC]at E;refine bh 0 E I (pa I) λr2 a w E ⟨e4,I⟩=>?_;refine BY 2 E I (λla a E=>?_) λla a E=>?_
   ·
    refine BY 5 E I (λu0 a E=>?_) λu0 a E=>?_
    ·
     refine RN 5 E I λa E=>?_;exact⟨_,⟨λh=>⟨ff.1 bX,e4.1 la,u0,qE h⟩,λh=>dk h.2.2.2⟩,E.ab [1,3],I⟩
    refine RN 5 E I λa E=>?_;exact⟨_,⟨λh=>(by cases h),λh=>by have:=h.2.2.1;omega⟩,E.ab [1,3],I⟩
   refine RN 10 E I λa E=>?_;exact⟨_,⟨λh=>(by cases h),λh=>by have:=e4.2 h.2.1;rw[la]at this;cases this⟩,E.ab [1,3],I⟩
  refine RN 18 E I λa E=>?_;exact⟨_,⟨λh=>(by cases h),λh=>by have:=ff.2 h.1;rw[bX]at this;cases this⟩,E.ab [1,3],I⟩
 clear E;(try clear I);rintro a w ⟨z1,cV,E,I⟩;refine cc (M:=λa w=>∃ z:Bool,(z=true↔(fB cf.aL 0 8∧fB cf.bq 1 16∧fB cf.bf 1 3∧fB cf.order 0 3))∧Fr a 73 [(1,pt b1),(3,.bool z1),(4,.bool z)]∧U W w (aa b1 28 (bV cf)::L)) ?_ ?_
 ·
  refine bh 2 E I (pa I) λr1 a w E ⟨ff,I⟩=>?_;refine BY 1 E I (λbX a E=>?_) λbX a E=>?_
  ·
   refine bh 2 E I (pa I) λr2 a w E ⟨e4,I⟩=>?_;refine BY 2 E I (λfh a E=>?_) λfh a E=>?_
   ·
    refine bh 2 E I (pa I) λr3 a w E ⟨kh,I⟩=>?_;refine BY 2 E I (λnB a E=>?_) λnB a E=>?_
    ·
     refine bh 2 E I (pa I) λXQ a w E ⟨qX,I⟩=>?_;refine RN 2 E I λa E=>?_;exact⟨_,⟨λh=>⟨ff.1 bX,e4.1 fh,kh.1 nB,qX.1 h⟩,λh=>qX.2 h.2.2.2⟩,E.ab [1,3,4],I⟩
    refine RN 5 E I λa E=>?_;exact⟨_,⟨λh=>(by cases h),λh=>by have:=kh.2 h.2.2.1;rw[nB]at this;cases this⟩,E.ab [1,3,4],I⟩
   refine RN 10 E I λa E=>?_;exact⟨_,⟨λh=>(by cases h),λh=>by have:=e4.2 h.2.1;rw[fh]at this;cases this⟩,E.ab [1,3,4],I⟩
  refine RN 15 E I λa E=>?_;exact⟨_,⟨λh=>(by cases h),λh=>by have:=ff.2 h.1;rw[bX]at this;cases this⟩,E.ab [1,3,4],I⟩
 clear E;(try clear I);rintro a w ⟨z2,eS,E,I⟩;refine BY 3 E I (λnr a E=>?_) λnr a E=>?_
 ·
  refine BY 3 E I (λdE a E=>?_) λdE a E=>?_
  ·
   refine BY 4 E I (λfh a E=>?_) λfh a E=>?_
   ·
    have F5:cf.order=0∨cf.bf=2:=.inl fh;refine bh 8 E I (pa I) λr1 a w E ⟨ff,I⟩=>?_;refine BY 2 E I (λqc a E=>?_) λqc a E=>?_
    ·
     refine bh 2 E I (pa I) λr2 a w E ⟨e4,I⟩=>?_;refine BY 2 E I (λvi a E=>?_) λvi a E=>?_
     ·
      refine bh 2 E I (pa I) λr3 a w E ⟨kh,I⟩=>?_;refine RT 2 E I ?_;exact⟨_,rfl,⟨λh=>⟨cV.1 nr,eS.1 dE,F5,ff.1 qc,e4.1 vi,kh.1 h⟩,λh=>kh.2 h.2.2.2.2.2⟩,I.sub⟩
     refine RT 5 E I ?_;exact⟨_,rfl,⟨λh=>(by cases h),λh=>by have:=e4.2 h.2.2.2.2.1;rw[vi]at this;cases this⟩,I.sub⟩
    refine RT 10 E I ?_;exact⟨_,rfl,⟨λh=>(by cases h),λh=>by have:=ff.2 h.2.2.2.1;rw[qc]at this;cases this⟩,I.sub⟩
   refine BY 6 E I (λk9 a E=>?_) λk9 a E=>?_
   ·
    have F5:cf.order=0∨cf.bf=2:=.inr k9;refine bh 2 E I (pa I) λr1 a w E ⟨ff,I⟩=>?_;refine BY 2 E I (λqc a E=>?_) λqc a E=>?_
    ·
     refine bh 2 E I (pa I) λr2 a w E ⟨e4,I⟩=>?_;refine BY 2 E I (λvi a E=>?_) λvi a E=>?_
     ·
      refine bh 2 E I (pa I) λr3 a w E ⟨kh,I⟩=>?_;refine RT 2 E I ?_;exact⟨_,rfl,⟨λh=>⟨cV.1 nr,eS.1 dE,F5,ff.1 qc,e4.1 vi,kh.1 h⟩,λh=>kh.2 h.2.2.2.2.2⟩,I.sub⟩
     refine RT 5 E I ?_;exact⟨_,rfl,⟨λh=>(by cases h),λh=>by have:=e4.2 h.2.2.2.2.1;rw[vi]at this;cases this⟩,I.sub⟩
    refine RT 10 E I ?_;exact⟨_,rfl,⟨λh=>(by cases h),λh=>by have:=ff.2 h.2.2.2.1;rw[qc]at this;cases this⟩,I.sub⟩
   refine RT 15 E I ?_;exact⟨_,rfl,⟨λh=>(by cases h),λh=>by have:=h.2.2.1;omega⟩,I.sub⟩
  refine RT 25 E I ?_;exact⟨_,rfl,⟨λh=>(by cases h),λh=>by have:=eS.2 h.2.1;rw[dE]at this;cases this⟩,I.sub⟩
 refine RT 28 E I ?_;exact⟨_,rfl,⟨λh=>(by cases h),λh=>by have:=cV.2 h.1;rw[nr]at this;cases this⟩,I.sub⟩
theorem ZO (I:U W w L)(h:¬ eV cf):Calls prog 96 #[.agg (bV cf).toArray] w λe w'=>e=.returned (.tuple #[.pointer none,.int .i64 1])∧U W w' L:=by
 refine EN func96 ntmps96 rfl rfl λa E=>?_;refine BX 1 E I λb1 a w E I=>?_;change U W w (aa b1 28 (bV cf)::_) at I;refine bh 5 E I (Mg I) λr a w E ⟨hr,I⟩=>?_;rw[show r=false from by cases hh:r with | false=>rfl | true=>exact absurd (hr.1 hh) h]at E;refine RN 1 E I λa E=>?_;replace E:=E.ed 7;refine RT 4 E I ?_;exact⟨rfl,I.sub⟩
theorem Mh {n me aL bq:Nat}{id bf order cv workers room:Int}(I:U W w L)(h:eV ⟨n,me,id,aL,bq,bf,order,cv,workers,room⟩) :
   Calls prog 96 #[.agg (bV ⟨n,me,id,aL,bq,bf,order,cv,workers,room⟩).toArray] w λe w'=>∃ B,e=.returned (.tuple #[pt B.cb,.int .i64 0])∧U W w' (az B (fl ⟨n,me,id,aL,bq,bf,order,cv,workers,room⟩)::L):=by
 have hh:=h;obtain⟨⟨h1,h2,h3⟩,⟨h4,h5,h6,h7⟩,h8,h9,fg,lP⟩:=hh;simp only[fB] at *;refine EN func96 ntmps96 rfl rfl λa E=>?_;refine BX 1 E I λb1 a w E I=>?_;change U W w (aa b1 28 (bV ⟨n,me,id,aL,bq,bf,order,cv,workers,room⟩)::_) at I;refine bh 5 E I (Mg I) λr a w E ⟨hr,I⟩=>?_;rw[hr.2 h]at E;refine RN 1 E I λa E=>?_;replace E:=E.aP 7;refine RN 1 E I λa E=>?_;refine cc (M:=λa w=>∃ cb qb aB,Fr a 34 [(1,pt b1),(4,pt cb)]∧U W w (aa cb 257 [.int .i64 n,.int .i64 me,.int .i64 id,.int .i64 aL,.int .i64 bq,.int .i64 bf,.int .i64 order,.int .i64 cv,.int .i64 workers,.int .i64 room,pt qb,.slice none 0 0,.slice none 0 0,.slice none 0 0,.int .i64 0,.bool false]::Qu qb aB (List.replicate n (List.replicate aL 0))::aa b1 28 (bV ⟨n,me,id,aL,bq,bf,order,cv,workers,room⟩)::L)) ?_ ?_
 ·
  refine aV 0 (λw0 w'=>Rd w' b1 0 (bV ⟨n,me,id,aL,bq,bf,order,cv,workers,room⟩)) [2,4,5] [1,3,3000,3002,1004,1005,6,1007,8] E I λa w E I hH=>?_;have hC:=hH.at w I.ai;refine RH 2 E I hH hC λa E=>?_;refine QH E (λw hc=>bT E underlying28 rfl Ty.t28 (hc)) hC λa E=>?_;simp only[bV]at E;refine RH 0 E I hH hC λa E=>?_;refine QH E (λw hc=>ae E (hc 0 _ rfl)) hC λa E=>?_;refine RH 0 E I hH hC λa E=>?_;refine SS E (ae E (hC 3 _ rfl)) λa E=>?_;refine RH 0 E I hH hC λa E=>?_;refine aZ 0 E I (Zy (n:=n) (d:=aL) I (by omega) (by omega)) λqb aB a w E I=>?_;replace hC:=hH.at w I.ai;refine RH 1 E I hH hC λa E=>?_;refine xW E rfl I rfl λVM a w E I ho=>?_;clear ho;refine RN 1 E I λa E=>?_;exact⟨_,qb,aB,E.ab [1,4],I⟩
 clear E;(try clear I);rintro a w ⟨cb,qb,aB,E,I⟩;refine RN 5 E I λa E=>?_;replace I:=I.bM 259 5 none;refine aN (λμ a w=>∃ (i:Nat) (ad:Option Addr) (c:Nat),(μ=n-i∧i≤n)∧Fr a 34 [(1,pt b1),(4,pt cb),(17,.int .i64 n),(18,.int .i64 i)]∧U W w (aa cb 257 [.int .i64 n,.int .i64 me,.int .i64 id,.int .i64 aL,.int .i64 bq,.int .i64 bf,.int .i64 order,.int .i64 cv,.int .i64 workers,.int .i64 room,pt qb,.slice ad i c,.slice none 0 0,.slice none 0 0,.int .i64 0,.bool false]::Sl 259 5 ad i c (rows iS (List.replicate i (fC aL)))::Qu qb aB (List.replicate n (List.replicate aL 0))::aa b1 28 (bV ⟨n,me,id,aL,bq,bf,order,cv,workers,room⟩)::L)) (n) (⟨0,none,0,⟨rfl,by omega⟩,E.ab [1,4,17,18],(I.perm (cZ _ _ _):U W w (aa cb 257 _::Sl 259 5 none 0 0 []::_))⟩) ?_;clear E I;rintro μ a w ⟨i,ad,c,⟨rfl,hi⟩,E,I⟩;refine IF 3 E I (λao a E=>?_) λao a E=>?_
 ·
  refine bR 1 [6,7,8] [0,1,2,3,5,3004,1006,1007,1008,1009,10,11,1012] E I λa w E I hH hC=>?_;refine RH 8 E I hH hC λa E=>?_;refine cp E rfl I underlying255 Ty.t259 rfl rfl rfl rfl (by decide) (by decide) λJh a w E I ho=>?_;replace hC:=hC.trans ho;clear ho;refine RH 0 E I hH hC λa E=>?_;refine cQ E rfl I underlying255 Ty.t259 rfl rfl I.ai rfl (ZN (fC aL)) (by decide) (by decide) (by omega) λMi Mj a w E I=>?_;rw[show rows iS (List.replicate i (fC aL))++_=rows iS (List.replicate (i+1) (fC aL)) from by rw[replicate_succ',kG];rfl]at I;refine ST 2 E I (λa w E I=>?_);refine RN 2 E I λa E=>?_;exact⟨n-(i+1),by omega,i+1,Mi,Mj,⟨rfl,by omega⟩,E.ab [1,4,17,18],I.sub⟩
 obtain rfl:i=n:=by omega
 replace I:=I.bM 100 1 none;replace I:=I.bM 135 1 none;refine RT 4 E I ?_;obtain⟨bp,op,rfl,_⟩:=(I.pick (Sl 259 5 ad i c (rows iS (List.replicate i (fC aL))))).bU ad (by omega);refine⟨⟨cb,qb,aB,bp,op⟩,rfl,?_⟩;refine az.close (A:=⟨c,none,0,none,0⟩) ?_;have hl:(fl ⟨i,me,id,aL,bq,bf,order,cv,workers,room⟩).ps.length=i:=by simp[fl]
 rw[iG,hl];exact I.sub (M:=aa cb 257 [.int .i64 i,.int .i64 me,.int .i64 id,.int .i64 aL,.int .i64 bq,.int .i64 bf,.int .i64 order,.int .i64 cv,.int .i64 workers,.int .i64 room,pt qb,.slice (some ⟨bp,op,none⟩) i c,.slice none 0 0,.slice none 0 0,.int .i64 0,.bool false]::Sl 259 5 (some ⟨bp,op,none⟩) i c (rows iS (List.replicate i (fC aL)))::Sl 100 1 none 0 0 []::Sl 135 1 none 0 0 []::Qu qb aB (List.replicate i (List.replicate aL 0))::L)
theorem Mk (I:U W w (az B k::L)):Calls prog 292 #[pt B.cb] w λe w'=>e=.returned (.agg (bV (fk k)).toArray)∧U W w' (az B k::L):=by
 obtain⟨A,I⟩:=az.open I;refine EN func292 ntmps292 rfl rfl λa E=>?_;refine AL 1 E I λb2 a w E I=>?_;refine RN 4 E I λa E=>?_;replace E:=E.aP 4;refine SA 6 E I λa w E I=>?_;refine RT 0 E I ?_;exact⟨rfl,az.close I.tail⟩
theorem pc (I:U W w (az B k::L)):Calls prog 134 #[pt B.cb] w λe w'=>e=.returned (pt B.qb)∧U W w' (az B k::L):=by
 obtain⟨A,I⟩:=az.open I;refine EN func134 ntmps134 rfl rfl λa E=>?_;refine RN 6 E I λa E=>?_;replace E:=E.aP 4;refine RT 7 E I ?_;exact⟨rfl,az.close I⟩
theorem az.F6 (I:U W w (az B k::L)):∃ D:SP,U W w (Qu B.qb B.aB k.ls::D::L)∧∀ (w':World) (L':List SP) (kV:List (List UInt8)),U W w' (Qu B.qb B.aB kV::D::L')→U W w' (az B { k with ls:=kV }::L'):=by
 obtain⟨A,I⟩:=az.open I;refine⟨λh=>cm [aa B.cb 257 (iG k B A),Sl 259 5 (some ⟨B.bp,B.op,none⟩) k.ps.length A.cP (rows iS k.ps),Sl 100 1 A.cj k.mr.length A.cM (c4 k.mr),Sl 135 1 A.adE k.ev.length A.cE (k.ev.map cB)] h,?_,λw' L' kV I=>?_⟩
 ·refine U.perm (L:=(λh=>cm [aa B.cb 257 (iG k B A),Sl 259 5 (some ⟨B.bp,B.op,none⟩) k.ps.length A.cP (rows iS k.ps),Sl 100 1 A.cj k.mr.length A.cM (c4 k.mr),Sl 135 1 A.adE k.ev.length A.cE (k.ev.map cB)] h)::Qu B.qb B.aB k.ls::L) ?_ (cZ _ _ _);exact U.shut (M:=[_,_,_,_]) I λ_ h=>h
 ·have h1:=(I.perm (cZ _ _ _)).open (M:=[_,_,_,_]) λ_ h=>h;exact az.close (k:={ k with ls:=kV }) (A:=A) h1
theorem az.qu (I:U W w (az B k::L)):∃ D:SP,U W w (Qu B.qb B.aB k.ls::D::L)∧∀ (w':World) (L':List SP),U W w' (Qu B.qb B.aB k.ls::D::L')→U W w' (az B k::L'):=by
 obtain⟨D,h1,h2⟩:=az.F6 I;exact⟨D,h1,λw' L' h=>h2 w' L' k.ls h⟩
theorem tN (I:U W w (az B k::L))(hk:WC k):Calls prog 275 #[pt B.cb] w λe w'=>e=.returned (.int .i64 (aG k))∧U W w' (az B k::L):=by
 have eE:k.me<k.ls.length:=by rw[hk.ls];exact hk.me
 refine EN func275 ntmps275 rfl rfl λa E=>?_;refine CL 4 E I (pc I) λa w E I=>?_;refine CL 1 E I (Mk I) λa w E I=>?_;refine RN 0 E I λa E=>?_;refine SS E (Ja E underlying28 rfl underlying3 rfl rfl) λa E=>?_;obtain⟨D,I,hD⟩:=az.qu I;refine CL 0 E I (tL I eE) λa w E I=>?_;refine CL 0 E I (y8 I eE) λa w E I=>?_;refine RT 1 E I ?_;exact⟨rfl,hD _ _ I⟩
theorem zb (I:U W w (az B k::L)):Calls prog 179 #[pt B.cb] w λe w'=>e=.returned (.bool k.cl)∧U W w' (az B k::L):=by
 obtain⟨A,I⟩:=az.open I;refine EN func179 ntmps179 rfl rfl λa E=>?_;refine RN 6 E I λa E=>?_;replace E:=E.aP 5;refine RT 6 E I ?_;exact⟨rfl,az.close I⟩
theorem Mm (I:U W w (az B k::L)):Calls prog 133 #[pt B.cb] w λe w'=>e=.returned (.int .i64 k.mr.length)∧U W w' (az B k::L):=by
 obtain⟨A,I⟩:=az.open I;refine EN func133 ntmps133 rfl rfl λa E=>?_;refine RN 6 E I λa E=>?_;replace E:=E.aP 4;refine RT 8 E I ?_;exact⟨rfl,az.close I⟩
theorem F7 (I:U W w (az B k::L))(he:tM e)(hl:k.ev.length≤100):Calls prog 204 #[pt B.cb,.agg (bW e).toArray] w λr w'=>r=.returned (.tuple #[])∧U W w' (az B { k with ev:=k.ev++[e] }::L):=by
 obtain⟨A,I⟩:=az.open I;refine EN func204 ntmps204 rfl rfl λa E=>?_;refine BX 1 E I λb3 a w E I=>?_;change U W w (aa b3 102 (bW e)::_) at I;refine CL 2 E I (ZI I he) λa w E I=>?_;refine AL 3 E I λb4 a w E I=>?_;refine SA 0 E I λa w E I=>?_;refine RN 3 E I λa E=>?_;replace E:=E.ed 11;refine bR 1 [5,6] [0,1,2,3,3004,1005,1006,1007,8,9,1010] E I λa w E I hH hC=>?_;refine RH 6 E I hH hC λa E=>?_;refine cp E rfl I underlying90 Ty.t135 rfl rfl rfl rfl (by decide) (by decide) λtA a w E I ho=>?_;replace hC:=hC.trans ho;clear ho;refine RH 0 E I hH hC λa E=>?_;refine cQ E rfl I underlying90 Ty.t135 rfl rfl I.ai rfl (by simpa using F3 e) (by decide) (by decide) (by omega) λBb Bd a w E I=>?_;rw[show List.map cB k.ev++_=List.map cB (k.ev++[e]) from by rw[cW];rfl,show k.ev.length+1=(k.ev++[e]).length from by simp]at I;rw[show k.ev.length+1=(k.ev++[e]).length from by simp]at E;refine ST 2 E I (λa w E I=>?_);refine RT 0 E I ?_;exact⟨rfl,az.mk' (k:={ k with ev:=k.ev++[e] }) I { A with adE:=Bb,cE:=Bd }⟩
structure sr (w:World)(B:qg)(k:Ks):Prop where
 cf:Rd w B.cb 0 [.int .i64 k.n,.int .i64 k.me,.int .i64 k.id,.int .i64 k.aL,.int .i64 k.bq,.int .i64 k.bf,.int .i64 k.order,.int .i64 k.cv,.int .i64 k.workers,.int .i64 k.room,pt B.qb]
 now:w.cell? ⟨B.cb,14,none⟩=some (.int .i64 k.now)
 cl:w.cell? ⟨B.cb,15,none⟩=some (.bool k.cl)
 pe:∀ (i:Nat) (p:Pe),k.ps[i]?=some p→Rd w B.bp (B.op+i*5) (iS p)
 af8:∃ ad c,w.cell? ⟨B.cb,12,none⟩=some (.slice ad k.mr.length c)
 pl:∃ c,w.cell? ⟨B.cb,11,none⟩=some (.slice (some ⟨B.bp,B.op,none⟩) k.ps.length c)
theorem jl {α:Type}{f:α→List Value}{sz:Nat}(hf:∀ x,(f x).length=sz){l:List α}{i:Nat}{x:α}{b o:Nat}(h:Rd w b o (rows f l))(hx:l[i]?=some x):Rd w b (o+i*sz) (f x):=by
 obtain⟨hi,rfl⟩:=aY.1 hx;have h1:=h.part (i*sz) sz
 rwa [wa hf l i hi]at h1
theorem az.rd (I:U W w (az B k::L)):sr w B k:=by
 obtain⟨A,I⟩:=az.open I;refine⟨I.qv 11,I.bz rfl,I.bz rfl,λi p hp=>?_,⟨_,_,I.bz rfl⟩,⟨_,I.bz rfl⟩⟩;have hi:=(aY.1 hp).1;exact jl jX (I.cK B.bp B.op (by omega)) hp
end
theorem BR {l:List Nat}{i:Nat}(h:i<l.length):(c4 l)[i]?=some (.int .u32 (l.getD i 0:Nat)):=by
 rw[c4,bl,aD h,bm,aD h];rfl
theorem vj {k:Ks}{i:Nat}(h:i<k.ps.length):k.ps[i]?=some (au k i):=by
 rw[au,bm,aD h];rfl
theorem Mn {k:Ks}{i:Nat}(h:i<k.ps.length):k.ps[i]=au k i:=by
 rw[au,bm,aD h];rfl
section
variable {W w:World}{L L':List SP}{n c i:Nat}{ad:Option Addr}{k:Ks}{A:o9}{B:qg}{x:UInt8}
theorem Mo (I:U W w (az B k::L))(hk:WC k):Calls prog 175 #[pt B.cb] w λr w'=>r=.returned (.tuple #[])∧U W w' (az B (lr k)::L):=by
 have eo:k.ps.length=k.n:=hk.ps;obtain⟨A0,I⟩:=az.open I;refine EN func175 ntmps175 rfl rfl λa E=>?_;refine RN 7 E I λa E=>?_;replace I:=az.close I;refine aN (λμ a w=>∃ (i:Nat),(μ=k.ps.length-i∧i≤k.ps.length)∧Fr a 71 [(0,pt B.cb),(8,.int .i64 k.ps.length),(9,.int .i64 i)]∧U W w (az B (gy k i)::L)) (k.ps.length) (⟨0,⟨rfl,by omega⟩,E.ab [0,8,9],I⟩) ?_;clear E I;rintro μ a w ⟨i,⟨rfl,hi⟩,E,I⟩;refine IF 3 E I (λaj a E=>?_) λaj a E=>?_
 ·
  have aI:i<k.ps.length:=by omega
  have j6:=hk.gy (i:=i) (by omega);have dI:=BK k i;have eR:gy k (i+1)=lq (gy k i) i:=rfl;rw[lq]at eR;generalize gy k i=kk at I j6 dI eR;rw[← dI]at aI;have iE:=j6.qe (i:=i) (by rw[← j6.ps];exact aI);have e8:=vj aI;have Li:i<8:=by have:=j6.n;have:=j6.ps;omega
  obtain⟨A,I⟩:=az.open I;have fj:=jl jX (I.cK B.bp B.op (by omega)) e8;refine RN 14 E I λa E=>?_;have fj:Rd w.drew B.bp (B.op+i*5) (iS (au kk i)):=fj;have jV:Rd w.drew B.cb 0 (iG kk B A):=I.drew.ai;refine rG 0 (Old w.drew) [13,14,31,35,36,37,38] [0,1,2,1003,4,5,6,7,8,10,11,12,3009,1013,1014,15,16,17,18,19,20,1021,22,23,24,25,26,28,29,30,32,33,34,3027,3031,1035,1036,1037,1038,39,40] E I λa E=>?_;replace I:=I.drew;have hH:=Hd.gE I;have hC:=Old.refl w.drew;generalize w.drew=w at I hH hC fj jV ⊢;refine RH 3 E I hH hC λa E=>?_;refine SS E (ae E (fj 2 _ rfl)) λa E=>?_;refine RH 2 E I hH hC λa E=>?_;refine E.by (s:=23) (λjj E=>?_) (λjj E=>?_)
  ·
   refine RH 35 E I hH hC λa E=>?_;refine RN 3 E I λa E=>?_;rw[ag (λh=>by have:=h.2.1;omega)]at eR;exact⟨k.ps.length-(i+1),by omega,i+1,⟨rfl,by omega⟩,E.ab [0,8,9],by rw[eR];exact az.close I⟩
  refine RH 6 E I hH hC λa E=>?_;refine QH E (λw hc=>ae E (hc.cell (fj 2 _ rfl))) hC λa E=>?_;refine RH 0 E I hH hC λa E=>?_;refine bw E (cw E rfl (s:=23)) (ae E (jV 12 _ rfl)) rfl λa E=>?_;refine RH 4 E I hH hC λa E=>?_;refine E.by (s:=35) (λZP E=>?_) (λZP E=>?_)
  ·
   refine RH 23 E I hH hC λa E=>?_;refine RN 3 E I λa E=>?_;rw[ag (λh=>by have:=h.2.2.1;omega)]at eR;exact⟨k.ps.length-(i+1),by omega,i+1,⟨rfl,by omega⟩,E.ab [0,8,9],by rw[eR];exact az.close I⟩
  refine RH 3 E I hH hC λa E=>?_;refine bw E (cw E rfl (s:=35)) (ae E (fj 4 _ rfl)) rfl λa E=>?_;refine RH 2 E I hH hC λa E=>?_;refine E.by (s:=41) (λmV E=>?_) (λmV E=>?_)
  ·
   refine RH 17 E I hH hC λa E=>?_;refine RN 3 E I λa E=>?_;rw[ag (λh=>by have:=h.1;rw[mV]at this;cases this)]at eR;exact⟨k.ps.length-(i+1),by omega,i+1,⟨rfl,by omega⟩,E.ab [0,8,9],by rw[eR];exact az.close I⟩
  have lM:(au kk i).frame-1<kk.mr.length:=by omega
  obtain⟨F8,F9,eE,l5⟩:=I.bU A.cj (by omega);have zc:=jV 12 _ rfl;rw[eE]at zc;refine RH 9 E I hH hC λa E=>?_;refine QH E (λw hc=>ae E (hc.cell (fj 3 _ rfl))) hC λa E=>?_;refine QH E (λw hc=>ae E (hc.cell (zc))) hC λa E=>?_;refine RH 0 E I hH hC λa E=>?_;refine bw E (cw E rfl (s:=41)) (ae E (fj 2 _ rfl)) rfl λa E=>?_;refine RH 1 E I hH hC λa E=>?_;rw[show (((au kk i).frame:Nat):Int)-1=(((au kk i).frame-1:Nat):Int) from by omega]at E;refine RH 1 E I hH hC λa E=>?_;refine bw E (cw E rfl (s:=41)) (ae E (l5 ((au kk i).frame-1) _ (BR lM))) rfl λa E=>?_;refine RH 2 E I hH hC λa E=>?_;refine IF 0 E I (λao a E=>?_) λao a E=>?_
  ·
   refine RN 2 E I λa E=>?_;rw[ag (λh=>by have:=h.2.2.2;omega)]at eR;exact⟨k.ps.length-(i+1),by omega,i+1,⟨rfl,by omega⟩,E.ab [0,8,9],by rw[eR];exact az.close I⟩
  refine RN 1 E I λa E=>?_;rw[ak ⟨mV,by omega,by omega,by omega⟩]at eR;refine RN 3 E I λa E=>?_;refine mG (off:=B.op) (k:=i*5+4) E rfl I Ty.t4 rfl (by omega) (by rw[jw jX];omega) λa w E I=>?_;rw[qG jX kk.ps { au kk i with apart:=true } aI (by decide) (by rw[Mn aI];rfl)]at I;have ha:(kk.ps.set i { au kk i with apart:=true }).length=kk.ps.length:=bt;rw[show iG kk B A=iG { kk with ps:=kk.ps.set i { au kk i with apart:=true } } B A from by simp only[iG,ha],← ha]at I;replace I:=az.mk' (L':=L) (B:=B) (k:={ kk with ps:=kk.ps.set i { au kk i with apart:=true } }) I A;refine RN 5 E I λa E=>?_;refine SS E (ae E (((az.rd I).pe i { au kk i with apart:=true } (by rw[getElem?_set_self aI])) 2 _ rfl)) λa E=>?_;refine CL 1 E I (F7 (e:=(3,i,(au kk i).frame)) I ⟨by simp,by simp,by have:=j6.n;have:=j6.ps;show i<8;omega,iE.2.2.1,.inl rfl⟩ (by have:=j6.kT;show kk.ev.length≤100;omega)) λa w E I=>?_;refine RN 2 E I λa E=>?_;exact⟨k.ps.length-(i+1),by omega,i+1,⟨rfl,by omega⟩,E.ab [0,8,9],by rw[eR];exact I⟩
 refine RT 0 E I ?_;obtain rfl:i=k.ps.length:=by omega
 exact⟨rfl,I⟩
theorem ZQ {s:Nat}(I:U W w (az B k::L))(hk:WC k)(hl:k.mr.length<1000)(yB:s<4294967296):Calls prog 138 #[pt B.cb,.int .u32 s] w λr w'=>r=.returned (.tuple #[])∧U W w' (az B (lY k s)::L):=by
 have zd : WC { k with mr := k.mr ++ [s] } := { hk with
     mr:=by show (k.mr++[s]).length≤1000;rw[aJ,jF];omega
     sk:=λx hx=>by
      rcases eT.1 hx with hx | hx
      ·exact hk.sk x hx
      ·rw[iK]at hx;rw[hx];exact yB }
 obtain⟨A,I⟩:=az.open I;refine EN func138 ntmps138 rfl rfl λa E=>?_;refine RN 5 E I λa E=>?_;replace E:=E.aP 6;refine RN 7 E I λa E=>?_;rw[bo (by omega)]at E;refine RN 8 E I λa E=>?_;refine cp E rfl I underlying69 Ty.t100 rfl rfl rfl rfl (by decide) (by decide) λJ2 a w E I ho=>?_;clear ho;refine RN 0 E I λa E=>?_;refine cQ E rfl I underlying69 Ty.t100 rfl rfl I.ai rfl (by simp[Value.oneCell']) (by decide) (by decide) (by omega) λrN rO a w E I=>?_;rw[show c4 k.mr++_=c4 (k.mr++[s]) from by rw[c4,c4,cW];rfl,show k.mr.length+1=(k.mr++[s]).length from by simp]at I;rw[show k.mr.length+1=(k.mr++[s]).length from by simp]at E;refine ST 2 E I (λa w E I=>?_);refine RN 0 E I λa E=>?_;replace I:=az.mk' (B:=B) (L':=L) (k:={ k with mr:=k.mr++[s] }) I { A with cj:=rN,cM:=rO };refine CL 1 E I (Mo I zd) λa w E I=>?_;refine RT 0 E I ?_;exact⟨rfl,by rw[lY,ak hl];exact I⟩
theorem ZR (I:U W w (az B k::L)):Calls prog 296 #[pt B.cb] w λr w'=>∃ ad c,r=.returned (.slice ad k.ev.length c)∧U W w' (Sl 135 1 ad k.ev.length c (k.ev.map cB)::az B { k with ev:=[] }::L):=by
 obtain⟨A,I⟩:=az.open I;refine EN func296 ntmps296 rfl rfl λa E=>?_;refine RN 6 E I λa E=>?_;replace E:=E.aP 5;refine ST 11 E I (λa w E I=>?_);refine RT 3 E I ?_;refine⟨A.adE,A.cE,rfl,?_⟩;replace I:=I.bM 135 1 none;refine U.perm (L:=az B { k with ev:=[] }::Sl 135 1 A.adE k.ev.length A.cE (k.ev.map cB)::L) ?_ (cZ _ _ _);refine az.close (A:=⟨A.cP,A.cj,A.cM,none,0⟩) ?_;exact I.sub (M:=aa B.cb 257 [.int .i64 k.n,.int .i64 k.me,.int .i64 k.id,.int .i64 k.aL,.int .i64 k.bq,.int .i64 k.bf,.int .i64 k.order,.int .i64 k.cv,.int .i64 k.workers,.int .i64 k.room,pt B.qb,.slice (some ⟨B.bp,B.op,none⟩) k.ps.length A.cP,.slice A.cj k.mr.length A.cM,.slice none 0 0,.int .i64 k.now,.bool k.cl]::Sl 259 5 (some ⟨B.bp,B.op,none⟩) k.ps.length A.cP (rows iS k.ps)::Sl 100 1 A.cj k.mr.length A.cM (c4 k.mr)::Sl 135 1 none 0 0 []::Qu B.qb B.aB k.ls::Sl 135 1 A.adE k.ev.length A.cE (k.ev.map cB)::L)
theorem ZS (I:U W w (az B k::L))(hk:WC k):Calls prog 297 #[pt B.cb,.int .u8 (x.toNat:Nat)] w λr w'=>r=.returned (.int .i64 (c3 x k).1)∧U W w' (az B (c3 x k).2::L):=by
 have eE:k.me<k.ls.length:=by rw[hk.ls];exact hk.me
 have gX:=hk.lZ;have fw:aU k.ls≤aG k:=hk.nG;refine EN func297 ntmps297 rfl rfl λa E=>?_;refine CL 5 E I (zb I) λa w E I=>?_;refine IF 1 E I (λaj a E=>?_) λaj a E=>?_
 ·
  refine RT 2 E I ?_;exact⟨by rw[c3,ak aj],by rw[c3,ak aj];exact I⟩
 have cn:¬ k.cl=true:=by rw[aj];decide
 refine CL 2 E I (tN I hk) λa w E I=>?_;refine IF 2 E I (λao a E=>?_) λao a E=>?_
 ·
  refine RT 2 E I ?_;exact⟨by rw[c3,ag cn,ak (by omega)],by rw[c3,ag cn,ak (by omega)];exact I⟩
 refine aV 1 (λw0 w'=>sr w' B k) [1,6,7,12] [0,2,3,4,8,9,10,11,3005,3012,1001,1006,1007,13,14] E I λa w E I hH=>?_;have hC:=hH.at w (az.rd I);refine RH 8 E I hH hC λa E=>?_;refine QH E (λw hc=>ae E (hc.cf 10 _ rfl)) hC λa E=>?_;refine QH E (λw hc=>ae E (hc.cf 4 _ rfl)) hC λa E=>?_;refine RH 0 E I hH hC λa E=>?_;refine CL 0 E I (tN I hk) λa w E I=>?_;replace hC:=hH.at w (az.rd I);obtain⟨D,I,hD⟩:=az.qu I;refine RH 0 E I hH hC λa E=>?_;refine CL 0 E I (sj I hk.lu (by rw[hk.ls];exact hk.n.2)) λa w E I=>?_;replace hC:=hH.at w (az.rd (hD _ _ I));replace I:=hD _ _ I;refine RH 3 E I hH hC λa E=>?_;refine IF 0 E I (λay a E=>?_) λay a E=>?_
 ·
  refine RT 2 E I ?_;exact⟨by rw[c3,ag cn,ag (by omega),ak (by rw[aw];omega)],by rw[c3,ag cn,ag (by omega),ak (by rw[aw];omega)];exact I⟩
 refine aV 1 (λw0 w'=>sr w' B k) [8] [0,1,2,4,5,6,7,10,3003,1008,1009,1011,12] E I λa w E I hH=>?_;have hC:=hH.at w (az.rd I);refine RH 8 E I hH hC λa E=>?_;refine QH E (λw hc=>ae E (hc.cf 10 _ rfl)) hC λa E=>?_;refine RH 0 E I hH hC λa E=>?_;refine SS E (ae E (hC.cf 1 _ rfl)) λa E=>?_;obtain⟨D,I,hD⟩:=az.F6 I;refine RH 0 E I hH hC λa E=>?_;refine CL 0 E I (tL I eE) λa w E I=>?_;refine CL 0 E I (Zt I eE (by simp only[aG]at ao;omega)) λa w E I=>?_;refine RN 1 E I λa E=>?_;refine RT 0 E I ?_;have vk:c3 x k=(0,{ k with ls:=k.ls.set k.me (k.ls.getD k.me []++[x]) }):=by rw[c3,ag cn,ag (by omega),ag (by rw[aw];omega)]
 rw[vk];exact⟨rfl,hD _ _ _ I⟩
end
def m0 (l:List Nat):List Value:=l.map λi:Nat=>Value.int .i64 (i:Int)
theorem Ga {l:List Nat}{i j:Nat}(h:l[i]?=some j):(m0 l)[i]?=some (.int .i64 (j:Int)):=by rw[m0,bl,h];rfl
def lv (k:Ks)(i:Nat):List Nat:=(List.range i).filter (·≠k.me)
theorem Gb (k:Ks)(i:Nat):lv k (i+1)=if i=k.me then lv k i else lv k i++[i]:=by
 rw[lv,range_succ,yq];by_cases h:i=k.me
 ·rw[ak h];simp[h,lv]
 ·rw[ag h];simp[h,lv]
theorem Mp (k:Ks):∀ i,(lv k i).length≤i:=λi=>by
 have:=pR (λx=>decide (x≠k.me)) (List.range i);rw[length_range]at this;exact this
abbrev Mx:=Option Addr×Nat×Ml
abbrev b7 (x:Mx):List Value:=[.int .i64 x.2.2.1,.int .i64 x.2.2.2.1,.slice x.1 x.2.2.2.2.length x.2.1]
theorem oc (x:Mx):(b7 x).length=3:=rfl
theorem ZT (x:Mx):∀ v∈b7 x,v.oneCell'=true:=by
 intro v hv;simp[b7]at hv;rcases hv with rfl | rfl | rfl <;> rfl
def ca (x:Mx):SP:=Sl 5 1 x.1 x.2.2.2.2.length x.2.1 (bc x.2.2.2.2)
def cd (e:TypeId)(ad:Option Addr)(n c:Nat)(ms:List Ml):SP:=λh=>∃ xs:List Mx,(xs.map (·.2.2)=ms∧ms.length=n)∧cm [Sl e 3 ad n c (rows b7 xs),ah ca xs] h
section
variable {W w:World}{L L':List SP}{n c i e to:Nat}{ad adP:Option Addr}{k:Ks}{A:o9}{B:qg}{x:UInt8}{ms:List Ml}{p:Pk}
theorem cd.open (I:U W w (cd e ad n c ms::L)):∃ xs:List Mx,xs.map (·.2.2)=ms∧ms.length=n∧U W w (Sl e 3 ad n c (rows b7 xs)::ah ca xs::L):=by
 obtain⟨xs,⟨h1,h2⟩,I⟩:=I.jM (ι:=List Mx) (p:=λxs=>xs.map (·.2.2)=ms∧ms.length=n) (B:=λxs h=>cm [Sl e 3 ad n c (rows b7 xs),ah ca xs] h) λ_ ⟨xs,h1,h2⟩=>⟨xs,h1,h2⟩;exact⟨xs,h1,h2,I.open (M:=[_,_]) λ_ h=>h⟩
theorem cd.close {xs:List Mx}(I:U W w (Sl e 3 ad n c (rows b7 xs)::ah ca xs::L))(h1:xs.map (·.2.2)=ms)(h2:ms.length=n):U W w (cd e ad n c ms::L) :=
 U.shut (M:=[_,_]) I λ_ h=>⟨xs,⟨h1,h2⟩,h⟩
theorem cd.nil (I:U W w L):U W w (cd e none 0 0 []::L):=cd.close (xs:=[]) (U.bM (U.ja I) e 3 none) rfl rfl
theorem Gc (I:U W w (az B k::L))(hk:WC k):Calls prog 315 #[pt B.cb] w λr w'=>∃ ad c,r=.returned (.slice ad (bH k).length c)∧U W w' (Sl 3 1 ad (bH k).length c (m0 (bH k))::az B k::L):=by
 have fL:=hk.ps;have hn:=hk.n;obtain⟨A,I⟩:=az.open I;refine EN func315 ntmps315 rfl rfl λa E=>?_;refine RN 12 E I λa E=>?_;rw[fL]at E;replace I:=az.close I;replace I:=I.bM 3 1 none;refine aN (λμ a w=>∃ (i:Nat) (ad:Option Addr) (c:Nat),(μ=k.n-i∧i≤k.n)∧Fr a 26 [(0,pt B.cb),(3,.slice ad (lv k i).length c),(9,.int .i64 k.n),(10,.int .i64 i)]∧U W w (Sl 3 1 ad (lv k i).length c (m0 (lv k i))::az B k::L)) (k.n) (⟨0,none,0,⟨rfl,by omega⟩,E.ab [0,3,9,10],I⟩) ?_;clear E I;rintro μ a w ⟨i,ad,c,⟨rfl,hi⟩,E,I⟩;refine IF 3 E I (λaj a E=>?_) λaj a E=>?_
 ·
  have ea:=Mp k i;have l6:=Gb k i;refine RN 10 E I λa E=>?_;refine SS E (ae E (((az.rd I.tail).cf 1 _ rfl))) λa E=>?_;refine IF 1 E I (λao a E=>?_) λao a E=>?_
  ·
   rw[ag (by omega)]at l6;refine RN 2 E I λa E=>?_;refine cp E rfl I underlying53 Ty.t3 rfl rfl rfl rfl (by decide) (by decide) λu1 a w E I ho=>?_;clear ho;refine RN 0 E I λa E=>?_;refine cQ E rfl I underlying53 Ty.t3 rfl rfl I.ai rfl (by simp[Value.oneCell']) (by decide) (by decide) (by omega) λgz gA a w E I=>?_;rw[show m0 (lv k i)++_=m0 (lv k (i+1)) from by rw[l6,m0,m0,cW];rfl,show (lv k i).length+1=(lv k (i+1)).length from by rw[l6,aJ];rfl]at I;rw[show (lv k i).length+1=(lv k (i+1)).length from by rw[l6,aJ];rfl]at E;refine RN 3 E I λa E=>?_;exact⟨k.n-(i+1),by omega,i+1,gz,gA,⟨rfl,by omega⟩,E.ab [0,3,9,10],I.sub⟩
  rw[ak (by omega)]at l6;refine RN 2 E I λa E=>?_;exact⟨k.n-(i+1),by omega,i+1,ad,c,⟨rfl,by omega⟩,by rw[l6];exact E.ab [0,3,9,10],by rw[l6];exact I⟩
 refine RT 3 E I ?_;obtain rfl:i=k.n:=by omega
 exact⟨ad,c,rfl,I⟩
def tO (k:Ks)(to:Nat)(p:Pk):Pk:={ p with aW:=k.me,to:=to,id:=k.id }
theorem Mq (I:U W w (az B k::L))(mx:p.sum<4294967296)(hp:∀ w',U W w' (az B k::L)→aX w' adP p.al.length p.al) :
   Calls prog 316 #[pt B.cb,.agg (dO p adP c).toArray,.int .i64 to] w λr w'=>∃ av c',r=.returned (.agg (b7 (av,c',(k.me,to,aT (tO k to p)))).toArray)∧U W w' (ca (av,c',(k.me,to,aT (tO k to p)))::az B k::L):=by
 refine EN func316 ntmps316 rfl rfl λa E=>?_;refine BX 1 E I λb4 a w E I=>?_;simp only[dO]at I;refine AL 0 E I λcH a w E I=>?_;refine aV 1 (λw0 w'=>sr w' B k) [10,12,13,14] [0,1,2,3,5,6,7,8,9,3004,11,3010,1012,1013,1014,15,1016] E I λa w E I hH=>?_;have hC:=hH.at w (az.rd (I.pick (az B k)));refine RH 9 E I hH hC λa E=>?_;refine QH E (λw hc=>ae E (hc.cf 1 _ rfl)) hC λa E=>?_;refine RH 1 E I hH hC λa E=>?_;refine QH E (λw hc=>ae E (hc.cf 2 _ rfl)) hC λa E=>?_;refine RH 0 E I hH hC λa E=>?_;refine ST 0 E I (λa w E I=>?_);replace hC:=hH.at w (az.rd (I.pick (az B k)));refine RH 1 E I hH hC λa E=>?_;refine ST 0 E I (λa w E I=>?_);replace hC:=hH.at w (az.rd (I.pick (az B k)));refine RH 1 E I hH hC λa E=>?_;refine ST 0 E I (λa w E I=>?_);refine aV 1 (λw0 w'=>Rd w' b4 0 (dO (tO k to p) adP c)) [3,4,5] [0,2,3001,3003,1004,1005,6,1007] E I λa w E I hH=>?_;have hC:=hH.at w (I.ai (b:=b4));refine RH 2 E I hH hC λa E=>?_;refine QH E (λw hc=>ae E (hc 1 _ rfl)) hC λa E=>?_;refine QH E (λw hc=>ae E (hc 2 _ rfl)) hC λa E=>?_;refine RH 0 E I hH hC λa E=>?_;refine SS E (bT E underlying203 rfl Ty.t203 (hC)) λa E=>?_;refine RH 0 E I hH hC λa E=>?_;refine aZ 0 E I (Lu (p:=tO k to p) (ad:=adP) (c:=c) I mx (λw' hw=>hp w' hw.sub)) λad2 c2 a w E I=>?_;replace hC:=hH.at w (I.ai (b:=b4));refine RH 1 E I hH hC λa E=>?_;refine SA 0 E I λa w E I=>?_;refine RT 0 E I ?_;exact⟨ad2,c2,rfl,I.sub (M:=Sl 5 1 ad2 (aT (tO k to p)).length c2 (bc (aT (tO k to p)))::az B k::L)⟩
theorem Mr {l:List Nat}(h:0<l.length):l.getD (l.length-1) 0=l.getLastD 0:=by
 rw[getLastD_eq_getLast?,List.getLast?_eq_getElem?,bm]
theorem ZU (k:Ks)(to:Nat):tO k to ⟨1,0,0,0,(au k to).has,(k.ls.getD to []).length,k.mr.length,k.mr.getLastD 0,((k.ls.getD k.me []).drop (au k to).has).take 32⟩=dP k to:=rfl
set_option maxHeartbeats 1000000 in
theorem ZV (I:U W w (az B k::L))(hk:WC k)(tQ:to<k.n):Calls prog 319 #[pt B.cb,.int .i64 to] w λr w'=>∃ av c',r=.returned (.agg (b7 (av,c',(k.me,to,aT (dP k to)))).toArray)∧U W w' (ca (av,c',(k.me,to,aT (dP k to)))::az B k::L):=by
 have eE:k.me<k.ls.length:=by rw[hk.ls];exact hk.me
 have eP:to<k.ls.length:=by rw[hk.ls];exact tQ
 have ZW:to<k.ps.length:=by rw[hk.ps];exact tQ
 have iE:=hk.qe tQ;have lM:=hk.mz hk.me;have e8:=vj ZW;have hn:=hk.n;have Ms:=hk.mr;obtain⟨A,I⟩:=az.open I;refine EN func319 ntmps319 rfl rfl λa E=>?_;refine AL 1 E I λb4 a w E I=>?_;refine RN 0 E I λa E=>?_;refine cc (M:=λa w=>∃ b5:Nat,Fr a 62 [(0,pt B.cb),(1,.int .i64 to),(4,pt b4),(5,pt b5)]∧U W w (aa b5 203 [.int .i64 1,.int .i64 0,.int .i64 0,.int .i64 0,.int .i64 (au k to).has,.slice none 0 0,.int .i64 (k.ls.getD to []).length,.int .i64 k.mr.length,.int .u32 0]::aa b4 124 [.int .i64 0,.int .i64 0,.slice none 0 0]::aa B.cb 257 (iG k B A)::Sl 259 5 (some ⟨B.bp,B.op,none⟩) k.ps.length A.cP (rows iS k.ps)::Sl 100 1 A.cj k.mr.length A.cM (c4 k.mr)::Sl 135 1 A.adE k.ev.length A.cE (k.ev.map cB)::Qu B.qb B.aB k.ls::L)) ?_ ?_
 ·
  refine aV 0 (λw0 w'=>Rd w' B.cb 0 (iG k B A)∧Rd w' B.bp (B.op+to*5) (iS (au k to))) [11,13,14,18,19,21] [0,1,2,4,8,9,10,12,15,16,17,3003,5,6,3007,3011,3018,3019,2013,2014,20,1021,1022] E I λa w E I hH=>?_;have hC:=hH.at w ⟨I.ai (b:=B.cb),jl jX (I.cK B.bp B.op (by omega)) e8⟩;refine RH 11 E I hH hC λa E=>?_;refine QH E (λw hc=>ae E (hc.1 11 _ rfl)) hC λa E=>?_;refine RH 2 E I hH hC λa E=>?_;refine QH E (λw hc=>ae E (hc.2 0 _ rfl)) hC λa E=>?_;refine QH E (λw hc=>ae E (hc.1 10 _ rfl)) hC λa E=>?_;refine QH E (λw hc=>ae E (hc.1 12 _ rfl)) hC λa E=>?_;refine RH 1 E I hH hC λa E=>?_;refine DN [(13,[2014,20,1021,1022]),(21,[1013,1014,20,1022])] (by kernel_rfl) rfl ⟨⟨_,rfl,?_⟩,⟨_,rfl,?_⟩,trivial⟩
  ·
   refine RH 0 E I hH hC λa E=>?_;refine CL 0 E I (tL (I.pick (Qu B.qb B.aB k.ls)) eP) λa w E I=>?_;replace hC:=hH.at w ⟨I.ai (b:=B.cb),jl jX (I.cK B.bp B.op (by omega)) e8⟩;refine RH 0 E I hH hC λa E=>?_;refine DN [(14,[20,1021,1022]),(21,[1014,20,1022])] (by kernel_rfl) rfl ⟨⟨_,rfl,?_⟩,⟨_,rfl,?_⟩,trivial⟩
   ·
    refine RH 0 E I hH hC λa E=>?_;refine CL 0 E I (y8 (I.pick (Qu B.qb B.aB k.ls)) eP) λa w E I=>?_;replace hC:=hH.at w ⟨I.ai (b:=B.cb),jl jX (I.cK B.bp B.op (by omega)) e8⟩;refine RH 1 E I hH hC λa E=>?_;refine eZ E rfl I Ty.t203 rfl λb5 a w E I ho=>?_;clear ho;replace hC:=hH.at w ⟨I.ai (b:=B.cb),jl jX (I.cK B.bp B.op (by omega)) e8⟩;refine RH 0 E I hH hC λa E=>?_;refine SA 0 E I λa w E I=>?_;refine RN 0 E I λa E=>?_;exact⟨_,E.ab [0,1,4,5],I.sub⟩
   refine RH 0 E I hH hC λa E=>?_;refine eZ E rfl I Ty.t203 rfl λb5 a w E I ho=>?_;clear ho;replace hC:=hH.at w ⟨I.ai (b:=B.cb),jl jX (I.cK B.bp B.op (by omega)) e8⟩;refine RH 0 E I hH hC λa E=>?_;refine CL 0 E I (y8 (I.pick (Qu B.qb B.aB k.ls)) eP) λa w E I=>?_;replace hC:=hH.at w ⟨I.ai (b:=B.cb),jl jX (I.cK B.bp B.op (by omega)) e8⟩;refine RH 1 E I hH hC λa E=>?_;refine SA 0 E I λa w E I=>?_;refine RN 0 E I λa E=>?_;exact⟨_,E.ab [0,1,4,5],I.sub⟩
  refine RH 0 E I hH hC λa E=>?_;refine eZ E rfl I Ty.t203 rfl λb5 a w E I ho=>?_;clear ho;replace hC:=hH.at w ⟨I.ai (b:=B.cb),jl jX (I.cK B.bp B.op (by omega)) e8⟩;refine RH 0 E I hH hC λa E=>?_;refine CL 0 E I (tL (I.pick (Qu B.qb B.aB k.ls)) eP) λa w E I=>?_;replace hC:=hH.at w ⟨I.ai (b:=B.cb),jl jX (I.cK B.bp B.op (by omega)) e8⟩;refine RH 0 E I hH hC λa E=>?_;refine CL 0 E I (y8 (I.pick (Qu B.qb B.aB k.ls)) eP) λa w E I=>?_;replace hC:=hH.at w ⟨I.ai (b:=B.cb),jl jX (I.cK B.bp B.op (by omega)) e8⟩;refine RH 1 E I hH hC λa E=>?_;refine SA 0 E I λa w E I=>?_;refine RN 0 E I λa E=>?_;exact⟨_,E.ab [0,1,4,5],I.sub⟩
 clear E;(try clear I);rintro a w ⟨b5,E,I⟩;refine cc (M:=λa w=>∃ (c1:Option Addr) (dT:Nat),Fr a 62 [(0,pt B.cb),(1,.int .i64 to),(4,pt b4),(5,pt b5)]∧U W w (aa b5 203 [.int .i64 1,.int .i64 0,.int .i64 0,.int .i64 0,.int .i64 (au k to).has,.slice c1 (((k.ls.getD k.me []).drop (au k to).has).take 32).length dT,.int .i64 (k.ls.getD to []).length,.int .i64 k.mr.length,.int .u32 0]::Sl 5 1 c1 (((k.ls.getD k.me []).drop (au k to).has).take 32).length dT (bc (((k.ls.getD k.me []).drop (au k to).has).take 32))::aa b4 124 [.int .i64 0,.int .i64 0,.slice none 0 0]::aa B.cb 257 (iG k B A)::Sl 259 5 (some ⟨B.bp,B.op,none⟩) k.ps.length A.cP (rows iS k.ps)::Sl 100 1 A.cj k.mr.length A.cM (c4 k.mr)::Sl 135 1 A.adE k.ev.length A.cE (k.ev.map cB)::Qu B.qb B.aB k.ls::L)) ?_ ?_
 ·
  refine aV 0 (λw0 w'=>Rd w' B.cb 0 (iG k B A)∧Rd w' b5 0 [.int .i64 1,.int .i64 0,.int .i64 0,.int .i64 0,.int .i64 (au k to).has,.slice none 0 0,.int .i64 (k.ls.getD to []).length,.int .i64 k.mr.length,.int .u32 0]) [8,9,11] [0,1,2,4,5,6,7,10,3003,3008,3011,1009,1012,13,1014] E I λa w E I hH=>?_;have hC:=hH.at w ⟨I.ai (b:=B.cb),I.ai (b:=b5)⟩;refine RH 8 E I hH hC λa E=>?_;refine QH E (λw hc=>ae E (hc.1 10 _ rfl)) hC λa E=>?_;refine QH E (λw hc=>ae E (hc.1 1 _ rfl)) hC λa E=>?_;refine QH E (λw hc=>ae E (hc.2 4 _ rfl)) hC λa E=>?_;refine RH 0 E I hH hC λa E=>?_;refine CL 0 E I (tL (I.pick (Qu B.qb B.aB k.ls)) eE) λa w E I=>?_;replace hC:=hH.at w ⟨I.ai (b:=B.cb),I.ai (b:=b5)⟩;refine RH 0 E I hH hC λa E=>?_;refine aZ 0 E I (Zv (k:=32) (I.pick (Qu B.qb B.aB k.ls)) eE lM iE.1 (by decide)) λc1 dT a w E I=>?_;refine ST 1 E I (λa w E I=>?_);refine RN 0 E I λa E=>?_;exact⟨c1,dT,E.ab [0,1,4,5],I.sub⟩
 clear E;(try clear I);rintro a w ⟨c1,dT,E,I⟩;refine cc (M:=λa w=>Fr a 62 [(0,pt B.cb),(1,.int .i64 to),(4,pt b4),(5,pt b5)]∧U W w (aa b5 203 [.int .i64 1,.int .i64 0,.int .i64 0,.int .i64 0,.int .i64 (au k to).has,.slice c1 (((k.ls.getD k.me []).drop (au k to).has).take 32).length dT,.int .i64 (k.ls.getD to []).length,.int .i64 k.mr.length,.int .u32 (k.mr.getLastD 0:Nat)]::Sl 5 1 c1 (((k.ls.getD k.me []).drop (au k to).has).take 32).length dT (bc (((k.ls.getD k.me []).drop (au k to).has).take 32))::aa b4 124 [.int .i64 0,.int .i64 0,.slice none 0 0]::az B k::L)) ?_ ?_
 ·
  refine IF 10 E I (λaj a E=>?_) λaj a E=>?_
  ·
   obtain⟨F8,F9,Ge,l5⟩:=(I.pick (Sl 100 1 A.cj k.mr.length A.cM (c4 k.mr))).bU A.cj (by omega);refine RN 4 E I λa E=>?_;rw[Ge]at E;refine RN 2 E I λa E=>?_;rw[show ((k.mr.length:Nat):Int)-1=((k.mr.length-1:Nat):Int) from by omega]at E;refine RN 1 E I λa E=>?_;refine SS E (ae E (l5 (k.mr.length-1) _ (BR (by omega)))) λa E=>?_;refine ST 1 E I (λa w E I=>?_);refine RN 0 E I λa E=>?_;rw[Mr (by omega)]at I;exact⟨E.ab [0,1,4,5],(az.fold I B k A).sub⟩
  refine RN 0 E I λa E=>?_;have h0:k.mr.getLastD 0=0:=by rw[gG (l:=k.mr) (by omega)];rfl
  exact⟨E.ab [0,1,4,5],by rw[h0];exact (az.fold I B k A).sub⟩
 clear E;(try clear I);rintro a w ⟨E,I⟩;refine aZ 4 E I (Mq (p:=⟨1,0,0,0,(au k to).has,(k.ls.getD to []).length,k.mr.length,k.mr.getLastD 0,((k.ls.getD k.me []).drop (au k to).has).take 32⟩) (adP:=c1) (c:=dT) (I.pick (az B k)) (by
  show k.mr.getLastD 0<4294967296;rw[getLastD_eq_getLast?];cases hl:k.mr.getLast? with
  | none=>decide
  | some s=>exact hk.sk s (List.mem_of_getLast? hl)) (λw' hw=>(hw.pick (Sl 5 1 c1 (((k.ls.getD k.me []).drop (au k to).has).take 32).length dT (bc (((k.ls.getD k.me []).drop (au k to).has).take 32)))).cu c1 _ rfl rfl)) λad2 c2 a w E I=>?_
 rw[ZU]at E I;refine SA 0 E I λa w E I=>?_;refine RT 0 E I ?_;exact⟨ad2,c2,rfl,I.sub⟩
def BS (k:Ks)(j:Nat):List Ml:=((bH k).take j).map λi=>(k.me,i,aT (dP k i))
def BT (k:Ks)(j:Nat):List Ml:=((bH k).take j).map λi=>(k.me,i,aT (iD k i))
theorem Mt (k:Ks):(bH k).length≤k.n:=Mp k k.n
theorem ZX (I:U W w (az B k::L))(hk:WC k):Calls prog 298 #[pt B.cb] w λr w'=>∃ ad c,r=.returned (.slice ad (cy k).1.length c)∧U W w' (cd 124 ad (cy k).1.length c (cy k).1::az B (cy k).2::L):=by
 have hn:=hk.n;have ea:=Mt k;refine EN func298 ntmps298 rfl rfl λa E=>?_;refine CL 5 E I (zb I) λa w E I=>?_;refine IF 0 E I (λaj a E=>?_) λaj a E=>?_
 ·
  refine RT 2 E I ?_;exact⟨none,0,by rw[cy,ak aj];rfl,by rw[cy,ak aj];exact cd.nil I⟩
 have hq:cy k=((bH k).map λi=>(k.me,i,aT (iD k i)),{ k with cl:=true }):=by rw[cy,ag (by rw[aj];decide)]
 obtain⟨A,I⟩:=az.open I;refine ST 4 E I (λa w E I=>?_);refine RN 0 E I λa E=>?_;replace I:=az.mk' (B:=B) (L':=L) (k:={ k with cl:=true }) I A;refine aZ 5 E I (Gc I (by exact (hk.o7).1 |> λh=>by rw[hq]at h;exact h)) λm1 co a w E I=>?_;refine RN 2 E I λa E=>?_;replace I:=U.bM (U.ja (f:=ca) I) 124 3 none;replace E:Fr a 27 ((14,.int .i64 (0:Nat))::(13,.int .i64 (bH k).length)::(12,.slice m1 (bH k).length co)::(3,.slice none 0 0)::(0,pt B.cb)::[]):=E.ab [14,13,12,3,0];refine aN (λμ a w=>∃ (j:Nat) (xs:List Mx) (ad:Option Addr) (c:Nat),(μ=(bH k).length-j∧j≤(bH k).length∧xs.map (·.2.2)=BT k j∧xs.length=j)∧Fr a 27 [(0,pt B.cb),(3,.slice ad j c),(12,.slice m1 (bH k).length co),(13,.int .i64 (bH k).length),(14,.int .i64 j)]∧U W w (Sl 124 3 ad j c (rows b7 xs)::ah ca xs::Sl 3 1 m1 (bH k).length co (m0 (bH k))::az B { k with cl:=true }::L)) ((bH k).length) (⟨0,[],none,0,⟨rfl,by omega,rfl,rfl⟩,E.ab [0,3,12,13,14],I⟩) ?_;clear E I;rintro μ a w ⟨j,xs,ad,c,⟨rfl,hj,eI,b9⟩,E,I⟩;refine IF 3 E I (λao a E=>?_) λao a E=>?_
 ·
  obtain⟨i,hi⟩:∃ i,(bH k)[j]?=some i:=⟨_,aD (by omega)⟩;obtain⟨k0,oo,rfl,gK⟩:=(I.pick (Sl 3 1 m1 (bH k).length co (m0 (bH k)))).bU m1 (by omega);refine RN 3 E I λa E=>?_;refine SS E (ae E (gK j _ (Ga hi))) λa E=>?_;refine aZ 5 E I (Mq (k:={ k with cl:=true }) (to:=i) (p:=⟨2,0,0,0,0,0,0,0,[]⟩) (adP:=none) (c:=0) (I.pick (az B { k with cl:=true })) (by decide) (λw' hw=>aX.nil)) λad2 c2 a w E I=>?_;rw[show tO { k with cl:=true } i ⟨2,0,0,0,0,0,0,0,[]⟩=iD k i from rfl]at E I;refine RN 0 E I λa E=>?_;refine cp E rfl I underlying108 Ty.t124 rfl rfl rfl rfl (by decide) (by decide) λyI a w E I ho=>?_;clear ho;refine RN 0 E I λa E=>?_;refine cQ E rfl I underlying108 Ty.t124 rfl rfl I.ai rfl (by simp[Value.oneCell']) (by decide) (by decide) (by omega) λMv Mw a w E I=>?_;rw[show rows b7 xs++_=rows b7 (xs++[(ad2,c2,(k.me,i,aT (iD k i)))]) from by rw[kG];rfl]at I;refine RN 3 E I λa E=>?_;have dz:=U.j1 (f:=ca) (x:=(ad2,c2,(k.me,i,aT (iD k i)))) (I.sub (M:=ca (ad2,c2,(k.me,i,aT (iD k i)))::ah ca xs::Sl 124 3 Mv (j+1) Mw (rows b7 (xs++[(ad2,c2,(k.me,i,aT (iD k i)))]))::Sl 3 1 (some ⟨k0,oo,none⟩) (bH k).length co (m0 (bH k))::az B { k with cl:=true }::L));exact⟨(bH k).length-(j+1),by omega,j+1,xs++[(ad2,c2,(k.me,i,aT (iD k i)))],Mv,Mw,⟨rfl,by omega,by
   have dQ:j<(bH k).length:=by omega
   rw[cW,eI,BT,BT,jx dQ,cW,(aY.1 hi).2];rfl,by rw[aJ,b9];rfl⟩,E.ab [0,3,12,13,14],dz.sub⟩
 refine RT 3 E I ?_;obtain rfl:j=(bH k).length:=by omega
 rw[BT,k4]at eI;have ha:((bH k).map λi=>(k.me,i,aT (iD k i))).length=(bH k).length:=a8 _;rw[hq];refine⟨ad,c,by rw[ha],?_⟩;rw[ha];exact cd.close (xs:=xs) I.sub eI ha
end
theorem My {α:Type}{p:α→Bool}:∀ {l:List α} {j:Nat} {x:α},(∀ y∈l.take j,p y=false)→l[j]?=some x→p x=true→l.find? p=some x
 | [],j,x,_,h,_=>by simp at h
 | y::l,0,x,_,h,hp=>by
  obtain rfl:y=x:=by simpa using h
  rw[List.find?_cons,hp]
 | y::l,j+1,x,E,h,hp=>by
  rw[List.find?_cons,E y (by simp)];exact My (j:=j) (λz hz=>E z (by rw[take_succ_cons];exact gF _ hz)) (by simpa using h) hp
theorem Mz {α:Type}{p:α→Bool}{l:List α}(h:∀ y∈l,p y=false):l.find? p=none:=by
 rw[List.find?_eq_none];intro y hy hp;rw[h y hy]at hp;cases hp
section
variable {W w:World}{L L' R:List SP}{n c i e to:Nat}{ad adP:Option Addr}{k:Ks}{A:o9}{B:qg}{x:UInt8}{p:Pk}{bs:List UInt8}
theorem ZY (I:U W w (az B k::L))(hk:WC k)(pG:k.now≤1000000):Calls prog 300 #[pt B.cb] w λr w'=>∃ ad c,r=.returned (.slice ad (br k).1.length c)∧U W w' (cd 124 ad (br k).1.length c (br k).1::az B (br k).2::L):=by
 have hn:=hk.n;refine EN func300 ntmps300 rfl rfl λa E=>?_;refine CL 5 E I (zb I) λa w E I=>?_;refine IF 0 E I (λaj a E=>?_) λaj a E=>?_
 ·
  refine RT 2 E I ?_;exact⟨none,0,by rw[br,ak aj];rfl,by rw[br,ak aj];exact cd.nil I⟩
 have hq:br k=(match (bH { k with now:=k.now+1 }).find? (λi=>decide (jH { k with now:=k.now+1 } i)) with
  | some i=>([],{ k with now:=k.now+1,ev:=k.ev++[(2,i,0)],cl:=true })
  | none=>((bH { k with now:=k.now+1 }).map λi=>(k.me,i,aT (dP { k with now:=k.now+1 } i)),{ k with now:=k.now+1 })):=by rw[br,ag (by rw[aj];decide)];rfl
 obtain⟨A,I⟩:=az.open I;refine RN 6 E I λa E=>?_;rw[show ((k.now:Nat):Int)+1=((k.now+1:Nat):Int) from by omega]at E;refine ST 2 E I (λa w E I=>?_);refine RN 0 E I λa E=>?_;replace I:=az.fold I B { k with now:=k.now+1 } A;have e0:WC { k with now:=k.now+1 }:=hk.BM;have qh:=hk.kT;have Gf:({ k with now:=k.now+1 }:Ks).now≤1000001:=by show k.now+1≤_;omega
 have Gg:({ k with now:=k.now+1 }:Ks).ev.length≤9:=qh;have iy:br k=(match (bH { k with now:=k.now+1 }).find? (λi=>decide (jH { k with now:=k.now+1 } i)) with
  | some i=>([],{ ({ k with now:=k.now+1 }:Ks) with ev:=({ k with now:=k.now+1 }:Ks).ev++[(2,i,0)],cl:=true })
  | none=>((bH { k with now:=k.now+1 }).map λi=>(({ k with now:=k.now+1 }:Ks).me,i,aT (dP { k with now:=k.now+1 } i)),{ k with now:=k.now+1 })):=hq
 clear hq;have Gh:2≤({ k with now:=k.now+1 }:Ks).n∧({ k with now:=k.now+1 }:Ks).n≤8:=hn;generalize ({ k with now:=k.now+1 }:Ks)=k1 at I e0 iy Gf Gg Gh;have ea:=Mt k1;refine aZ 5 E I (Gc I e0) λm1 co a w E I=>?_;refine RN 2 E I λa E=>?_;replace E:Fr a 61 ((20,.int .i64 (0:Nat))::(19,.int .i64 (bH k1).length)::(18,.slice m1 (bH k1).length co)::(3,.slice none 0 0)::(0,pt B.cb)::[]):=E.ab [20,19,18,3,0];refine aN (λμ a w=>∃ (j:Nat),(μ=(bH k1).length-j∧j≤(bH k1).length∧∀ y∈(bH k1).take j,decide (jH k1 y)=false)∧Fr a 61 [(0,pt B.cb),(3,.slice none 0 0),(18,.slice m1 (bH k1).length co),(19,.int .i64 (bH k1).length),(20,.int .i64 j)]∧U W w (Sl 3 1 m1 (bH k1).length co (m0 (bH k1))::az B k1::L)) ((bH k1).length) (⟨0,⟨rfl,by omega,λy hy=>by simp at hy⟩,E.ab [0,3,18,19,20],I⟩) ?_;clear E I;rintro μ a w ⟨j,⟨rfl,hj,bQ⟩,E,I⟩;refine IF 3 E I (λao a E=>?_) λao a E=>?_
 ·
  have dQ:j<(bH k1).length:=by omega
  obtain⟨i,hi⟩:∃ i,(bH k1)[j]?=some i:=⟨_,aD dQ⟩;obtain⟨k0,oo,rfl,gK⟩:=I.bU m1 (by omega);have cD:=(xk.1 (bF hi)).1;have iE:=e0.qe cD;have aI:i<k1.ps.length:=by rw[e0.ps];exact cD
  have rW:=az.rd (I.tail);obtain⟨cP,eo⟩:=rW.pl;refine RN 3 E I λa E=>?_;refine SS E (ae E (gK j _ (Ga hi))) λa E=>?_;refine RN 2 E I λa E=>?_;have oe:sr w.drew B k1:=az.rd (I.drew.tail);have uO:w.drew.cell? ⟨B.cb,11,none⟩=some (.slice (some ⟨B.bp,B.op,none⟩) k1.ps.length cP):=eo;refine rG 0 (Old w.drew) [7,9,10,11] [0,1,2,4,5,6,8,3003,1007,1009,1010,1011,12,13] E I λa E=>?_;replace I:=I.drew;have hH:=Hd.gE I;have hC:=Old.refl w.drew;generalize w.drew=w at I hH hC oe uO ⊢;refine RH 7 E I hH hC λa E=>?_;refine QH E (λw hc=>ae E (hc.cell (oe.now))) hC λa E=>?_;refine RH 0 E I hH hC λa E=>?_;refine SS E (ae E (uO)) λa E=>?_;refine RH 2 E I hH hC λa E=>?_;refine SS E (ae E (oe.pe i _ (vj aI) 1 _ rfl)) λa E=>?_;refine RH 2 E I hH hC λa E=>?_;refine IF 0 E I (λay a E=>?_) λay a E=>?_
  ·
   have hlt:jH k1 i:=by rw[jH];omega
   rw[My bQ hi (dk hlt)]at iy;refine CL 4 E I (F7 (e:=(2,i,0)) (I.pick (az B k1)) ⟨by simp,by simp,by show i<8;omega,by simp,.inr rfl⟩ (by omega)) λa w E I=>?_;refine RN 1 E I λa E=>?_;obtain⟨A2,I⟩:=az.open I;refine ST 3 E I (λa w E I=>?_);refine RN 0 E I λa E=>?_;replace I:=az.fold I B { k1 with ev:=k1.ev++[(2,i,0)],cl:=true } A2;refine RT 2 E I ?_;rw[iy];exact⟨none,0,rfl,cd.nil I.sub⟩
  have hlt:¬ jH k1 i:=by rw[jH];omega
  refine RN 2 E I λa E=>?_;exact⟨(bH k1).length-(j+1),by omega,j+1,⟨rfl,by omega,λy hy=>by
   rw[jx dQ,eT,iK]at hy;rcases hy with hy | rfl
   ·exact bQ y hy
   ·rw[(aY.1 hi).2];exact bo hlt⟩,E.ab [0,3,18,19,20],I⟩
 obtain rfl:j=(bH k1).length:=by omega
 rw[k4]at bQ;rw[Mz bQ]at iy;clear bQ;refine aZ 3 E I (Gc (I.tail) e0) λze zf a w E I=>?_;refine RN 2 E I λa E=>?_;replace I:=U.bM (U.ja (f:=ca) I) 124 3 none;replace E:Fr a 61 ((49,.int .i64 (0:Nat))::(48,.int .i64 (bH k1).length)::(47,.slice ze (bH k1).length zf)::(3,.slice none 0 0)::(0,pt B.cb)::[]):=E.ab [49,48,47,3,0];refine aN (λμ a w=>∃ (j:Nat) (xs:List Mx) (ad:Option Addr) (c:Nat),(μ=(bH k1).length-j∧j≤(bH k1).length∧xs.map (·.2.2)=BS k1 j∧xs.length=j)∧Fr a 61 [(0,pt B.cb),(3,.slice ad j c),(47,.slice ze (bH k1).length zf),(48,.int .i64 (bH k1).length),(49,.int .i64 j)]∧U W w (Sl 124 3 ad j c (rows b7 xs)::ah ca xs::Sl 3 1 ze (bH k1).length zf (m0 (bH k1))::az B k1::L)) ((bH k1).length) (⟨0,[],none,0,⟨rfl,by omega,rfl,rfl⟩,E.ab [0,3,47,48,49],I⟩) ?_;clear E I;rintro μ a w ⟨j,xs,ad,c,⟨rfl,hj,eI,b9⟩,E,I⟩;refine IF 3 E I (λbk a E=>?_) λbk a E=>?_
 ·
  obtain⟨i,hi⟩:∃ i,(bH k1)[j]?=some i:=⟨_,aD (by omega)⟩;obtain⟨k0,oo,rfl,gK⟩:=(I.pick (Sl 3 1 ze (bH k1).length zf (m0 (bH k1)))).bU ze (by omega);have cD:=(xk.1 (bF hi)).1;refine RN 3 E I λa E=>?_;refine SS E (ae E (gK j _ (Ga hi))) λa E=>?_;refine aZ 4 E I (ZV (to:=i) (I.pick (az B k1)) e0 cD) λad2 c2 a w E I=>?_;refine RN 0 E I λa E=>?_;refine cp E rfl I underlying108 Ty.t124 rfl rfl rfl rfl (by decide) (by decide) λb57 a w E I ho=>?_;clear ho;refine RN 0 E I λa E=>?_;refine cQ E rfl I underlying108 Ty.t124 rfl rfl I.ai rfl (by simp[Value.oneCell']) (by decide) (by decide) (by omega) λMA MB a w E I=>?_;rw[show rows b7 xs++_=rows b7 (xs++[(ad2,c2,(k1.me,i,aT (dP k1 i)))]) from by rw[kG];rfl]at I;refine RN 3 E I λa E=>?_;have dz:=U.j1 (f:=ca) (x:=(ad2,c2,(k1.me,i,aT (dP k1 i)))) (I.sub (M:=ca (ad2,c2,(k1.me,i,aT (dP k1 i)))::ah ca xs::Sl 124 3 MA (j+1) MB (rows b7 (xs++[(ad2,c2,(k1.me,i,aT (dP k1 i)))]))::Sl 3 1 (some ⟨k0,oo,none⟩) (bH k1).length zf (m0 (bH k1))::az B k1::L));exact⟨(bH k1).length-(j+1),by omega,j+1,xs++[(ad2,c2,(k1.me,i,aT (dP k1 i)))],MA,MB,⟨rfl,by omega,by
   have dQ:j<(bH k1).length:=by omega
   rw[cW,eI,BS,BS,jx dQ,cW,(aY.1 hi).2];rfl,by rw[aJ,b9];rfl⟩,E.ab [0,3,47,48,49],dz.sub⟩
 refine RT 3 E I ?_;obtain rfl:j=(bH k1).length:=by omega
 rw[BS,k4]at eI;have ha:((bH k1).map λi=>(k1.me,i,aT (dP k1 i))).length=(bH k1).length:=a8 _;rw[iy];refine⟨ad,c,by rw[ha],?_⟩;rw[ha];exact cd.close (xs:=xs) I.sub eI ha
theorem WC.peer (h:WC k){q:Pe}(hi:i<k.n)(hq:q.has≤1000∧q.frame≤1000∧q.sum<4294967296)(hh:q.heard≤k.now)(E:q.apart=(au k i).apart):WC { k with ps:=k.ps.set i q } :=
 h.BJ (ev:=k.ev) (cl:=k.cl) hq hh h.bx (by rw[FT (by rw[h.ps];exact hi) E];exact h.o6)
theorem WC.line (h:WC k){l:List UInt8}(hl:l.length≤1000):WC { k with ls:=k.ls.set i l } :=
 { h with
  ls:=by show (k.ls.set i l).length=_;rw[bt];exact h.ls
  nF:=λy hy=>by
   rcases mem_set hy with hy | rfl
   ·exact h.nF y hy
   ·exact hl }
theorem MC {ls:List (List UInt8)}{i j:Nat}{l:List UInt8}(h:i≠j):(ls.set i l).getD j []=ls.getD j []:=by
 rw[bm,getElem?_set_ne h,← bm]
theorem az.MD (I:U W w L)(B:qg)(k:Ks)(A:o9)(q1 q2:Pe)[kk:fI L [aa B.cb 257 (iG { k with ps:=k.ps.set i q1 } B A),Sl 259 5 (some ⟨B.bp,B.op,none⟩) (k.ps.set i q1).length A.cP (rows iS (k.ps.set i q2)),Sl 100 1 A.cj k.mr.length A.cM (c4 k.mr),Sl 135 1 A.adE k.ev.length A.cE (k.ev.map cB),Qu B.qb B.aB k.ls] R]:U W w (az B { k with ps:=k.ps.set i q2 }::R):=by
 have h1:=I.perm kk.perm;rw[show iG { k with ps:=k.ps.set i q1 } B A=iG { k with ps:=k.ps.set i q2 } B A from by simp only[iG,bt],show (k.ps.set i q1).length=(k.ps.set i q2).length from by simp only[bt]]at h1;exact az.close (A:=A) h1
theorem az.ZZ (I:U W w L)(B:qg)(k:Ks)(A:o9)(q2:Pe)[kk:fI L [aa B.cb 257 (iG k B A),Sl 259 5 (some ⟨B.bp,B.op,none⟩) k.ps.length A.cP (rows iS (k.ps.set i q2)),Sl 100 1 A.cj k.mr.length A.cM (c4 k.mr),Sl 135 1 A.adE k.ev.length A.cE (k.ev.map cB),Qu B.qb B.aB k.ls] R]:U W w (az B { k with ps:=k.ps.set i q2 }::R):=by
 have h1:=I.perm kk.perm;rw[show iG k B A=iG { k with ps:=k.ps.set i q2 } B A from by simp only[iG,bt],show k.ps.length=(k.ps.set i q2).length from by simp only[bt]]at h1;exact az.close (A:=A) h1
theorem BU (h:k.cl=true):dp bs k=(6,k):=by rw[dp,ak h]
theorem Gi (h:k.cl=false)(hd:dN bs=none):dp bs k=(1,k):=by rw[dp,ag (by rw[h];decide),hd]
theorem xp (h:k.cl=false)(hd:dN bs=some p)(hx:p.to≠k.me∨(k.n:Int)≤p.aW∨p.id≠k.id):dp bs k=(1,k):=by
 rw[dp,ag (by rw[h];decide),hd];show (if _ then _ else _)=_;rw[ak hx]
theorem ME (h:k.cl=false)(hd:dN bs=some p)(hx:¬ (p.to≠k.me∨(k.n:Int)≤p.aW∨p.id≠k.id)):dp bs k=(0,fZ k p):=by
 rw[dp,ag (by rw[h];decide),hd];show (if _ then _ else _)=_;rw[ag hx]
set_option maxHeartbeats 2000000 in
theorem Z0 (I:U W w (az B k::L))(hk:WC k)(hb:bs.length≤65536)(hc:bs.length≤c)(hp:∀ w',U W w' L→aX w' ad bs.length bs) :
   Calls prog 299 #[pt B.cb,.slice ad bs.length c] w λr w'=>r=.returned (.int .i64 (dp bs k).1)∧U W w' (az B (dp bs k).2::L):=by
 have hn:=hk.n;refine EN func299 ntmps299 rfl rfl λa E=>?_;refine CL 5 E I (zb I) λa w E I=>?_;refine IF 0 E I (λaj a E=>?_) λaj a E=>?_
 ·
  refine RT 2 E I ?_;exact⟨by rw[BU aj],by rw[BU aj];exact I⟩
 refine j4 2 E I (Y7 I hb hc (λw' hw=>hp w' hw.tail)) ?_;clear E I;rintro e w ⟨p,adP,cP,ok,rfl,hd,I⟩;refine⟨_,rfl,λa E=>?_⟩;refine AL 3 E I λb5 a w E I=>?_;refine SA 0 E I λa w E I=>?_;refine RN 3 E I λa E=>?_;obtain⟨A,I⟩:=az.open (I.pick (az B k));refine bR 0 [9,19,29] [0,1,2,3,5,6,7,8,3004,1009,10,11,12,13,15,16,17,18,3014,1019,20,21,22,23,25,26,27,28,3024,1029,30,31] E I λa w E I hH hC=>?_;refine RH 3 E I hH hC λa E=>?_;refine E.by (s:=17) (λbA E=>?_) (λbA E=>?_)
 ·
  have dr:ok=false:=by cases ok with | false=>rfl | true=>exact absurd rfl bA
  have db:dN bs=none:=by
   rcases hd with ⟨h,_⟩ | ⟨_,h,_⟩
   ·rw[dr]at h;cases h
   ·exact h
  refine RH 29 E I hH hC λa E=>?_;refine RT 3 E I ?_;rw[Gi aj db];exact⟨rfl,(az.fold I B k A).sub⟩
 have dr:ok=true:=by cases ok with | true=>rfl | false=>exact absurd bA (by decide)
 have qi:dN bs=some p:=by
  rcases hd with ⟨_,h⟩ | ⟨h,_⟩
  ·exact h
  ·rw[dr]at h;cases h
 obtain⟨tR,fL,_⟩:=Fl qi;have Gj:=tR.1;refine RH 10 E I hH hC λa E=>?_;refine E.by (s:=27) (λiq E=>?_) (λiq E=>?_)
 ·
  refine RH 19 E I hH hC λa E=>?_;refine RT 3 E I ?_;rw[xp aj qi (.inl iq)];exact⟨rfl,(az.fold I B k A).sub⟩
 refine RH 10 E I hH hC λa E=>?_;refine E.by (s:=37) (λp9 E=>?_) (λp9 E=>?_)
 ·
  refine RH 9 E I hH hC λa E=>?_;refine RT 3 E I ?_;rw[xp aj qi (.inr (.inl p9))];exact⟨rfl,(az.fold I B k A).sub⟩
 refine RH 9 E I hH hC λa E=>?_;refine IF 0 E I (λao a E=>?_) λao a E=>?_
 ·
  refine RT 2 E I ?_;rw[xp aj qi (.inr (.inr ao))];exact⟨rfl,(az.fold I B k A).sub⟩
 have bQ:¬ (p.to≠k.me∨(k.n:Int)≤p.aW∨p.id≠k.id):=by
  rintro (h | h | h)
  ·exact h iq
  ·omega
  ·exact h ao
 rw[ME aj qi bQ];clear hd dr;obtain⟨fr,fw⟩:=su Gj.1;have hJ:fr<k.n:=by omega
 have ef:fr<k.ls.length:=by rw[hk.ls];exact hJ
 have nH:fr<k.ps.length:=by rw[hk.ps];exact hJ
 have Gk:fr≠k.me:=by have:=tR.2.2.1;omega
 have iE:=hk.qe hJ;have jW:p.aW.toNat=fr:=by omega
 refine bR 1 [5] [0,1,2,4,3003,1005,6,7] E I λa w E I hH hC=>?_;refine RH 6 E I hH hC λa E=>?_;rw[fw]at E;refine RH 2 E I hH hC λa E=>?_;refine RN 8 E I λa E=>?_;refine mG (off:=B.op) (k:=fr*5+1) E rfl I Ty.t3 rfl (by omega) (by rw[jw jX];omega) λa w E I=>?_;rw[qG jX k.ps { au k fr with heard:=k.now } nH (by decide) (by rw[Mn nH];rfl)]at I;have b0:=hk.peer (q:={ au k fr with heard:=k.now }) hJ ⟨iE.1,iE.2.2⟩ (a7 _) rfl;replace I:=az.ZZ (i:=fr) I B k A { au k fr with heard:=k.now };refine IF 5 E I (λay a E=>?_) λay a E=>?_
 ·
  refine RN 4 E I λa E=>?_;rw[fw]at E;refine CL 1 E I (F7 (e:=(1,fr,0)) I ⟨by simp,by simp,by show fr<8;omega,by simp,.inr rfl⟩ (by have:=hk.kT;show k.ev.length≤100;omega)) λa w E I=>?_;refine RN 1 E I λa E=>?_;obtain⟨A2,I⟩:=az.open I;refine ST 3 E I (λa w E I=>?_);refine RN 0 E I λa E=>?_;replace I:=az.fold I B { k with ps:=k.ps.set fr { au k fr with heard:=k.now },ev:=k.ev++[(1,fr,0)],cl:=true } A2;refine RT 2 E I ?_;refine⟨rfl,?_⟩;rw[fZ,ak ay,jW];exact I.sub
 refine RN 1 E I λa E=>?_;have g7:eM p.first∧eM p.dc∧eM p.frame∧p.al.length≤32:=by
  rcases tR.2.2.2.2 with h | h
  ·exact h.2
  ·exact absurd h.1 ay
 simp only[eM]at g7;obtain⟨fi,xq⟩:=su g7.1.1;obtain⟨jI,BV⟩:=su g7.2.1.1;obtain⟨kq,Gl⟩:=su g7.2.2.1.1;obtain⟨D,I,hD⟩:=az.F6 I;have MF:∀ w' L',U W w' (Qu B.qb B.aB k.ls::D::L')→sr w' B { k with ps:=k.ps.set fr { au k fr with heard:=k.now } }:=λw' L' h=>az.rd (hD w' L' _ h);refine aV 0 (λw0 w'=>Rd w' b5 0 (dO p adP cP)∧sr w' B { k with ps:=k.ps.set fr { au k fr with heard:=k.now } }) [5,6,8,10] [0,1,2,4,7,9,3003,3005,3008,3010,1006,1011] E I λa w E I hH=>?_;have hC:=hH.at w ⟨I.ai (b:=b5),MF _ _ I⟩;refine RH 6 E I hH hC λa E=>?_;refine QH E (λw hc=>ae E (hc.2.cf 10 _ rfl)) hC λa E=>?_;refine QH E (λw hc=>ae E (hc.1 1 _ rfl)) hC λa E=>?_;rw[fw]at E;refine RH 0 E I hH hC λa E=>?_;refine QH E (λw hc=>ae E (hc.1 4 _ rfl)) hC λa E=>?_;rw[xq]at E;refine RH 0 E I hH hC λa E=>?_;refine QH E (λw hc=>ae E (hc.1 5 _ rfl)) hC λa E=>?_;refine RH 0 E I hH hC λa E=>?_;refine CL 0 E I (tL I ef) λa w E I=>?_;replace hC:=hH.at w ⟨I.ai (b:=b5),MF _ _ I⟩;refine RH 0 E I hH hC λa E=>?_;refine aZ 0 E I (Zu (fr:=fi) (bs:=p.al) I ef (hk.mz hJ) (by omega) (λw' hw=>(hw.pick (Sl 5 1 adP p.al.length cP (bc p.al))).cu adP p.al rfl rfl)) λMG er a w E I=>?_;refine RN 0 E I λa E=>?_;replace I:=hD _ _ _ I;have mK:=b0.line (i:=fr) (l:=du (k.ls.getD fr []) fi p.al) (sh (hk.mz hJ)).2;have gX:aG ({ k with ls:=k.ls.set fr (du (k.ls.getD fr []) fi p.al),ps:=k.ps.set fr { au k fr with heard:=k.now } }:Ks)=aG k:=by
  show ((k.ls.set fr _).getD k.me []).length=_;rw[MC Gk];rfl
 have xr:(k.ps.set fr { au k fr with heard:=k.now })[fr]?=some { au k fr with heard:=k.now }:=getElem?_set_self nH;refine cc (M:=λa w=>∃ hh:Nat,hh=(if (au k fr).has<jI∧jI≤aG k then jI else (au k fr).has)∧Fr a 127 [(0,pt B.cb),(5,pt b5),(7,.pointer (some ⟨B.bp,B.op+fr*5,none⟩))]∧U W w (az B { k with ls:=k.ls.set fr (du (k.ls.getD fr []) fi p.al),ps:=k.ps.set fr { au k fr with heard:=k.now,has:=hh } }::aa b5 203 (dO p adP cP)::L)) ?_ ?_
 ·
  refine aV 1 (λw0 w'=>Rd w' b5 0 (dO p adP cP)∧sr w' B { k with ls:=k.ls.set fr (du (k.ls.getD fr []) fi p.al),ps:=k.ps.set fr { au k fr with heard:=k.now } }) [5,11] [0,2,3,4,3001,1005,6,7,8,10,3009,1011,12,13] E I λa w E I hH=>?_;have hC:=hH.at w ⟨I.ai (b:=b5),az.rd I⟩;refine RH 4 E I hH hC λa E=>?_;refine QH E (λw hc=>ae E (hc.1 6 _ rfl)) hC λa E=>?_;refine RH 0 E I hH hC λa E=>?_;refine SS E (ae E (hC.2.pe fr _ xr 0 (.int .i64 (au k fr).has) rfl)) λa E=>?_;refine RH 2 E I hH hC λa E=>?_;refine E.by (s:=91) (λjU E=>?_) (λjU E=>?_)
  ·
   refine RH 2 E I hH hC λa E=>?_;refine QH E (λw hc=>ae E (hc.1 6 _ rfl)) hC λa E=>?_;refine RH 0 E I hH hC λa E=>?_;refine CL 0 E I (tN I mK) λa w E I=>?_;replace hC:=hH.at w ⟨I.ai (b:=b5),az.rd I⟩;rw[gX]at E;refine RH 2 E I hH hC λa E=>?_;refine IF 0 E I (λbk a E=>?_) λbk a E=>?_
   ·
    obtain⟨A2,I⟩:=az.open I;refine RN 3 E I λa E=>?_;rw[BV]at E;refine RN 2 E I λa E=>?_;refine mG (off:=B.op) (k:=fr*5+0) E rfl I Ty.t3 rfl (by omega) (by rw[jw jX,bt];omega) λa w E I=>?_;rw[qG jX (k.ps.set fr { au k fr with heard:=k.now }) { au k fr with heard:=k.now,has:=jI } (by rw[bt];exact nH) (by decide) (by rw[oH];rfl),set_set]at I;replace I:=az.MD (i:=fr) I B { k with ls:=k.ls.set fr (du (k.ls.getD fr []) fi p.al) } A2 { au k fr with heard:=k.now } { au k fr with heard:=k.now,has:=jI };refine RN 0 E I λa E=>?_;exact⟨jI,by rw[ak ⟨by omega,by omega⟩],E.ab [0,5,7],I.sub⟩
   refine RN 0 E I λa E=>?_;exact⟨_,by rw[ag (by omega)],E.ab [0,5,7],I.sub⟩
  refine RH 6 E I hH hC λa E=>?_;refine RN 1 E I λa E=>?_;exact⟨_,by rw[ag (by omega)],E.ab [0,5,7],I.sub⟩
 clear E;(try clear I);rintro a w ⟨hh,zg,E,I⟩;refine cc (M:=λa w=>∃ q:Pe,(q=fY k.now (aG k) p (au k fr)∧WC { k with ls:=k.ls.set fr (du (k.ls.getD fr []) fi p.al),ps:=k.ps.set fr q })∧Fr a 127 [(0,pt B.cb)]∧U W w (az B { k with ls:=k.ls.set fr (du (k.ls.getD fr []) fi p.al),ps:=k.ps.set fr q }::aa b5 203 (dO p adP cP)::L)) ?_ ?_
 ·
  refine bR 1 [9] [0,1001,2,3,4,6,7,8,3005,1009,10,11] E I λa w E I hH hC=>?_;have xt:(k.ps.set fr { au k fr with heard:=k.now,has:=hh })[fr]?=some { au k fr with heard:=k.now,has:=hh }:=getElem?_set_self nH;have rW:sr w B { k with ls:=k.ls.set fr (du (k.ls.getD fr []) fi p.al),ps:=k.ps.set fr { au k fr with heard:=k.now,has:=hh } }:=az.rd I;have Gm:p.dc.toNat=jI:=by omega
  have Gn:p.frame.toNat=kq:=by omega
  have hP:fY k.now (aG k) p (au k fr)=(if 0<p.frame∧((au k fr).frame:Int)≤p.frame then { au k fr with heard:=k.now,has:=hh,frame:=kq,sum:=p.sum } else { au k fr with heard:=k.now,has:=hh }):=by
   rw[fY,Gm,Gn,zg]
  have vl:hh≤1000:=by rw[zg];split <;> omega
  refine RH 4 E I hH hC λa E=>?_;refine E.by (s:=106) (λbX E=>?_) (λbX E=>?_)
  ·
   refine RH 5 E I hH hC λa E=>?_;refine bw E (cw E rfl (s:=106)) (ae E (rW.pe fr _ xt 2 (.int .i64 (au k fr).frame) rfl)) rfl λa E=>?_;refine RH 2 E I hH hC λa E=>?_;refine IF 0 E I (λbN a E=>?_) λbN a E=>?_
   ·
    refine RN 0 E I λa E=>?_;obtain⟨A3,I⟩:=az.open I;refine aV 0 (λw0 w'=>Rd w' b5 0 (dO p adP cP)) [5,8] [0,1,2,4,3003,6,7,3005,1008,9,10,1011] E I λa w E I hH=>?_;have hC:=hH.at w (I.ai (b:=b5));refine RH 4 E I hH hC λa E=>?_;refine QH E (λw hc=>ae E (hc 7 _ rfl)) hC λa E=>?_;rw[Gl]at E;refine RH 2 E I hH hC λa E=>?_;refine QH E (λw hc=>ae E (hc 8 _ rfl)) hC λa E=>?_;refine RH 0 E I hH hC λa E=>?_;refine mG (off:=B.op) (k:=fr*5+2) E rfl I Ty.t3 rfl (by omega) (by rw[jw jX,bt];omega) λa w E I=>?_;replace hC:=hH.at w (I.ai (b:=b5));rw[qG jX (k.ps.set fr { au k fr with heard:=k.now,has:=hh }) { au k fr with heard:=k.now,has:=hh,frame:=kq } (by rw[bt];exact nH) (by decide) (by rw[oH];rfl),set_set]at I;refine RH 2 E I hH hC λa E=>?_;refine mG (off:=B.op) (k:=fr*5+3) E rfl I Ty.t100 rfl (by omega) (by rw[jw jX,bt];omega) λa w E I=>?_;rw[qG jX (k.ps.set fr { au k fr with heard:=k.now,has:=hh,frame:=kq }) { au k fr with heard:=k.now,has:=hh,frame:=kq,sum:=p.sum } (by rw[bt];exact nH) (by decide) (by rw[oH];rfl),set_set]at I;replace I:=az.MD (i:=fr) I B { k with ls:=k.ls.set fr (du (k.ls.getD fr []) fi p.al) } A3 { au k fr with heard:=k.now,has:=hh } { au k fr with heard:=k.now,has:=hh,frame:=kq,sum:=p.sum };refine RN 0 E I λa E=>?_;exact⟨_,⟨by rw[hP,ak (by omega)],(hk.peer (q:={ au k fr with heard:=k.now,has:=hh,frame:=kq,sum:=p.sum }) hJ ⟨vl,by show kq≤1000;omega,fL⟩ (a7 _) rfl).line (sh (hk.mz hJ)).2⟩,E.ab [0],I.sub⟩
   refine RN 0 E I λa E=>?_;exact⟨_,⟨by rw[hP,ag (by omega)],(hk.peer (q:={ au k fr with heard:=k.now,has:=hh }) hJ ⟨vl,iE.2.2⟩ (a7 _) rfl).line (sh (hk.mz hJ)).2⟩,E.ab [0],I⟩
  refine RH 8 E I hH hC λa E=>?_;refine RN 1 E I λa E=>?_;exact⟨_,⟨by rw[hP,ag (by omega)],(hk.peer (q:={ au k fr with heard:=k.now,has:=hh }) hJ ⟨vl,iE.2.2⟩ (a7 _) rfl).line (sh (hk.mz hJ)).2⟩,E.ab [0],I⟩
 clear E;(try clear I);rintro a w ⟨q,⟨Z1,mX⟩,E,I⟩;refine CL 2 E I (Mo I mX) λa w E I=>?_;refine RT 2 E I ?_;refine⟨rfl,?_⟩;have zh:p.first.toNat=fi:=by omega
 rw[fZ,ag ay,jW,zh,← Z1];exact I.sub
end
end
section
section
variable {W w:World}{L:List SP}{c cO cP q:Nat}{aq adP:Option Addr}{b:List UInt8}{g:Nat→Int}{p:Pr}{fr:Int}{bad:Bool}
def Jv (q:Nat)(g:Nat→Int)(bad:Bool):SP:=λh=>(dS g∧bad=false)∧aa q 296 (ints .i32 32 g) h
theorem Jv.open (I:U W w (Jv q g bad::L)):(dS g∧bad=false)∧U W w (aa q 296 (ints .i32 32 g)::L):=by
 obtain⟨_,h1,h2⟩:=I.jM (ι:=Unit) (p:=λ_=>dS g∧bad=false) (B:=λ_=>aa q 296 (ints .i32 32 g)) (λh ⟨h1,h2⟩=>⟨(),h1,h2⟩);exact⟨h1,h2⟩
theorem Jv.close (I:U W w (aa q 296 (ints .i32 32 g)::L))(h1:dS g):U W w (Jv q g false::L) :=
 U.shut (M:=[_]) I (λ_ ⟨_,_,_,a,b,x,_⟩=>⟨⟨h1,rfl⟩,a _ _ x⟩)
theorem Z2 {c:Nat}(hc:c<32)(I:U W w (Jv q g bad::L)):Calls prog 351 (List.toArray [pt q,.int .i64 c]) w λe w'=>e=.returned (.int .i32 (g c))∧U W w' (Jv q g bad::L):=by
 have hj:=Jv.open I;clear I;obtain⟨⟨h1,rfl⟩,I⟩:=hj;refine EN func351 ntmps351 rfl rfl λa E=>?_;refine RN 8 E I λa E=>?_;refine SS E (ae E (I.bz (fV _ hc))) λa E=>?_;refine RT 1 E I ?_;exact⟨rfl,Jv.close I h1⟩
theorem Z3 {c:Nat}{v:Int}(hc:c<32)(hv:ds v)(I:U W w (Jv q g bad::L)):Calls prog 352 (List.toArray [pt q,.int .i64 c,.int .i32 v]) w λe w' =>
   ∃ (g':Nat→Int) (fv:Bool),e=.returned (.tuple #[])∧((fv=true∧g'=g)∨(fv=false∧bad=false∧g'=ck g c v))∧U W w' (Jv q g' fv::L):=by
 have hj:=Jv.open I;clear I;obtain⟨⟨h1,rfl⟩,I⟩:=hj;refine EN func352 ntmps352 rfl rfl λa E=>?_;refine ST 6 E I (λa w E I=>?_) (hlt:=(by rw[dj];exact hc));rw[ints_set]at I;refine RT 0 E I ?_;exact⟨ck g c v,false,rfl,.inr ⟨rfl,rfl,rfl⟩,Jv.close I (n2 h1 hv)⟩
theorem Z4:yE W 294 ⟨q,0,none⟩ 351 352 (Jv q) where
 oV:=λad w=>by kernel_rfl
 oW:=(by kernel_rfl)
 AZ:=λad w=>by kernel_rfl
 wu:=(by kernel_rfl)
 ok:=λw L g bad h=>(Jv.open h).1.1
 get:=λw L g bad c hc h=>Z2 hc h
 set:=λw L g bad c v hc hv h=>Z3 hc hv h
theorem MH (I:U W w (aA W p aq cO::L))(a6:dm p)(aH:p.title.size≤1000000000)(hg:dS g)(hb:b.length≤1099511627776)(hp:∀ w',U W w' L→aX w' adP b.length b) :
   Calls prog 137 #[.agg (bO p aq cO).toArray,.agg (ints .i32 32 g).toArray,.int .i64 fr,.slice adP b.length cP] w λe w'=>e=.returned (.agg (ints .i32 32 (e7 p fr b g)).toArray)∧U W w' (aA W p aq cO::L):=by
 refine EN func137 ntmps137 rfl rfl λa E=>?_;refine BX 1 E I λb4 a w E I=>?_;change U W w (aa b4 45 (bO p aq cO)::_) at I;refine BX 0 E I λb5 a w E I=>?_;refine AL 0 E I λb8 a w E I=>?_;change U W w (aa b8 183 (ints .i32 32 (λ_=>0))::_) at I;refine RN 2 E I λa E=>?_;refine SK (bw E rfl (I0 E Ty.Sf Ty.t296 (cs:=ints .i32 32 g) rfl) rfl ?_);clear E a;intro a E;refine BX 0 E I λGp a w E I=>?_;refine RN 7 E I λa E=>?_;replace I:=Jv.close (I.jZ Gp) hg;refine j3 0 E I (KE (M:=Z4 (q:=Gp)) (L:=aa b8 183 (ints .i32 32 (λ_=>0))::L) (I.sub (M:=Jv Gp g false::aA W p aq cO::aa b8 183 (ints .i32 32 (λ_=>0))::L)) a6 aH hb (λw' hw=>hp w' hw.tail)) λg' fv MG a w E ⟨o0,I⟩=>?_;refine RN 1 E I λa E=>?_;have hj:=Jv.open I;clear I;obtain⟨⟨hg',rfl⟩,I⟩:=hj;obtain⟨_,rfl⟩:=o0 rfl;refine SA 4 E I λa w E I=>?_;refine RT 0 E I ?_;exact⟨rfl,I.sub⟩
theorem MJ {P:List (List UInt8)}{zs:List ee}(I:U W w (aA W p aq cO::L))(a6:dm p)(aH:p.title.size≤1000000000)(hg:dS g)(hP:P.length≤65536∧∀ b∈P,b.length≤1099511627776)(hf:-1099511627776≤fr∧fr≤1099511627776)(hz:zs.map (·.2.2)=P)(hp:∀ w',U W w' L→iM w' adP zs) :
   Calls prog 280 #[.agg (bO p aq cO).toArray,.agg (ints .i32 32 g).toArray,.int .i64 fr,.slice adP P.length cP] w λe w'=>e=.returned (.agg (ints .i32 32 (foldI p fr g P)).toArray)∧U W w' (aA W p aq cO::L):=by
 have iL:zs.length=P.length:=by rw[← hz,a8]
 have tB:=hP.1;refine EN func280 ntmps280 rfl rfl λa E=>?_;refine BX 1 E I λb4 a w E I=>?_;change U W w (aa b4 45 (bO p aq cO)::_) at I;refine BX 0 E I λb5 a w E I=>?_;refine AL 0 E I λb8 a w E I=>?_;change U W w (aa b8 183 (ints .i32 32 (λ_=>0))::_) at I;refine RN 5 E I λa E=>?_;refine aN (λμ a w=>∃ (i:Nat) (g':Nat→Int),(μ=P.length-i∧i≤P.length∧dS g'∧foldI p fr g P=foldI p (fr+i) g' (P.drop i))∧Fr a 27 [(2,.int .i64 fr),(4,pt b4),(5,pt b5),(8,pt b8),(11,.slice adP P.length cP),(12,.int .i64 P.length),(13,.int .i64 i)]∧U W w (aa b5 183 (ints .i32 32 g')::aa b4 45 (bO p aq cO)::aa b8 183 (ints .i32 32 (λ_=>0))::aA W p aq cO::L)) (P.length) (⟨0,g,⟨by simp,by simp,hg,by simp⟩,E.ab [2,4,5,8,11,12,13],I.sub⟩) ?_;clear E I;rintro μ a w ⟨i,g',⟨rfl,hi,eK,mj⟩,E,I⟩;refine IF 3 E I (λaj a E=>?_) λaj a E=>?_
 ·
  obtain⟨z,kQ⟩:∃ z,zs[i]?=some z:=⟨_,aD (by omega)⟩;have qM:P[i]?=some z.2.2:=by rw[← hz,bl,kQ];rfl
  obtain⟨bp,op,rfl,c9⟩:=(hp _ (I.sub (M:=L))).1 (by omega);have Gq:=c9 i (aM z) (by rw[bl,kQ];rfl);have qj:=hP.2 _ (bF qM);have E2:foldI p fr g P=foldI p (fr+(i+1:Nat)) (e7 p (fr+i) z.2.2 g') (P.drop (i+1)):=by
   rw[mj,kH (by omega),foldI];have:P[i]'(by omega)=z.2.2:=by rw[aD (by omega)]at qM;exact p4 qM
   rw[this]
   congr 1
   omega
  refine RN 4 E I λa E=>?_;refine SS E (ae E (Gq)) λa E=>?_;rw[aM]at E;refine CL 8 E I (MH (I.pick (aA W p aq cO)) a6 aH eK qj (λw' hw=>(hp w' hw.sub).2 z (bF kQ))) λa w E I=>?_;refine SA 0 E I λa w E I=>?_;refine RN 2 E I λa E=>?_;exact⟨P.length-(i+1),by omega,i+1,_,⟨rfl,by omega,L9 a6 eK,E2⟩,E.ab [2,4,5,8,11,12,13],I.sub⟩
 refine RN 1 E I λa E=>?_;obtain rfl:i=P.length:=by omega
 rw[List.drop_length,foldI]at mj;refine SA 1 E I λa w E I=>?_;refine RT 0 E I ?_;exact⟨by rw[mj],I.sub⟩
end
end
section
theorem q6 (k:IntKind)(m:Nat)(x:Int):List.replicate m (Value.int k x)=ints k m (λ_=>x):=by
 apply ext_getElem (by simp[ints,fn]);intro i h1 h2;simp[ints,fn]
abbrev dq (b:Gs)(adT:Option Addr)(cT:Nat):List Value:=[.int .i64 b.kind,.int .i64 b.order,.slice adT b.table.length cT]
theorem Z5 (l:List UInt8)(k:Nat):bc (l.drop k)=(bc l).drop k:=by rw[bc,bc,map_drop]
section
variable {W w:World}{L:List SP}{n c m cT:Nat}{ad adT:Option Addr}{past:List UInt8}{b:Gs}
theorem zi (I:U W w L):Calls prog 98 #[.agg (dq b adT cT).toArray] w λe w'=>∃ r:Bool,e=.returned (.bool r)∧(r=true↔cY b)∧U W w' L:=by
 refine EN func98 ntmps98 rfl rfl λa E=>?_;refine BX 1 E I λb1 a w E I=>?_;change U W w (aa b1 186 (dq b adT cT)::_) at I;refine IF 8 E I (λaj a E=>?_) λaj a E=>?_
 ·
  refine BY 5 E I (λbX a E=>?_) λbX a E=>?_
  ·
   refine RT 6 E I ?_;exact⟨_,rfl,(by rw[cr,cY];omega),I.sub⟩
  refine RT 6 E I ?_;exact⟨_,rfl,⟨λh=>(by cases h),λh=>by rw[cY]at h;exfalso;omega⟩,I.sub⟩
 refine IF 3 E I (λao a E=>?_) λao a E=>?_
 ·
  refine BY 5 E I (λbX a E=>?_) λbX a E=>?_
  ·
   refine BY 5 E I (λfh a E=>?_) λfh a E=>?_
   ·
    refine RT 6 E I ?_;exact⟨_,rfl,(by rw[cr,cY];omega),I.sub⟩
   refine RT 6 E I ?_;exact⟨_,rfl,⟨λh=>(by cases h),λh=>by rw[cY]at h;exfalso;omega⟩,I.sub⟩
  refine RT 11 E I ?_;exact⟨_,rfl,⟨λh=>(by cases h),λh=>by rw[cY]at h;exfalso;omega⟩,I.sub⟩
 refine IF 3 E I (λay a E=>?_) λay a E=>?_
 ·
  refine BY 5 E I (λbX a E=>?_) λbX a E=>?_
  ·
   refine BY 6 E I (λr5 a E=>?_) λr5 a E=>?_
   ·
    refine RT 6 E I ?_;exact⟨_,rfl,(by rw[cr,cY];omega),I.sub⟩
   refine RT 6 E I ?_;exact⟨_,rfl,⟨λh=>(by cases h),λh=>by rw[cY]at h;exfalso;omega⟩,I.sub⟩
  refine RT 12 E I ?_;exact⟨_,rfl,⟨λh=>(by cases h),λh=>by rw[cY]at h;exfalso;omega⟩,I.sub⟩
 refine RT 2 E I ?_;exact⟨_,rfl,⟨λh=>(by cases h),λh=>by rw[cY]at h;exfalso;omega⟩,I.sub⟩
theorem MK (I:U W w L)(hb:cY b)(eo:past.length≤4000)(j9:past.length≤c)(hp:∀ w',U W w' L→aX w' ad past.length past) :
   Calls prog 324 #[.agg (dq b adT cT).toArray,.slice ad past.length c] w λe w'=>e=.returned (.agg (ints .i64 256 (gM b past)).toArray)∧U W w' L:=by
 simp only[cY]at hb;refine EN func324 ntmps324 rfl rfl λa E=>?_;refine BX 1 E I λb2 a w E I=>?_;change U W w (aa b2 186 (dq b adT cT)::_) at I;refine AL 0 E I λb4 a w E I=>?_;rw[q6]at I;refine AL 1 E I λb5 a w E I=>?_;rw[q6]at I;refine BY 6 E I (λbX a E=>?_) λbX a E=>?_
 ·
  refine SA 9 E I λa w E I=>?_;refine RT 0 E I ?_;exact⟨by rw[gM,ag (by omega)],I.sub⟩
 refine IF 6 E I (λaj a E=>?_) λaj a E=>?_
 ·
  refine SA 2 E I λa w E I=>?_;refine RT 0 E I ?_;exact⟨by rw[gM,ak (by omega),y5 (by omega)],I.sub⟩
 refine RN 1 E I λa E=>?_;have b0:b.kind=2:=by omega
 obtain⟨o,ho⟩:∃ o:Nat,b.order=(o:Int):=⟨b.order.toNat,by omega⟩;rw[dq,ho]at I;have ea:o≤past.length:=by omega
 have lj:gM b past=hs o past past.length:=by rw[gM,ak b0,ho,c8]
 refine RN 6 E I λa E=>?_;rw[show ((past.length:Nat):Int)-(o:Int)=((past.length-o:Nat):Int) from by omega]at E;refine RN 7 E I λa E=>?_;rw[show past.length-(past.length-o)=o from by omega]at E;have Z6:o≤3:=by omega
 refine aN (λμ a w=>∃ (i:Nat),(μ=past.length-i∧o≤i∧i≤past.length)∧Fr a 52 [(1,.slice ad past.length c),(2,pt b2),(4,pt b4),(5,pt b5),(6,.slice (ft ad (past.length-o) c 1) o (c-(past.length-o))),(7,.int .i64 i)]∧U W w (aa b5 320 (ints .i64 256 (hs o past i))::aa b4 320 (ints .i64 256 (λ_=>0))::aa b2 186 [.int .i64 b.kind,.int .i64 o,.slice adT b.table.length cT]::L)) (past.length-o) (⟨o,⟨rfl,a7 _,ea⟩,E.ab [1,2,4,5,6,7],by rw[y5 (a7 _)];exact I.sub⟩) ?_;clear E I;rintro μ a w ⟨i,⟨rfl,Gr,hi⟩,E,I⟩;refine IF 6 E I (λao a E=>?_) λao a E=>?_
 ·
  have aI:i<past.length:=by omega
  have nS:=BG o past i past[i].toNat;have qY:=lk past[i];refine RN 7 E I λa E=>?_;rw[show ((i:Nat):Int)-(o:Int)=((i-o:Nat):Int) from by omega]at E;refine RN 2 E I λa E=>?_;rw[show i-(i-o)=o from by omega]at E;refine CL 1 E I (LD I ((hp _ I.tail.tail.tail).y6 (lo:=i-o) (n:=o) (by omega) j9) (by have:=(hp _ I.tail.tail.tail).y6 (lo:=past.length-o) (n:=o) (by omega) j9;exact this)) λa w E I=>?_;refine IF 0 E I (λay a E=>?_) λay a E=>?_
  ·
   obtain⟨bb,oo,rfl,hr⟩:=(hp _ I.tail.tail.tail).get (by omega);refine RN 3 E I λa E=>?_;refine SS E (ae E (hr i _ (dU aI))) λa E=>?_;refine RN 1 E I λa E=>?_;refine SS E (ae E (I.bz (fV _ qY))) λa E=>?_;refine ST 2 E I (λa w E I=>?_) (hlt:=(by rw[dj];omega));rw[ints_set]at I;refine RN 3 E I λa E=>?_;exact⟨past.length-(i+1),by omega,i+1,⟨rfl,by omega,by omega⟩,E.ab [1,2,4,5,6,7],by
    rw[show hs o past (i+1)=λj=>if j=past[i].toNat then hs o past i past[i].toNat+1 else hs o past i j from by
     rw[hs,ak ⟨Gr,by rw[y4,← ay,gi (l:=past.drop (past.length-o)) (by rw[c7];omega)]⟩,bm,aD aI];rfl]
    exact I.sub⟩
  refine RN 3 E I λa E=>?_;exact⟨past.length-(i+1),by omega,i+1,⟨rfl,by omega,by omega⟩,E.ab [1,2,4,5,6,7],by
   rw[show hs o past (i+1)=hs o past i from by
    rw[hs,ag (λh=>by
     have h2:=h.2;rw[y4,← gi (l:=past.drop (past.length-o)) (i:=o) (by rw[c7];omega)]at h2;rw[h2]at ay;cases ay)]]
   exact I.sub⟩
 obtain rfl:i=past.length:=by omega
 refine SA 2 E I λa w E I=>?_;refine RT 0 E I ?_;exact⟨by rw[lj],I.sub⟩
theorem ML (I:U W w L)(eo:past.length≤4000)(hp:∀ w',U W w' L→aX w' ad past.length past) :
   Calls prog 326 #[.slice ad past.length c] w λe w'=>e=.returned (.int .u8 ((iB past).toNat:Nat))∧U W w' L:=by
 refine EN func326 ntmps326 rfl rfl λa E=>?_;refine IF 7 E I (λaj a E=>?_) λaj a E=>?_
 ·
  refine RT 2 E I ?_;exact⟨by rw[iB,gG (l:=past) (by omega)];rfl,I⟩
 refine RN 1 E I λa E=>?_;obtain⟨bb,oo,rfl,hr⟩:=(hp _ I).get (by omega);refine RN 4 E I λa E=>?_;rw[show ((past.length:Nat):Int)-1=((past.length-1:Nat):Int) from by omega]at E;refine RN 1 E I λa E=>?_;refine SS E (ae E (hr (past.length-1) _ (dU (by omega)))) λa E=>?_;refine RT 1 E I ?_;refine⟨?_,I⟩;have h0:past≠[]:=λh=>by rw[h]at aj;simp at aj
 rw[iB,getLastD_eq_getLast?,List.getLast?_eq_getElem?,aD (by omega)];rfl
theorem MM (I:U W w L)(hb:cY b)(eo:past.length≤4000)(j9:past.length≤c)(hp:∀ w',U W w' L→aX w' ad past.length past)(ht:∀ w',U W w' L→aX w' adT b.table.length b.table) :
   Calls prog 325 #[.agg (dq b adT cT).toArray,.slice ad past.length c] w λe w'=>e=.returned (.int .u8 ((nE b past).toNat:Nat))∧U W w' L:=by
 have lK:=hb;simp only[cY]at lK;refine EN func325 ntmps325 rfl rfl λa E=>?_;refine BX 1 E I λb2 a w E I=>?_;change U W w (aa b2 186 (dq b adT cT)::_) at I;refine IF 6 E I (λaj a E=>?_) λaj a E=>?_
 ·
  refine bR 1 [5,6,7] [0,2,3,4,3001,1005,1006,1007,8,1009,10] E I λa w E I hH hC=>?_;obtain⟨Z7,Z8,rfl,pX⟩:=(ht _ I.tail).get (by omega);have Gt:past.length%b.table.length<b.table.length:=Nat.mod_lt _ (by omega);refine RH 8 E I hH hC λa E=>?_;rw[oG]at E;refine RH 1 E I hH hC λa E=>?_;refine SS E (ae E (pX (past.length%b.table.length) _ (ln Gt))) λa E=>?_;refine RH 1 E I hH hC λa E=>?_;refine RT 0 E I ?_;exact⟨by rw[nE,ak (by omega)],I.sub⟩
 refine CL 3 E I (MK I hb eo j9 (λw' hw=>hp w' hw.tail)) λa w E I=>?_;refine AL 0 E I λb5 a w E I=>?_;rw[q6]at I;refine SA 0 E I λa w E I=>?_;refine CL 2 E I (ML I eo (λw' hw=>hp w' hw.tail.tail)) λa w E I=>?_;refine RN 5 E I λa E=>?_;have Gu:=lk (iB past);refine aN (λμ a w=>∃ (i:Nat),(μ=256-i∧i≤256)∧Fr a 41 [(2,pt b2),(5,pt b5),(6,.int .u8 (my (gM b past) (iB past).toNat i:Nat)),(27,.agg (ints .i64 256 (gM b past)).toArray),(28,.int .i64 i)]∧U W w (aa b5 320 (ints .i64 256 (gM b past))::aa b2 186 (dq b adT cT)::L)) (256) (⟨0,⟨rfl,by omega⟩,E.ab [2,5,6,27,28],I.sub⟩) ?_;clear E I;rintro μ a w ⟨i,⟨rfl,hi⟩,E,I⟩;refine IF 3 E I (λao a E=>?_) λao a E=>?_
 ·
  have oN:=FP (w:=gM b past) Gu (i:=i) hi;have BW:i<256:=by omega
  refine RN 3 E I λa E=>?_;refine SS E (sX E underlying320 underlying3 rfl Ty.t3 (by omega) (fV _ BW)) λa E=>?_;refine RN 6 E I λa E=>?_;refine SS E (ae E (I.bz (fV _ oN))) λa E=>?_;refine IF 1 E I (λay a E=>?_) λay a E=>?_
  ·
   refine SX 1 E I (by rw[wrap_u8];omega) λa E=>?_;refine RN 3 E I λa E=>?_;exact⟨256-(i+1),by omega,i+1,⟨rfl,by omega⟩,by rw[show my (gM b past) (iB past).toNat (i+1)=i from by rw[my,ak (by omega)]];exact E.ab [2,5,6,27,28],I.sub⟩
  refine RN 2 E I λa E=>?_;exact⟨256-(i+1),by omega,i+1,⟨rfl,by omega⟩,by rw[show my (gM b past) (iB past).toNat (i+1)=my (gM b past) (iB past).toNat i from by rw[my,ag (by omega)]];exact E.ab [2,5,6,27,28],I.sub⟩
 obtain rfl:i=256:=by omega
 have oN:=FP (w:=gM b past) Gu (i:=256) (by omega);refine RT 3 E I ?_;exact⟨by rw[nE,ag (by omega),UInt8.toNat_ofNat',kY (by omega)],I.sub⟩
theorem Z9 (I:U W w L)(eo:past.length≤4000)(hp:∀ w',U W w' L→aX w' ad past.length past) :
   Calls prog 329 #[.slice ad past.length c] w λe w'=>∃ av c',e=.returned (.slice av past.length c')∧U W w' (Sl 5 1 av past.length c' (bc past)::L):=by
 obtain⟨h1,h2,h3⟩:=hp _ I;cases pV:ad with
 | none =>
  have h0:=h2 pV;rw[gG (l:=past) h0];refine EN func329 ntmps329 rfl rfl λa E=>?_;refine RN 6 E I λa E=>?_;replace E:=E.ed 4;refine RT 3 E I ?_;exact⟨_,_,rfl,I.bM _ _ _⟩
 | some a =>
  rw[← pV];refine EN func329 ntmps329 rfl rfl λa E=>?_;refine RN 6 E I λa E=>?_;rw[show ad.isNone=false from by rw[pV];rfl]at E;replace E:=E.aP 4;refine RN 2 E I λa E=>?_;refine uC E rfl I underlying22 Ty.t5 rfl λb5 a w E I ho=>?_;clear ho;replace I:U W w (Sl 5 1 (some ⟨b5,0,none⟩) 0 0 []::L):=I.tail.bM _ _ _;refine RN 1 E I λa E=>?_;refine g8 E rfl I underlying22 Ty.t5 rfl rfl (by decide) (λh0=>(hp _ I.tail).get h0) (by rw[dy];omega) (ez _) (by omega) λs7 rJ a w E I=>?_;rw[nil_append,eG]at I;rw[eG]at E;refine RT 1 E I ?_;exact⟨_,_,rfl,I⟩
theorem aaa {to:Int}(I:U W w L)(hb:cY b)(eo:past.length≤1001)(j9:past.length≤c)(hn:m≤1000)(hp:∀ w',U W w' L→aX w' ad past.length past)(ht:∀ w',U W w' L→aX w' adT b.table.length b.table) :
   Calls prog 311 #[.agg (dq b adT cT).toArray,.slice ad past.length c,.int .i64 m] w λe w'=>∃ av c',e=.returned (.slice av m c')∧U W w' (Sl 5 1 av m c' (bc (kl b past m))::L):=by
 refine EN func311 ntmps311 rfl rfl λa E=>?_;refine BX 1 E I λb3 a w E I=>?_;change U W w (aa b3 186 (dq b adT cT)::_) at I;refine bh 4 E I (zi I) λr a w E ⟨hr,I⟩=>?_;rw[hr.2 hb]at E;refine RN 1 E I λa E=>?_;replace E:=E.aP 10;refine aZ 3 E I (Z9 I (by omega) (λw' hw=>hp w' hw.tail)) λlX et a w E I=>?_;refine RN 6 E I λa E=>?_;rw[show min (max (m:Int) 0) 1000=(m:Int) from by omega]at E;refine RN 1 E I λa E=>?_;refine aN (λμ a w=>∃ (i:Nat) (ad2:Option Addr) (c2:Nat),(μ=m-i∧i≤m)∧Fr a 29 [(1,.slice ad past.length c),(3,pt b3),(7,.slice ad2 (en b past i).length c2),(15,.int .i64 m),(16,.int .i64 i)]∧U W w (Sl 5 1 ad2 (en b past i).length c2 (bc (en b past i))::aa b3 186 (dq b adT cT)::L)) (m) (⟨0,lX,et,⟨rfl,by omega⟩,E.ab [1,3,7,15,16],I⟩) ?_;clear E I;rintro μ a w ⟨i,ad2,c2,⟨rfl,hi⟩,E,I⟩;refine IF 3 E I (λao a E=>?_) λao a E=>?_
 ·
  have cn:=iC b past i;have Gv:=(I.sl ad2).2;refine CL 4 E I (MM I hb (by omega) Gv (λw' hw=>hw.cu ad2 (en b past i) rfl rfl) (λw' hw=>ht w' hw.tail.tail)) λa w E I=>?_;refine RN 0 E I λa E=>?_;refine cp E rfl I underlying22 Ty.t5 rfl rfl rfl rfl (by decide) (by decide) λu1 a w E I ho=>?_;clear ho;refine RN 0 E I λa E=>?_;refine cQ E rfl I underlying22 Ty.t5 rfl rfl I.ai rfl (ez [nE b (en b past i)]) (by decide) (by decide) (by omega) λgz gA a w E I=>?_;rw[show bc (en b past i)++_=bc (en b past (i+1)) from (fM _ [_]).symm,show (en b past i).length+1=(en b past (i+1)).length from by rw[iC,iC];omega]at I;rw[show (en b past i).length+1=(en b past (i+1)).length from by rw[iC,iC];omega]at E;refine RN 3 E I λa E=>?_;exact⟨m-(i+1),by omega,i+1,gz,gA,⟨rfl,by omega⟩,E.ab [1,3,7,15,16],I.sub⟩
 obtain rfl:i=m:=by omega
 have cn:=iC b past i;refine RT 6 E I ?_;have h1:=I.Dh ad2 past.length (en b past i).length (by omega) (a7 _);rw[show (en b past i).length-past.length=i from by omega,fW,fW,← Z5,gi (by rw[dy,c7];omega),show List.drop past.length (en b past i)=kl b past i from rfl]at h1;refine⟨_,_,by rw[show (en b past i).length-past.length=i from by omega],h1.sub⟩
end
end
end Go.Proofs.YteoldcfapaiobaaGreat
