/- What a player knows, in memory: core.May, New, Conf, Queue, Head, Closed, Press, note, hold, Mark, Marks, Events. -/
import Derived.Test.YteoldcfapaiobaaGreatE08Pkt4
import Derived.Test.YteoldcfapaiobaaGreatE05Vm
import Derived.Test.YteoldcfapaiobaaGreatE06Ref
import Derived.ChangeSame
import Derived.Test.YteoldcfapaiobaaGreatE01Row
namespace Go.Proofs.YteoldcfapaiobaaGreat
open Tryz
open List (length_range take_succ_cons nil_append ext_getElem getElem_set_self take_length set_set map_drop mem_singleton range_succ getElem?_set_ne getElem?_set_self length_filter_le replicate_succ' getLastD_eq_getLast?)
open Go.RowKit
set_option linter.unusedVariables false
set_option linter.unusedSimpArgs false
set_option maxRecDepth 10000
set_option synthInstance.maxSize 4000
set_option synthInstance.maxHeartbeats 400000
section
abbrev iG (p:Pe):List Value:=[.int .i64 p.has,.int .i64 p.heard,.int .i64 p.frame,.int .u32 p.sum,.bool p.apart]
theorem jH (p:Pe):(iG p).length=5:=rfl
theorem YN (p:Pe):∀ v∈iG p,v.oneCell'=true:=by
 intro v hv;simp[iG]at hv;rcases hv with rfl | rfl | rfl | rfl | rfl <;> rfl
def c0 (l:List Nat):List Value:=l.map λs:Nat=>Value.int .u32 (s:Int)
structure pK where
 cb:Nat
 qb:Nat
 aB:List Nat
 bp:Nat
 op:Nat
structure oG where
 cP:Nat
 cj:Option Addr
 cM:Nat
 adE:Option Addr
 cE:Nat
abbrev ix (k:Ks)(B:pK)(A:oG):List Value:=[.int .i64 k.n,.int .i64 k.me,.int .i64 k.id,.int .i64 k.aJ,.int .i64 k.bt,.int .i64 k.bf,.int .i64 k.order,.int .i64 k.cv,.int .i64 k.workers,.int .i64 k.room,
 pt B.qb,.slice (some ⟨B.bp,B.op,none⟩) k.ps.length A.cP,.slice A.cj k.mr.length A.cM,.slice A.adE k.ev.length A.cE,.int .i64 k.now,.bool k.cl]
def az (B:pK)(k:Ks):SP:=λh=>∃ A:oG,cn [aa B.cb 257 (ix k B A),Sl 259 5 (some ⟨B.bp,B.op,none⟩) k.ps.length A.cP (rows iG k.ps),Sl 100 1 A.cj k.mr.length A.cM (c0 k.mr),Sl 135 1 A.adE k.ev.length A.cE (k.ev.map cA),Qu B.qb B.aB k.ls] h
section
variable {W w:World}{L L' R:List SP}{n c cb qb i:Nat}{ad:Option Addr}{aB:List Nat}{k:Ks}{A:oG}{B:pK}{cf:Cf}{e:j6}
theorem az.open (I:U W w (az B k::L)):∃ A:oG,U W w (aa B.cb 257 (ix k B A)::Sl 259 5 (some ⟨B.bp,B.op,none⟩) k.ps.length A.cP (rows iG k.ps)::Sl 100 1 A.cj k.mr.length A.cM (c0 k.mr)::Sl 135 1 A.adE k.ev.length A.cE (k.ev.map cA)::Qu B.qb B.aB k.ls::L):=by
 obtain⟨A,_,I⟩:=I.jy (ι:=oG) (p:=λ_=>True) (B:=λA h=>cn [aa B.cb 257 (ix k B A),Sl 259 5 (some ⟨B.bp,B.op,none⟩) k.ps.length A.cP (rows iG k.ps),Sl 100 1 A.cj k.mr.length A.cM (c0 k.mr),Sl 135 1 A.adE k.ev.length A.cE (k.ev.map cA),Qu B.qb B.aB k.ls] h) λ_ ⟨A,h⟩=>⟨A,trivial,h⟩;exact⟨A,I.open (M:=[_,_,_,_,_]) λ_ h=>h⟩
theorem az.close (I:U W w (aa B.cb 257 (ix k B A)::Sl 259 5 (some ⟨B.bp,B.op,none⟩) k.ps.length A.cP (rows iG k.ps)::Sl 100 1 A.cj k.mr.length A.cM (c0 k.mr)::Sl 135 1 A.adE k.ev.length A.cE (k.ev.map cA)::Qu B.qb B.aB k.ls::L)):U W w (az B k::L) :=
 U.shut (M:=[_,_,_,_,_]) I λ_ h=>⟨A,h⟩
theorem az.mk' (I:U W w L)(A:oG)[kk:fD L (aa B.cb 257 (ix k B A)::Sl 259 5 (some ⟨B.bp,B.op,none⟩) k.ps.length A.cP (rows iG k.ps)::Sl 100 1 A.cj k.mr.length A.cM (c0 k.mr)::Sl 135 1 A.adE k.ev.length A.cE (k.ev.map cA)::Qu B.qb B.aB k.ls::L') R]:U W w (az B k::L'):=az.close (A:=A) I.sub
theorem az.fold (I:U W w L)(B:pK)(k:Ks)(A:oG)[kk:fD L [aa B.cb 257 (ix k B A),Sl 259 5 (some ⟨B.bp,B.op,none⟩) k.ps.length A.cP (rows iG k.ps),Sl 100 1 A.cj k.mr.length A.cM (c0 k.mr),Sl 135 1 A.adE k.ev.length A.cE (k.ev.map cA),Qu B.qb B.aB k.ls] R]:U W w (az B k::R):=az.close (A:=A) (I.perm kk.perm)
theorem oH {x lo hi:Int}(I:U W w L):Calls prog 167 #[.int .i64 x,.int .i64 lo,.int .i64 hi] w λe w'=>∃ r:Bool,e=.returned (.bool r)∧(r=true↔fx x lo hi)∧U W w' L:=by
 refine EN func167 ntmps167 rfl rfl λa E=>?_;refine BY 7 E I (λbX a E=>?_) λbX a E=>?_
 ·
  refine RT 5 E I ?_;exact⟨_,rfl,⟨λh=>⟨bX,of_decide_eq_true h⟩,λh=>dg h.2⟩,I⟩
 refine RT 5 E I ?_;exact⟨_,rfl,⟨λh=>(by cases h),λh=>by have:=h.1;omega⟩,I⟩
theorem La (I:U W w L):Calls prog 130 #[.agg (bT cf).toArray] w λe w'=>∃ r:Bool,e=.returned (.bool r)∧(r=true↔eR cf)∧U W w' L:=by
 refine EN func130 ntmps130 rfl rfl λa E=>?_;refine BX 1 E I λb1 a w E I=>?_;change U W w (aa b1 28 (bT cf)::_) at I;refine RN 1 E I λa E=>?_;refine cc (M:=λa w=>∃ z:Bool,(z=true↔(fx cf.n 2 8∧fx cf.me 0 (cf.n-1)∧fx cf.id 0 1099511627776))∧Fr a 73 [(1,pt b1),(3,.bool z)]∧U W w (aa b1 28 (bT cf)::L)) ?_ ?_
 ·
  refine bh 2 E I (oH I) λr1 a w E ⟨e9,I⟩=>?_;refine BY 1 E I (λbX a E=>?_) λbX a E=>?_
  ·
   refine RN 4 E I λa E=>?_;refine SK (bo E (b7 E rfl (s:=8)) (zd E) rfl ?_);clear E a;intro a E;have m7:IntKind.i64.wrap (cf.n-1)=cf.n-1:=gi (by have:=(e9.1 bX).1;omega) (by have:=(e9.1 bX).2;omega);rw[m7]at E;refine bh 0 E I (oH I) λr2 a w E ⟨eX,I⟩=>?_;refine BY 2 E I (λkQ a E=>?_) λkQ a E=>?_
   ·
    refine BY 5 E I (λub a E=>?_) λub a E=>?_
    ·
     refine RN 5 E I λa E=>?_;exact⟨_,⟨λh=>⟨e9.1 bX,eX.1 kQ,ub,of_decide_eq_true h⟩,λh=>dg h.2.2.2⟩,E.ab [1,3],I⟩
    refine RN 5 E I λa E=>?_;exact⟨_,⟨λh=>(by cases h),λh=>by have:=h.2.2.1;omega⟩,E.ab [1,3],I⟩
   refine RN 10 E I λa E=>?_;exact⟨_,⟨λh=>(by cases h),λh=>by have:=eX.2 h.2.1;rw[kQ]at this;cases this⟩,E.ab [1,3],I⟩
  refine RN 18 E I λa E=>?_;exact⟨_,⟨λh=>(by cases h),λh=>by have:=e9.2 h.1;rw[bX]at this;cases this⟩,E.ab [1,3],I⟩
 clear E;(try clear I);rintro a w ⟨z1,cU,E,I⟩;refine cc (M:=λa w=>∃ z:Bool,(z=true↔(fx cf.aJ 0 8∧fx cf.bt 1 16∧fx cf.bf 1 3∧fx cf.order 0 3))∧Fr a 73 [(1,pt b1),(3,.bool z1),(4,.bool z)]∧U W w (aa b1 28 (bT cf)::L)) ?_ ?_
 ·
  refine bh 2 E I (oH I) λr1 a w E ⟨e9,I⟩=>?_;refine BY 1 E I (λbX a E=>?_) λbX a E=>?_
  ·
   refine bh 2 E I (oH I) λr2 a w E ⟨eX,I⟩=>?_;refine BY 2 E I (λfa a E=>?_) λfa a E=>?_
   ·
    refine bh 2 E I (oH I) λr3 a w E ⟨j1,I⟩=>?_;refine BY 2 E I (λm6 a E=>?_) λm6 a E=>?_
    ·
     refine bh 2 E I (oH I) λWO a w E ⟨qo,I⟩=>?_;refine RN 2 E I λa E=>?_;exact⟨_,⟨λh=>⟨e9.1 bX,eX.1 fa,j1.1 m6,qo.1 h⟩,λh=>qo.2 h.2.2.2⟩,E.ab [1,3,4],I⟩
    refine RN 5 E I λa E=>?_;exact⟨_,⟨λh=>(by cases h),λh=>by have:=j1.2 h.2.2.1;rw[m6]at this;cases this⟩,E.ab [1,3,4],I⟩
   refine RN 10 E I λa E=>?_;exact⟨_,⟨λh=>(by cases h),λh=>by have:=eX.2 h.2.1;rw[fa]at this;cases this⟩,E.ab [1,3,4],I⟩
  refine RN 15 E I λa E=>?_;exact⟨_,⟨λh=>(by cases h),λh=>by have:=e9.2 h.1;rw[bX]at this;cases this⟩,E.ab [1,3,4],I⟩
 clear E;(try clear I);rintro a w ⟨z2,eN,E,I⟩;refine BY 3 E I (λmY a E=>?_) λmY a E=>?_
 ·
  refine BY 3 E I (λdz a E=>?_) λdz a E=>?_
  ·
   refine BY 4 E I (λfa a E=>?_) λfa a E=>?_
   ·
    have Fe:cf.order=0∨cf.bf=2:=.inl fa;refine bh 8 E I (oH I) λr1 a w E ⟨e9,I⟩=>?_;refine BY 2 E I (λpG a E=>?_) λpG a E=>?_
    ·
     refine bh 2 E I (oH I) λr2 a w E ⟨eX,I⟩=>?_;refine BY 2 E I (λuy a E=>?_) λuy a E=>?_
     ·
      refine bh 2 E I (oH I) λr3 a w E ⟨j1,I⟩=>?_;refine RT 2 E I ?_;exact⟨_,rfl,⟨λh=>⟨cU.1 mY,eN.1 dz,Fe,e9.1 pG,eX.1 uy,j1.1 h⟩,λh=>j1.2 h.2.2.2.2.2⟩,I.sub⟩
     refine RT 5 E I ?_;exact⟨_,rfl,⟨λh=>(by cases h),λh=>by have:=eX.2 h.2.2.2.2.1;rw[uy]at this;cases this⟩,I.sub⟩
    refine RT 10 E I ?_;exact⟨_,rfl,⟨λh=>(by cases h),λh=>by have:=e9.2 h.2.2.2.1;rw[pG]at this;cases this⟩,I.sub⟩
   refine BY 6 E I (λkP a E=>?_) λkP a E=>?_
   ·
    have Fe:cf.order=0∨cf.bf=2:=.inr kP;refine bh 2 E I (oH I) λr1 a w E ⟨e9,I⟩=>?_;refine BY 2 E I (λpG a E=>?_) λpG a E=>?_
    ·
     refine bh 2 E I (oH I) λr2 a w E ⟨eX,I⟩=>?_;refine BY 2 E I (λuy a E=>?_) λuy a E=>?_
     ·
      refine bh 2 E I (oH I) λr3 a w E ⟨j1,I⟩=>?_;refine RT 2 E I ?_;exact⟨_,rfl,⟨λh=>⟨cU.1 mY,eN.1 dz,Fe,e9.1 pG,eX.1 uy,j1.1 h⟩,λh=>j1.2 h.2.2.2.2.2⟩,I.sub⟩
     refine RT 5 E I ?_;exact⟨_,rfl,⟨λh=>(by cases h),λh=>by have:=eX.2 h.2.2.2.2.1;rw[uy]at this;cases this⟩,I.sub⟩
    refine RT 10 E I ?_;exact⟨_,rfl,⟨λh=>(by cases h),λh=>by have:=e9.2 h.2.2.2.1;rw[pG]at this;cases this⟩,I.sub⟩
   refine RT 15 E I ?_;exact⟨_,rfl,⟨λh=>(by cases h),λh=>by have:=h.2.2.1;omega⟩,I.sub⟩
  refine RT 25 E I ?_;exact⟨_,rfl,⟨λh=>(by cases h),λh=>by have:=eN.2 h.2.1;rw[dz]at this;cases this⟩,I.sub⟩
 refine RT 28 E I ?_;exact⟨_,rfl,⟨λh=>(by cases h),λh=>by have:=cU.2 h.1;rw[mY]at this;cases this⟩,I.sub⟩
theorem YO (I:U W w L)(h:¬ eR cf):Calls prog 96 #[.agg (bT cf).toArray] w λe w'=>e=.returned (.tuple #[.pointer none,.int .i64 1])∧U W w' L:=by
 refine EN func96 ntmps96 rfl rfl λa E=>?_;refine BX 1 E I λb1 a w E I=>?_;change U W w (aa b1 28 (bT cf)::_) at I;refine bh 5 E I (La I) λr a w E ⟨hr,I⟩=>?_;rw[show r=false from by cases hh:r with | false=>rfl | true=>exact absurd (hr.1 hh) h]at E;refine RN 1 E I λa E=>?_;replace E:=E.eh 7;refine RT 4 E I ?_;exact⟨rfl,I.sub⟩
theorem Lb {n me aJ bt:Nat}{id bf order cv workers room:Int}(I:U W w L)(h:eR ⟨n,me,id,aJ,bt,bf,order,cv,workers,room⟩) :
   Calls prog 96 #[.agg (bT ⟨n,me,id,aJ,bt,bf,order,cv,workers,room⟩).toArray] w λe w'=>∃ B,e=.returned (.tuple #[pt B.cb,.int .i64 0])∧U W w' (az B (ff ⟨n,me,id,aJ,bt,bf,order,cv,workers,room⟩)::L):=by
 have hh:=h;obtain⟨⟨h1,h2,h3⟩,⟨h4,h5,h6,h7⟩,h8,h9,eI,jV⟩:=hh;simp only[fx] at *;refine EN func96 ntmps96 rfl rfl λa E=>?_;refine BX 1 E I λb1 a w E I=>?_;change U W w (aa b1 28 (bT ⟨n,me,id,aJ,bt,bf,order,cv,workers,room⟩)::_) at I;refine bh 5 E I (La I) λr a w E ⟨hr,I⟩=>?_;rw[hr.2 h]at E;refine RN 1 E I λa E=>?_;replace E:=E.aM 7;refine RN 1 E I λa E=>?_;refine cc (M:=λa w=>∃ cb qb aB,Fr a 34 [(1,pt b1),(4,pt cb)]∧U W w (aa cb 257 [.int .i64 n,.int .i64 me,.int .i64 id,.int .i64 aJ,.int .i64 bt,.int .i64 bf,.int .i64 order,.int .i64 cv,.int .i64 workers,.int .i64 room,pt qb,.slice none 0 0,.slice none 0 0,.slice none 0 0,.int .i64 0,.bool false]::Qu qb aB (List.replicate n (List.replicate aJ 0))::aa b1 28 (bT ⟨n,me,id,aJ,bt,bf,order,cv,workers,room⟩)::L)) ?_ ?_
 ·
  refine aV 0 (λw0 w'=>Rd w' b1 0 (bT ⟨n,me,id,aJ,bt,bf,order,cv,workers,room⟩)) [2,4,5] [1,3,3000,3002,1004,1005,6,1007,8] E I λa w E I hH=>?_;have hC:=hH.at w I.ai;refine RH 2 E I hH hC λa E=>?_;refine QH E (λw hc=>bS E underlying28 rfl Ty.t28 (hc)) hC λa E=>?_;simp only[bT]at E;refine RH 0 E I hH hC λa E=>?_;refine QH E (λw hc=>ae E (hc 0 _ rfl)) hC λa E=>?_;refine RH 0 E I hH hC λa E=>?_;refine SS E (ae E (hC 3 _ rfl)) λa E=>?_;refine RH 0 E I hH hC λa E=>?_;refine aY 0 E I (Yy (n:=n) (d:=aJ) I (by omega) (by omega)) λqb aB a w E I=>?_;replace hC:=hH.at w I.ai;refine RH 1 E I hH hC λa E=>?_;refine w6 E rfl I rfl λUJ a w E I ho=>?_;clear ho;refine RN 1 E I λa E=>?_;exact⟨_,qb,aB,E.ab [1,4],I⟩
 clear E;(try clear I);rintro a w ⟨cb,qb,aB,E,I⟩;refine RN 5 E I λa E=>?_;replace I:=I.bN 259 5 none;refine aO (λμ a w=>∃ (i:Nat) (ad:Option Addr) (c:Nat),(μ=n-i∧i≤n)∧Fr a 34 [(1,pt b1),(4,pt cb),(17,.int .i64 n),(18,.int .i64 i)]∧U W w (aa cb 257 [.int .i64 n,.int .i64 me,.int .i64 id,.int .i64 aJ,.int .i64 bt,.int .i64 bf,.int .i64 order,.int .i64 cv,.int .i64 workers,.int .i64 room,pt qb,.slice ad i c,.slice none 0 0,.slice none 0 0,.int .i64 0,.bool false]::Sl 259 5 ad i c (rows iG (List.replicate i (fy aJ)))::Qu qb aB (List.replicate n (List.replicate aJ 0))::aa b1 28 (bT ⟨n,me,id,aJ,bt,bf,order,cv,workers,room⟩)::L)) (n) (⟨0,none,0,⟨rfl,by omega⟩,E.ab [1,4,17,18],(I.perm (List.Perm.swap _ _ _):U W w (aa cb 257 _::Sl 259 5 none 0 0 []::_))⟩) ?_;clear E I;rintro μ a w ⟨i,ad,c,⟨rfl,hi⟩,E,I⟩;refine IF 3 E I (λao a E=>?_) λao a E=>?_
 ·
  refine bQ 1 [6,7,8] [0,1,2,3,5,3004,1006,1007,1008,1009,10,11,1012] E I λa w E I hH hC=>?_;refine RH 8 E I hH hC λa E=>?_;refine cr E rfl I underlying255 Ty.t259 rfl rfl rfl rfl (by decide) (by decide) λIe a w E I ho=>?_;replace hC:=hC.trans ho;clear ho;refine RH 0 E I hH hC λa E=>?_;refine cK E rfl I underlying255 Ty.t259 rfl rfl I.ai rfl (YN (fy aJ)) (by decide) (by decide) (by omega) λLc Ld a w E I=>?_;rw[show rows iG (List.replicate i (fy aJ))++_=rows iG (List.replicate (i+1) (fy aJ)) from by rw[replicate_succ',kj];rfl]at I;refine ST 2 E I (λa w E I=>?_);refine RN 2 E I λa E=>?_;exact⟨n-(i+1),by omega,i+1,Lc,Ld,⟨rfl,by omega⟩,E.ab [1,4,17,18],I.sub⟩
 obtain rfl:i=n:=by omega
 replace I:=I.bN 100 1 none;replace I:=I.bN 135 1 none;refine RT 4 E I ?_;obtain⟨bp,op,rfl,_⟩:=(I.pick (Sl 259 5 ad i c (rows iG (List.replicate i (fy aJ))))).bV ad (by omega);refine⟨⟨cb,qb,aB,bp,op⟩,rfl,?_⟩;refine az.close (A:=⟨c,none,0,none,0⟩) ?_;have hl:(ff ⟨i,me,id,aJ,bt,bf,order,cv,workers,room⟩).ps.length=i:=by simp[ff]
 rw[ix,hl];exact I.sub (M:=aa cb 257 [.int .i64 i,.int .i64 me,.int .i64 id,.int .i64 aJ,.int .i64 bt,.int .i64 bf,.int .i64 order,.int .i64 cv,.int .i64 workers,.int .i64 room,pt qb,.slice (some ⟨bp,op,none⟩) i c,.slice none 0 0,.slice none 0 0,.int .i64 0,.bool false]::Sl 259 5 (some ⟨bp,op,none⟩) i c (rows iG (List.replicate i (fy aJ)))::Sl 100 1 none 0 0 []::Sl 135 1 none 0 0 []::Qu qb aB (List.replicate i (List.replicate aJ 0))::L)
theorem Le (I:U W w (az B k::L)):Calls prog 292 #[pt B.cb] w λe w'=>e=.returned (.agg (bT (fe k)).toArray)∧U W w' (az B k::L):=by
 obtain⟨A,I⟩:=az.open I;refine EN func292 ntmps292 rfl rfl λa E=>?_;refine AL 1 E I λb2 a w E I=>?_;refine RN 4 E I λa E=>?_;replace E:=E.aM 4;refine SA 6 E I λa w E I=>?_;refine RT 0 E I ?_;exact⟨rfl,az.close I.tail⟩
theorem oI (I:U W w (az B k::L)):Calls prog 134 #[pt B.cb] w λe w'=>e=.returned (pt B.qb)∧U W w' (az B k::L):=by
 obtain⟨A,I⟩:=az.open I;refine EN func134 ntmps134 rfl rfl λa E=>?_;refine RN 6 E I λa E=>?_;replace E:=E.aM 4;refine RT 7 E I ?_;exact⟨rfl,az.close I⟩
theorem az.Ff (I:U W w (az B k::L)):∃ D:SP,U W w (Qu B.qb B.aB k.ls::D::L)∧∀ (w':World) (L':List SP) (kF:List (List UInt8)),U W w' (Qu B.qb B.aB kF::D::L')→U W w' (az B { k with ls:=kF }::L'):=by
 obtain⟨A,I⟩:=az.open I;refine⟨λh=>cn [aa B.cb 257 (ix k B A),Sl 259 5 (some ⟨B.bp,B.op,none⟩) k.ps.length A.cP (rows iG k.ps),Sl 100 1 A.cj k.mr.length A.cM (c0 k.mr),Sl 135 1 A.adE k.ev.length A.cE (k.ev.map cA)] h,?_,λw' L' kF I=>?_⟩
 ·refine U.perm (L:=(λh=>cn [aa B.cb 257 (ix k B A),Sl 259 5 (some ⟨B.bp,B.op,none⟩) k.ps.length A.cP (rows iG k.ps),Sl 100 1 A.cj k.mr.length A.cM (c0 k.mr),Sl 135 1 A.adE k.ev.length A.cE (k.ev.map cA)] h)::Qu B.qb B.aB k.ls::L) ?_ (List.Perm.swap _ _ _);exact U.shut (M:=[_,_,_,_]) I λ_ h=>h
 ·have h1:=(I.perm (List.Perm.swap _ _ _)).open (M:=[_,_,_,_]) λ_ h=>h;exact az.close (k:={ k with ls:=kF }) (A:=A) h1
theorem az.qu (I:U W w (az B k::L)):∃ D:SP,U W w (Qu B.qb B.aB k.ls::D::L)∧∀ (w':World) (L':List SP),U W w' (Qu B.qb B.aB k.ls::D::L')→U W w' (az B k::L'):=by
 obtain⟨D,h1,h2⟩:=az.Ff I;exact⟨D,h1,λw' L' h=>h2 w' L' k.ls h⟩
theorem s0 (I:U W w (az B k::L))(hk:WC k):Calls prog 275 #[pt B.cb] w λe w'=>e=.returned (.int .i64 (aD k))∧U W w' (az B k::L):=by
 have ek:k.me<k.ls.length:=by rw[hk.ls];exact hk.me
 refine EN func275 ntmps275 rfl rfl λa E=>?_;refine CL 4 E I (oI I) λa w E I=>?_;refine CL 1 E I (Le I) λa w E I=>?_;refine RN 0 E I λa E=>?_;refine SS E (H5 E underlying28 rfl underlying3 rfl rfl) λa E=>?_;obtain⟨D,I,hD⟩:=az.qu I;refine CL 0 E I (sY I ek) λa w E I=>?_;refine CL 0 E I (yl I ek) λa w E I=>?_;refine RT 1 E I ?_;exact⟨rfl,hD _ _ I⟩
theorem yo (I:U W w (az B k::L)):Calls prog 179 #[pt B.cb] w λe w'=>e=.returned (.bool k.cl)∧U W w' (az B k::L):=by
 obtain⟨A,I⟩:=az.open I;refine EN func179 ntmps179 rfl rfl λa E=>?_;refine RN 6 E I λa E=>?_;replace E:=E.aM 5;refine RT 6 E I ?_;exact⟨rfl,az.close I⟩
theorem Lf (I:U W w (az B k::L)):Calls prog 133 #[pt B.cb] w λe w'=>e=.returned (.int .i64 k.mr.length)∧U W w' (az B k::L):=by
 obtain⟨A,I⟩:=az.open I;refine EN func133 ntmps133 rfl rfl λa E=>?_;refine RN 6 E I λa E=>?_;replace E:=E.aM 4;refine RT 8 E I ?_;exact⟨rfl,az.close I⟩
theorem Fg (I:U W w (az B k::L))(he:sZ e)(hl:k.ev.length≤100):Calls prog 204 #[pt B.cb,.agg (bU e).toArray] w λr w'=>r=.returned (.tuple #[])∧U W w' (az B { k with ev:=k.ev++[e] }::L):=by
 obtain⟨A,I⟩:=az.open I;refine EN func204 ntmps204 rfl rfl λa E=>?_;refine BX 1 E I λb3 a w E I=>?_;change U W w (aa b3 102 (bU e)::_) at I;refine CL 2 E I (YI I he) λa w E I=>?_;refine AL 3 E I λb4 a w E I=>?_;refine SA 0 E I λa w E I=>?_;refine RN 3 E I λa E=>?_;replace E:=E.eh 11;refine bQ 1 [5,6] [0,1,2,3,3004,1005,1006,1007,8,9,1010] E I λa w E I hH hC=>?_;refine RH 6 E I hH hC λa E=>?_;refine cr E rfl I underlying90 Ty.t135 rfl rfl rfl rfl (by decide) (by decide) λsM a w E I ho=>?_;replace hC:=hC.trans ho;clear ho;refine RH 0 E I hH hC λa E=>?_;refine cK E rfl I underlying90 Ty.t135 rfl rfl I.ai rfl (by simpa using Fb e) (by decide) (by decide) (by omega) λAe Af a w E I=>?_;rw[show List.map cA k.ev++_=List.map cA (k.ev++[e]) from by rw[cW];rfl,show k.ev.length+1=(k.ev++[e]).length from by simp]at I;rw[show k.ev.length+1=(k.ev++[e]).length from by simp]at E;refine ST 2 E I (λa w E I=>?_);refine RT 0 E I ?_;exact⟨rfl,az.mk' (k:={ k with ev:=k.ev++[e] }) I { A with adE:=Ae,cE:=Af }⟩
structure rE (w:World)(B:pK)(k:Ks):Prop where
 cf:Rd w B.cb 0 [.int .i64 k.n,.int .i64 k.me,.int .i64 k.id,.int .i64 k.aJ,.int .i64 k.bt,.int .i64 k.bf,.int .i64 k.order,.int .i64 k.cv,.int .i64 k.workers,.int .i64 k.room,pt B.qb]
 now:w.cell? ⟨B.cb,14,none⟩=some (.int .i64 k.now)
 cl:w.cell? ⟨B.cb,15,none⟩=some (.bool k.cl)
 pe:∀ (i:Nat) (p:Pe),k.ps[i]?=some p→Rd w B.bp (B.op+i*5) (iG p)
 aff:∃ ad c,w.cell? ⟨B.cb,12,none⟩=some (.slice ad k.mr.length c)
 pl:∃ c,w.cell? ⟨B.cb,11,none⟩=some (.slice (some ⟨B.bp,B.op,none⟩) k.ps.length c)
theorem jo {α:Type}{f:α→List Value}{sz:Nat}(hf:∀ x,(f x).length=sz){l:List α}{i:Nat}{x:α}{b o:Nat}(h:Rd w b o (rows f l))(hx:l[i]?=some x):Rd w b (o+i*sz) (f x):=by
 obtain⟨hi,rfl⟩:=a2.1 hx;have h1:=h.part (i*sz) sz
 rwa [vh hf l i hi]at h1
theorem az.rd (I:U W w (az B k::L)):rE w B k:=by
 obtain⟨A,I⟩:=az.open I;refine⟨I.pX 11,I.bz rfl,I.bz rfl,λi p hp=>?_,⟨_,_,I.bz rfl⟩,⟨_,I.bz rfl⟩⟩;have hi:=(a2.1 hp).1;exact jo jH (I.cJ B.bp B.op (by omega)) hp
end
theorem AU {l:List Nat}{i:Nat}(h:i<l.length):(c0 l)[i]?=some (.int .u32 (l.getD i 0:Nat)):=by
 rw[c0,bm,aE h,bn,aE h];rfl
theorem uz {k:Ks}{i:Nat}(h:i<k.ps.length):k.ps[i]?=some (au k i):=by
 rw[au,bn,aE h];rfl
theorem Lg {k:Ks}{i:Nat}(h:i<k.ps.length):k.ps[i]=au k i:=by
 rw[au,bn,aE h];rfl
section
variable {W w:World}{L L':List SP}{n c i:Nat}{ad:Option Addr}{k:Ks}{A:oG}{B:pK}{x:UInt8}
theorem Lh (I:U W w (az B k::L))(hk:WC k):Calls prog 175 #[pt B.cb] w λr w'=>r=.returned (.tuple #[])∧U W w' (az B (kZ k)::L):=by
 have eB:k.ps.length=k.n:=hk.ps;obtain⟨A0,I⟩:=az.open I;refine EN func175 ntmps175 rfl rfl λa E=>?_;refine RN 7 E I λa E=>?_;replace I:=az.close I;refine aO (λμ a w=>∃ (i:Nat),(μ=k.ps.length-i∧i≤k.ps.length)∧Fr a 71 [(0,pt B.cb),(8,.int .i64 k.ps.length),(9,.int .i64 i)]∧U W w (az B (gp k i)::L)) (k.ps.length) (⟨0,⟨rfl,by omega⟩,E.ab [0,8,9],I⟩) ?_;clear E I;rintro μ a w ⟨i,⟨rfl,hi⟩,E,I⟩;refine IF 3 E I (λaj a E=>?_) λaj a E=>?_
 ·
  have aH:i<k.ps.length:=by omega
  have jR:=hk.gp (i:=i) (by omega);have dM:=AO k i;have eM:gp k (i+1)=kY (gp k i) i:=rfl;rw[kY]at eM;generalize gp k i=kk at I jR dM eM;rw[← dM]at aH;have iv:=jR.pI (i:=i) (by rw[← jR.ps];exact aH);have e4:=uz aH;have Ki:i<8:=by have:=jR.n;have:=jR.ps;omega
  obtain⟨A,I⟩:=az.open I;have fb:=jo jH (I.cJ B.bp B.op (by omega)) e4;refine RN 14 E I λa E=>?_;have fb:Rd w.drew B.bp (B.op+i*5) (iG (au kk i)):=fb;have jF:Rd w.drew B.cb 0 (ix kk B A):=I.drew.ai;refine qU 0 (Old w.drew) [13,14,31,35,36,37,38] [0,1,2,1003,4,5,6,7,8,10,11,12,3009,1013,1014,15,16,17,18,19,20,1021,22,23,24,25,26,28,29,30,32,33,34,3027,3031,1035,1036,1037,1038,39,40] E I λa E=>?_;replace I:=I.drew;have hH:=Hd.gy I;have hC:=Old.refl w.drew;generalize w.drew=w at I hH hC fb jF ⊢;refine RH 3 E I hH hC λa E=>?_;refine SS E (ae E (fb 2 _ rfl)) λa E=>?_;refine RH 2 E I hH hC λa E=>?_;refine E.by (s:=23) (λiR E=>?_) (λiR E=>?_)
  ·
   refine RH 35 E I hH hC λa E=>?_;refine RN 3 E I λa E=>?_;rw[ag (λh=>by have:=h.2.1;omega)]at eM;exact⟨k.ps.length-(i+1),by omega,i+1,⟨rfl,by omega⟩,E.ab [0,8,9],by rw[eM];exact az.close I⟩
  refine RH 6 E I hH hC λa E=>?_;refine QH E (λw hc=>ae E (hc.cell (fb 2 _ rfl))) hC λa E=>?_;refine RH 0 E I hH hC λa E=>?_;refine bo E (b7 E rfl (s:=23)) (ae E (jF 12 _ rfl)) rfl λa E=>?_;refine RH 4 E I hH hC λa E=>?_;refine E.by (s:=35) (λYP E=>?_) (λYP E=>?_)
  ·
   refine RH 23 E I hH hC λa E=>?_;refine RN 3 E I λa E=>?_;rw[ag (λh=>by have:=h.2.2.1;omega)]at eM;exact⟨k.ps.length-(i+1),by omega,i+1,⟨rfl,by omega⟩,E.ab [0,8,9],by rw[eM];exact az.close I⟩
  refine RH 3 E I hH hC λa E=>?_;refine bo E (b7 E rfl (s:=35)) (ae E (fb 4 _ rfl)) rfl λa E=>?_;refine RH 2 E I hH hC λa E=>?_;refine E.by (s:=41) (λmv E=>?_) (λmv E=>?_)
  ·
   refine RH 17 E I hH hC λa E=>?_;refine RN 3 E I λa E=>?_;rw[ag (λh=>by have:=h.1;rw[mv]at this;cases this)]at eM;exact⟨k.ps.length-(i+1),by omega,i+1,⟨rfl,by omega⟩,E.ab [0,8,9],by rw[eM];exact az.close I⟩
  have l9:(au kk i).frame-1<kk.mr.length:=by omega
  obtain⟨Fh,Fi,ek,lA⟩:=I.bV A.cj (by omega);have yp:=jF 12 _ rfl;rw[ek]at yp;refine RH 9 E I hH hC λa E=>?_;refine QH E (λw hc=>ae E (hc.cell (fb 3 _ rfl))) hC λa E=>?_;refine QH E (λw hc=>ae E (hc.cell (yp))) hC λa E=>?_;refine RH 0 E I hH hC λa E=>?_;refine bo E (b7 E rfl (s:=41)) (ae E (fb 2 _ rfl)) rfl λa E=>?_;refine RH 1 E I hH hC λa E=>?_;rw[show (((au kk i).frame:Nat):Int)-1=(((au kk i).frame-1:Nat):Int) from by omega]at E;refine RH 1 E I hH hC λa E=>?_;refine bo E (b7 E rfl (s:=41)) (ae E (lA ((au kk i).frame-1) _ (AU l9))) rfl λa E=>?_;refine RH 2 E I hH hC λa E=>?_;refine IF 0 E I (λao a E=>?_) λao a E=>?_
  ·
   refine RN 2 E I λa E=>?_;rw[ag (λh=>by have:=h.2.2.2;omega)]at eM;exact⟨k.ps.length-(i+1),by omega,i+1,⟨rfl,by omega⟩,E.ab [0,8,9],by rw[eM];exact az.close I⟩
  refine RN 1 E I λa E=>?_;rw[ak ⟨mv,by omega,by omega,by omega⟩]at eM;refine RN 3 E I λa E=>?_;refine l5 (off:=B.op) (k:=i*5+4) E rfl I Ty.t4 rfl (by omega) (by rw[ja jH];omega) λa w E I=>?_;rw[p7 jH kk.ps { au kk i with apart:=true } aH (by decide) (by rw[Lg aH];rfl)]at I;have gF:(kk.ps.set i { au kk i with apart:=true }).length=kk.ps.length:=bu;rw[show ix kk B A=ix { kk with ps:=kk.ps.set i { au kk i with apart:=true } } B A from by simp only[ix,gF],← gF]at I;replace I:=az.mk' (L':=L) (B:=B) (k:={ kk with ps:=kk.ps.set i { au kk i with apart:=true } }) I A;refine RN 5 E I λa E=>?_;refine SS E (ae E (((az.rd I).pe i { au kk i with apart:=true } (by rw[getElem?_set_self aH])) 2 _ rfl)) λa E=>?_;refine CL 1 E I (Fg (e:=(3,i,(au kk i).frame)) I ⟨by simp,by simp,by have:=jR.n;have:=jR.ps;show i<8;omega,iv.2.2.1,.inl rfl⟩ (by have:=jR.kD;show kk.ev.length≤100;omega)) λa w E I=>?_;refine RN 2 E I λa E=>?_;exact⟨k.ps.length-(i+1),by omega,i+1,⟨rfl,by omega⟩,E.ab [0,8,9],by rw[eM];exact I⟩
 refine RT 0 E I ?_;obtain rfl:i=k.ps.length:=by omega
 exact⟨rfl,I⟩
theorem YQ {s:Nat}(I:U W w (az B k::L))(hk:WC k)(hl:k.mr.length<1000)(xM:s<4294967296):Calls prog 138 #[pt B.cb,.int .u32 s] w λr w'=>r=.returned (.tuple #[])∧U W w' (az B (lu k s)::L):=by
 have yq : WC { k with mr := k.mr ++ [s] } := { hk with
     mr:=by show (k.mr++[s]).length≤1000;rw[aL,jl];omega
     rB:=λx hx=>by
      rcases eP.1 hx with hx | hx
      ·exact hk.rB x hx
      ·rw[mem_singleton]at hx;rw[hx];exact xM }
 obtain⟨A,I⟩:=az.open I;refine EN func138 ntmps138 rfl rfl λa E=>?_;refine RN 5 E I λa E=>?_;replace E:=E.aM 6;refine RN 7 E I λa E=>?_;rw[bq (by omega)]at E;refine RN 8 E I λa E=>?_;refine cr E rfl I underlying69 Ty.t100 rfl rfl rfl rfl (by decide) (by decide) λI1 a w E I ho=>?_;clear ho;refine RN 0 E I λa E=>?_;refine cK E rfl I underlying69 Ty.t100 rfl rfl I.ai rfl (by simp[Value.oneCell']) (by decide) (by decide) (by omega) λqY qZ a w E I=>?_;rw[show c0 k.mr++_=c0 (k.mr++[s]) from by rw[c0,c0,cW];rfl,show k.mr.length+1=(k.mr++[s]).length from by simp]at I;rw[show k.mr.length+1=(k.mr++[s]).length from by simp]at E;refine ST 2 E I (λa w E I=>?_);refine RN 0 E I λa E=>?_;replace I:=az.mk' (B:=B) (L':=L) (k:={ k with mr:=k.mr++[s] }) I { A with cj:=qY,cM:=qZ };refine CL 1 E I (Lh I yq) λa w E I=>?_;refine RT 0 E I ?_;exact⟨rfl,by rw[lu,ak hl];exact I⟩
theorem YR (I:U W w (az B k::L)):Calls prog 296 #[pt B.cb] w λr w'=>∃ ad c,r=.returned (.slice ad k.ev.length c)∧U W w' (Sl 135 1 ad k.ev.length c (k.ev.map cA)::az B { k with ev:=[] }::L):=by
 obtain⟨A,I⟩:=az.open I;refine EN func296 ntmps296 rfl rfl λa E=>?_;refine RN 6 E I λa E=>?_;replace E:=E.aM 5;refine ST 11 E I (λa w E I=>?_);refine RT 3 E I ?_;refine⟨A.adE,A.cE,rfl,?_⟩;replace I:=I.bN 135 1 none;refine U.perm (L:=az B { k with ev:=[] }::Sl 135 1 A.adE k.ev.length A.cE (k.ev.map cA)::L) ?_ (List.Perm.swap _ _ _);refine az.close (A:=⟨A.cP,A.cj,A.cM,none,0⟩) ?_;exact I.sub (M:=aa B.cb 257 [.int .i64 k.n,.int .i64 k.me,.int .i64 k.id,.int .i64 k.aJ,.int .i64 k.bt,.int .i64 k.bf,.int .i64 k.order,.int .i64 k.cv,.int .i64 k.workers,.int .i64 k.room,pt B.qb,.slice (some ⟨B.bp,B.op,none⟩) k.ps.length A.cP,.slice A.cj k.mr.length A.cM,.slice none 0 0,.int .i64 k.now,.bool k.cl]::Sl 259 5 (some ⟨B.bp,B.op,none⟩) k.ps.length A.cP (rows iG k.ps)::Sl 100 1 A.cj k.mr.length A.cM (c0 k.mr)::Sl 135 1 none 0 0 []::Qu B.qb B.aB k.ls::Sl 135 1 A.adE k.ev.length A.cE (k.ev.map cA)::L)
theorem YS (I:U W w (az B k::L))(hk:WC k):Calls prog 297 #[pt B.cb,.int .u8 (x.toNat:Nat)] w λr w'=>r=.returned (.int .i64 (cZ x k).1)∧U W w' (az B (cZ x k).2::L):=by
 have ek:k.me<k.ls.length:=by rw[hk.ls];exact hk.me
 have gS:=hk.lx;have fp:aU k.ls≤aD k:=hk.nc;refine EN func297 ntmps297 rfl rfl λa E=>?_;refine CL 5 E I (yo I) λa w E I=>?_;refine IF 1 E I (λaj a E=>?_) λaj a E=>?_
 ·
  refine RT 2 E I ?_;exact⟨by rw[cZ,ak aj],by rw[cZ,ak aj];exact I⟩
 have cp:¬ k.cl=true:=by rw[aj];decide
 refine CL 2 E I (s0 I hk) λa w E I=>?_;refine IF 2 E I (λao a E=>?_) λao a E=>?_
 ·
  refine RT 2 E I ?_;exact⟨by rw[cZ,ag cp,ak (by omega)],by rw[cZ,ag cp,ak (by omega)];exact I⟩
 refine aV 1 (λw0 w'=>rE w' B k) [1,6,7,12] [0,2,3,4,8,9,10,11,3005,3012,1001,1006,1007,13,14] E I λa w E I hH=>?_;have hC:=hH.at w (az.rd I);refine RH 8 E I hH hC λa E=>?_;refine QH E (λw hc=>ae E (hc.cf 10 _ rfl)) hC λa E=>?_;refine QH E (λw hc=>ae E (hc.cf 4 _ rfl)) hC λa E=>?_;refine RH 0 E I hH hC λa E=>?_;refine CL 0 E I (s0 I hk) λa w E I=>?_;replace hC:=hH.at w (az.rd I);obtain⟨D,I,hD⟩:=az.qu I;refine RH 0 E I hH hC λa E=>?_;refine CL 0 E I (rA I hk.k0 (by rw[hk.ls];exact hk.n.2)) λa w E I=>?_;replace hC:=hH.at w (az.rd (hD _ _ I));replace I:=hD _ _ I;refine RH 3 E I hH hC λa E=>?_;refine IF 0 E I (λay a E=>?_) λay a E=>?_
 ·
  refine RT 2 E I ?_;exact⟨by rw[cZ,ag cp,ag (by omega),ak (by rw[aw];omega)],by rw[cZ,ag cp,ag (by omega),ak (by rw[aw];omega)];exact I⟩
 refine aV 1 (λw0 w'=>rE w' B k) [8] [0,1,2,4,5,6,7,10,3003,1008,1009,1011,12] E I λa w E I hH=>?_;have hC:=hH.at w (az.rd I);refine RH 8 E I hH hC λa E=>?_;refine QH E (λw hc=>ae E (hc.cf 10 _ rfl)) hC λa E=>?_;refine RH 0 E I hH hC λa E=>?_;refine SS E (ae E (hC.cf 1 _ rfl)) λa E=>?_;obtain⟨D,I,hD⟩:=az.Ff I;refine RH 0 E I hH hC λa E=>?_;refine CL 0 E I (sY I ek) λa w E I=>?_;refine CL 0 E I (Yt I ek (by simp only[aD]at ao;omega)) λa w E I=>?_;refine RN 1 E I λa E=>?_;refine RT 0 E I ?_;have uA:cZ x k=(0,{ k with ls:=k.ls.set k.me (k.ls.getD k.me []++[x]) }):=by rw[cZ,ag cp,ag (by omega),ag (by rw[aw];omega)]
 rw[uA];exact⟨rfl,hD _ _ _ I⟩
end
def mB (l:List Nat):List Value:=l.map λi:Nat=>Value.int .i64 (i:Int)
theorem Fj {l:List Nat}{i j:Nat}(h:l[i]?=some j):(mB l)[i]?=some (.int .i64 (j:Int)):=by rw[mB,bm,h];rfl
def k5 (k:Ks)(i:Nat):List Nat:=(List.range i).filter (·≠k.me)
theorem Fk (k:Ks)(i:Nat):k5 k (i+1)=if i=k.me then k5 k i else k5 k i++[i]:=by
 rw[k5,range_succ,List.filter_append];by_cases h:i=k.me
 ·rw[ak h];simp[h,k5]
 ·rw[ag h];simp[h,k5]
theorem Li (k:Ks):∀ i,(k5 k i).length≤i:=λi=>by
 have:=length_filter_le (λx=>decide (x≠k.me)) (List.range i);rw[length_range]at this;exact this
abbrev Mx:=Option Addr×Nat×Ml
abbrev b9 (x:Mx):List Value:=[.int .i64 x.2.2.1,.int .i64 x.2.2.2.1,.slice x.1 x.2.2.2.2.length x.2.1]
theorem oJ (x:Mx):(b9 x).length=3:=rfl
theorem YT (x:Mx):∀ v∈b9 x,v.oneCell'=true:=by
 intro v hv;simp[b9]at hv;rcases hv with rfl | rfl | rfl <;> rfl
def ca (x:Mx):SP:=Sl 5 1 x.1 x.2.2.2.2.length x.2.1 (bc x.2.2.2.2)
def cm (e:TypeId)(ad:Option Addr)(n c:Nat)(ms:List Ml):SP:=λh=>∃ xs:List Mx,(xs.map (·.2.2)=ms∧ms.length=n)∧cn [Sl e 3 ad n c (rows b9 xs),ah ca xs] h
section
variable {W w:World}{L L':List SP}{n c i e to:Nat}{ad adP:Option Addr}{k:Ks}{A:oG}{B:pK}{x:UInt8}{ms:List Ml}{p:Pk}
theorem cm.open (I:U W w (cm e ad n c ms::L)):∃ xs:List Mx,xs.map (·.2.2)=ms∧ms.length=n∧U W w (Sl e 3 ad n c (rows b9 xs)::ah ca xs::L):=by
 obtain⟨xs,⟨h1,h2⟩,I⟩:=I.jy (ι:=List Mx) (p:=λxs=>xs.map (·.2.2)=ms∧ms.length=n) (B:=λxs h=>cn [Sl e 3 ad n c (rows b9 xs),ah ca xs] h) λ_ ⟨xs,h1,h2⟩=>⟨xs,h1,h2⟩;exact⟨xs,h1,h2,I.open (M:=[_,_]) λ_ h=>h⟩
theorem cm.close {xs:List Mx}(I:U W w (Sl e 3 ad n c (rows b9 xs)::ah ca xs::L))(h1:xs.map (·.2.2)=ms)(h2:ms.length=n):U W w (cm e ad n c ms::L) :=
 U.shut (M:=[_,_]) I λ_ h=>⟨xs,⟨h1,h2⟩,h⟩
theorem cm.nil (I:U W w L):U W w (cm e none 0 0 []::L):=cm.close (xs:=[]) (U.bN (U.iN I) e 3 none) rfl rfl
theorem Fl (I:U W w (az B k::L))(hk:WC k):Calls prog 315 #[pt B.cb] w λr w'=>∃ ad c,r=.returned (.slice ad (bG k).length c)∧U W w' (Sl 3 1 ad (bG k).length c (mB (bG k))::az B k::L):=by
 have gD:=hk.ps;have hn:=hk.n;obtain⟨A,I⟩:=az.open I;refine EN func315 ntmps315 rfl rfl λa E=>?_;refine RN 12 E I λa E=>?_;rw[gD]at E;replace I:=az.close I;replace I:=I.bN 3 1 none;refine aO (λμ a w=>∃ (i:Nat) (ad:Option Addr) (c:Nat),(μ=k.n-i∧i≤k.n)∧Fr a 26 [(0,pt B.cb),(3,.slice ad (k5 k i).length c),(9,.int .i64 k.n),(10,.int .i64 i)]∧U W w (Sl 3 1 ad (k5 k i).length c (mB (k5 k i))::az B k::L)) (k.n) (⟨0,none,0,⟨rfl,by omega⟩,E.ab [0,3,9,10],I⟩) ?_;clear E I;rintro μ a w ⟨i,ad,c,⟨rfl,hi⟩,E,I⟩;refine IF 3 E I (λaj a E=>?_) λaj a E=>?_
 ·
  have dV:=Li k i;have lB:=Fk k i;refine RN 10 E I λa E=>?_;refine SS E (ae E (((az.rd I.tail).cf 1 _ rfl))) λa E=>?_;refine IF 1 E I (λao a E=>?_) λao a E=>?_
  ·
   rw[ag (by omega)]at lB;refine RN 2 E I λa E=>?_;refine cr E rfl I underlying53 Ty.t3 rfl rfl rfl rfl (by decide) (by decide) λuc a w E I ho=>?_;clear ho;refine RN 0 E I λa E=>?_;refine cK E rfl I underlying53 Ty.t3 rfl rfl I.ai rfl (by simp[Value.oneCell']) (by decide) (by decide) (by omega) λgq gr a w E I=>?_;rw[show mB (k5 k i)++_=mB (k5 k (i+1)) from by rw[lB,mB,mB,cW];rfl,show (k5 k i).length+1=(k5 k (i+1)).length from by rw[lB,aL];rfl]at I;rw[show (k5 k i).length+1=(k5 k (i+1)).length from by rw[lB,aL];rfl]at E;refine RN 3 E I λa E=>?_;exact⟨k.n-(i+1),by omega,i+1,gq,gr,⟨rfl,by omega⟩,E.ab [0,3,9,10],I.sub⟩
  rw[ak (by omega)]at lB;refine RN 2 E I λa E=>?_;exact⟨k.n-(i+1),by omega,i+1,ad,c,⟨rfl,by omega⟩,by rw[lB];exact E.ab [0,3,9,10],by rw[lB];exact I⟩
 refine RT 3 E I ?_;obtain rfl:i=k.n:=by omega
 exact⟨ad,c,rfl,I⟩
def s3 (k:Ks)(to:Nat)(p:Pk):Pk:={ p with aW:=k.me,to:=to,id:=k.id }
theorem Lj (I:U W w (az B k::L))(lU:p.sum<4294967296)(hp:∀ w',U W w' (az B k::L)→aX w' adP p.al.length p.al) :
   Calls prog 316 #[pt B.cb,.agg (dJ p adP c).toArray,.int .i64 to] w λr w'=>∃ av c',r=.returned (.agg (b9 (av,c',(k.me,to,aR (s3 k to p)))).toArray)∧U W w' (ca (av,c',(k.me,to,aR (s3 k to p)))::az B k::L):=by
 refine EN func316 ntmps316 rfl rfl λa E=>?_;refine BX 1 E I λb4 a w E I=>?_;simp only[dJ]at I;refine AL 0 E I λcH a w E I=>?_;refine aV 1 (λw0 w'=>rE w' B k) [10,12,13,14] [0,1,2,3,5,6,7,8,9,3004,11,3010,1012,1013,1014,15,1016] E I λa w E I hH=>?_;have hC:=hH.at w (az.rd (I.pick (az B k)));refine RH 9 E I hH hC λa E=>?_;refine QH E (λw hc=>ae E (hc.cf 1 _ rfl)) hC λa E=>?_;refine RH 1 E I hH hC λa E=>?_;refine QH E (λw hc=>ae E (hc.cf 2 _ rfl)) hC λa E=>?_;refine RH 0 E I hH hC λa E=>?_;refine ST 0 E I (λa w E I=>?_);replace hC:=hH.at w (az.rd (I.pick (az B k)));refine RH 1 E I hH hC λa E=>?_;refine ST 0 E I (λa w E I=>?_);replace hC:=hH.at w (az.rd (I.pick (az B k)));refine RH 1 E I hH hC λa E=>?_;refine ST 0 E I (λa w E I=>?_);refine aV 1 (λw0 w'=>Rd w' b4 0 (dJ (s3 k to p) adP c)) [3,4,5] [0,2,3001,3003,1004,1005,6,1007] E I λa w E I hH=>?_;have hC:=hH.at w (I.ai (b:=b4));refine RH 2 E I hH hC λa E=>?_;refine QH E (λw hc=>ae E (hc 1 _ rfl)) hC λa E=>?_;refine QH E (λw hc=>ae E (hc 2 _ rfl)) hC λa E=>?_;refine RH 0 E I hH hC λa E=>?_;refine SS E (bS E underlying203 rfl Ty.t203 (hC)) λa E=>?_;refine RH 0 E I hH hC λa E=>?_;refine aY 0 E I (Kt (p:=s3 k to p) (ad:=adP) (c:=c) I lU (λw' hw=>hp w' hw.sub)) λad2 c2 a w E I=>?_;replace hC:=hH.at w (I.ai (b:=b4));refine RH 1 E I hH hC λa E=>?_;refine SA 0 E I λa w E I=>?_;refine RT 0 E I ?_;exact⟨ad2,c2,rfl,I.sub (M:=Sl 5 1 ad2 (aR (s3 k to p)).length c2 (bc (aR (s3 k to p)))::az B k::L)⟩
theorem Ll {l:List Nat}(h:0<l.length):l.getD (l.length-1) 0=l.getLastD 0:=by
 rw[getLastD_eq_getLast?,List.getLast?_eq_getElem?,bn]
theorem YU (k:Ks)(to:Nat):s3 k to ⟨1,0,0,0,(au k to).has,(k.ls.getD to []).length,k.mr.length,k.mr.getLastD 0,((k.ls.getD k.me []).drop (au k to).has).take 32⟩=dK k to:=rfl
set_option maxHeartbeats 1000000 in
theorem YV (I:U W w (az B k::L))(hk:WC k)(s4:to<k.n):Calls prog 319 #[pt B.cb,.int .i64 to] w λr w'=>∃ av c',r=.returned (.agg (b9 (av,c',(k.me,to,aR (dK k to)))).toArray)∧U W w' (ca (av,c',(k.me,to,aR (dK k to)))::az B k::L):=by
 have ek:k.me<k.ls.length:=by rw[hk.ls];exact hk.me
 have eK:to<k.ls.length:=by rw[hk.ls];exact s4
 have YW:to<k.ps.length:=by rw[hk.ps];exact s4
 have iv:=hk.pI s4;have l9:=hk.lW hk.me;have e4:=uz YW;have hn:=hk.n;have Lm:=hk.mr;obtain⟨A,I⟩:=az.open I;refine EN func319 ntmps319 rfl rfl λa E=>?_;refine AL 1 E I λb4 a w E I=>?_;refine RN 0 E I λa E=>?_;refine cc (M:=λa w=>∃ b5:Nat,Fr a 62 [(0,pt B.cb),(1,.int .i64 to),(4,pt b4),(5,pt b5)]∧U W w (aa b5 203 [.int .i64 1,.int .i64 0,.int .i64 0,.int .i64 0,.int .i64 (au k to).has,.slice none 0 0,.int .i64 (k.ls.getD to []).length,.int .i64 k.mr.length,.int .u32 0]::aa b4 124 [.int .i64 0,.int .i64 0,.slice none 0 0]::aa B.cb 257 (ix k B A)::Sl 259 5 (some ⟨B.bp,B.op,none⟩) k.ps.length A.cP (rows iG k.ps)::Sl 100 1 A.cj k.mr.length A.cM (c0 k.mr)::Sl 135 1 A.adE k.ev.length A.cE (k.ev.map cA)::Qu B.qb B.aB k.ls::L)) ?_ ?_
 ·
  refine aV 0 (λw0 w'=>Rd w' B.cb 0 (ix k B A)∧Rd w' B.bp (B.op+to*5) (iG (au k to))) [11,13,14,18,19,21] [0,1,2,4,8,9,10,12,15,16,17,3003,5,6,3007,3011,3018,3019,2013,2014,20,1021,1022] E I λa w E I hH=>?_;have hC:=hH.at w ⟨I.ai (b:=B.cb),jo jH (I.cJ B.bp B.op (by omega)) e4⟩;refine RH 11 E I hH hC λa E=>?_;refine QH E (λw hc=>ae E (hc.1 11 _ rfl)) hC λa E=>?_;refine RH 2 E I hH hC λa E=>?_;refine QH E (λw hc=>ae E (hc.2 0 _ rfl)) hC λa E=>?_;refine QH E (λw hc=>ae E (hc.1 10 _ rfl)) hC λa E=>?_;refine QH E (λw hc=>ae E (hc.1 12 _ rfl)) hC λa E=>?_;refine RH 1 E I hH hC λa E=>?_;refine DN [(13,[2014,20,1021,1022]),(21,[1013,1014,20,1022])] (by kernel_rfl) rfl ⟨⟨_,rfl,?_⟩,⟨_,rfl,?_⟩,trivial⟩
  ·
   refine RH 0 E I hH hC λa E=>?_;refine CL 0 E I (sY (I.pick (Qu B.qb B.aB k.ls)) eK) λa w E I=>?_;replace hC:=hH.at w ⟨I.ai (b:=B.cb),jo jH (I.cJ B.bp B.op (by omega)) e4⟩;refine RH 0 E I hH hC λa E=>?_;refine DN [(14,[20,1021,1022]),(21,[1014,20,1022])] (by kernel_rfl) rfl ⟨⟨_,rfl,?_⟩,⟨_,rfl,?_⟩,trivial⟩
   ·
    refine RH 0 E I hH hC λa E=>?_;refine CL 0 E I (yl (I.pick (Qu B.qb B.aB k.ls)) eK) λa w E I=>?_;replace hC:=hH.at w ⟨I.ai (b:=B.cb),jo jH (I.cJ B.bp B.op (by omega)) e4⟩;refine RH 1 E I hH hC λa E=>?_;refine eV E rfl I Ty.t203 rfl λb5 a w E I ho=>?_;clear ho;replace hC:=hH.at w ⟨I.ai (b:=B.cb),jo jH (I.cJ B.bp B.op (by omega)) e4⟩;refine RH 0 E I hH hC λa E=>?_;refine SA 0 E I λa w E I=>?_;refine RN 0 E I λa E=>?_;exact⟨_,E.ab [0,1,4,5],I.sub⟩
   refine RH 0 E I hH hC λa E=>?_;refine eV E rfl I Ty.t203 rfl λb5 a w E I ho=>?_;clear ho;replace hC:=hH.at w ⟨I.ai (b:=B.cb),jo jH (I.cJ B.bp B.op (by omega)) e4⟩;refine RH 0 E I hH hC λa E=>?_;refine CL 0 E I (yl (I.pick (Qu B.qb B.aB k.ls)) eK) λa w E I=>?_;replace hC:=hH.at w ⟨I.ai (b:=B.cb),jo jH (I.cJ B.bp B.op (by omega)) e4⟩;refine RH 1 E I hH hC λa E=>?_;refine SA 0 E I λa w E I=>?_;refine RN 0 E I λa E=>?_;exact⟨_,E.ab [0,1,4,5],I.sub⟩
  refine RH 0 E I hH hC λa E=>?_;refine eV E rfl I Ty.t203 rfl λb5 a w E I ho=>?_;clear ho;replace hC:=hH.at w ⟨I.ai (b:=B.cb),jo jH (I.cJ B.bp B.op (by omega)) e4⟩;refine RH 0 E I hH hC λa E=>?_;refine CL 0 E I (sY (I.pick (Qu B.qb B.aB k.ls)) eK) λa w E I=>?_;replace hC:=hH.at w ⟨I.ai (b:=B.cb),jo jH (I.cJ B.bp B.op (by omega)) e4⟩;refine RH 0 E I hH hC λa E=>?_;refine CL 0 E I (yl (I.pick (Qu B.qb B.aB k.ls)) eK) λa w E I=>?_;replace hC:=hH.at w ⟨I.ai (b:=B.cb),jo jH (I.cJ B.bp B.op (by omega)) e4⟩;refine RH 1 E I hH hC λa E=>?_;refine SA 0 E I λa w E I=>?_;refine RN 0 E I λa E=>?_;exact⟨_,E.ab [0,1,4,5],I.sub⟩
 clear E;(try clear I);rintro a w ⟨b5,E,I⟩;refine cc (M:=λa w=>∃ (cY:Option Addr) (dP:Nat),Fr a 62 [(0,pt B.cb),(1,.int .i64 to),(4,pt b4),(5,pt b5)]∧U W w (aa b5 203 [.int .i64 1,.int .i64 0,.int .i64 0,.int .i64 0,.int .i64 (au k to).has,.slice cY (((k.ls.getD k.me []).drop (au k to).has).take 32).length dP,.int .i64 (k.ls.getD to []).length,.int .i64 k.mr.length,.int .u32 0]::Sl 5 1 cY (((k.ls.getD k.me []).drop (au k to).has).take 32).length dP (bc (((k.ls.getD k.me []).drop (au k to).has).take 32))::aa b4 124 [.int .i64 0,.int .i64 0,.slice none 0 0]::aa B.cb 257 (ix k B A)::Sl 259 5 (some ⟨B.bp,B.op,none⟩) k.ps.length A.cP (rows iG k.ps)::Sl 100 1 A.cj k.mr.length A.cM (c0 k.mr)::Sl 135 1 A.adE k.ev.length A.cE (k.ev.map cA)::Qu B.qb B.aB k.ls::L)) ?_ ?_
 ·
  refine aV 0 (λw0 w'=>Rd w' B.cb 0 (ix k B A)∧Rd w' b5 0 [.int .i64 1,.int .i64 0,.int .i64 0,.int .i64 0,.int .i64 (au k to).has,.slice none 0 0,.int .i64 (k.ls.getD to []).length,.int .i64 k.mr.length,.int .u32 0]) [8,9,11] [0,1,2,4,5,6,7,10,3003,3008,3011,1009,1012,13,1014] E I λa w E I hH=>?_;have hC:=hH.at w ⟨I.ai (b:=B.cb),I.ai (b:=b5)⟩;refine RH 8 E I hH hC λa E=>?_;refine QH E (λw hc=>ae E (hc.1 10 _ rfl)) hC λa E=>?_;refine QH E (λw hc=>ae E (hc.1 1 _ rfl)) hC λa E=>?_;refine QH E (λw hc=>ae E (hc.2 4 _ rfl)) hC λa E=>?_;refine RH 0 E I hH hC λa E=>?_;refine CL 0 E I (sY (I.pick (Qu B.qb B.aB k.ls)) ek) λa w E I=>?_;replace hC:=hH.at w ⟨I.ai (b:=B.cb),I.ai (b:=b5)⟩;refine RH 0 E I hH hC λa E=>?_;refine aY 0 E I (Yv (k:=32) (I.pick (Qu B.qb B.aB k.ls)) ek l9 iv.1 (by decide)) λcY dP a w E I=>?_;refine ST 1 E I (λa w E I=>?_);refine RN 0 E I λa E=>?_;exact⟨cY,dP,E.ab [0,1,4,5],I.sub⟩
 clear E;(try clear I);rintro a w ⟨cY,dP,E,I⟩;refine cc (M:=λa w=>Fr a 62 [(0,pt B.cb),(1,.int .i64 to),(4,pt b4),(5,pt b5)]∧U W w (aa b5 203 [.int .i64 1,.int .i64 0,.int .i64 0,.int .i64 0,.int .i64 (au k to).has,.slice cY (((k.ls.getD k.me []).drop (au k to).has).take 32).length dP,.int .i64 (k.ls.getD to []).length,.int .i64 k.mr.length,.int .u32 (k.mr.getLastD 0:Nat)]::Sl 5 1 cY (((k.ls.getD k.me []).drop (au k to).has).take 32).length dP (bc (((k.ls.getD k.me []).drop (au k to).has).take 32))::aa b4 124 [.int .i64 0,.int .i64 0,.slice none 0 0]::az B k::L)) ?_ ?_
 ·
  refine IF 10 E I (λaj a E=>?_) λaj a E=>?_
  ·
   obtain⟨Fh,Fi,Fm,lA⟩:=(I.pick (Sl 100 1 A.cj k.mr.length A.cM (c0 k.mr))).bV A.cj (by omega);refine RN 4 E I λa E=>?_;rw[Fm]at E;refine RN 2 E I λa E=>?_;rw[show ((k.mr.length:Nat):Int)-1=((k.mr.length-1:Nat):Int) from by omega]at E;refine RN 1 E I λa E=>?_;refine SS E (ae E (lA (k.mr.length-1) _ (AU (by omega)))) λa E=>?_;refine ST 1 E I (λa w E I=>?_);refine RN 0 E I λa E=>?_;rw[Ll (by omega)]at I;exact⟨E.ab [0,1,4,5],(az.fold I B k A).sub⟩
  refine RN 0 E I λa E=>?_;have h0:k.mr.getLastD 0=0:=by rw[gW (l:=k.mr) (by omega)];rfl
  exact⟨E.ab [0,1,4,5],by rw[h0];exact (az.fold I B k A).sub⟩
 clear E;(try clear I);rintro a w ⟨E,I⟩;refine aY 4 E I (Lj (p:=⟨1,0,0,0,(au k to).has,(k.ls.getD to []).length,k.mr.length,k.mr.getLastD 0,((k.ls.getD k.me []).drop (au k to).has).take 32⟩) (adP:=cY) (c:=dP) (I.pick (az B k)) (by
  show k.mr.getLastD 0<4294967296;rw[getLastD_eq_getLast?];cases hl:k.mr.getLast? with
  | none=>decide
  | some s=>exact hk.rB s (List.mem_of_getLast? hl)) (λw' hw=>(hw.pick (Sl 5 1 cY (((k.ls.getD k.me []).drop (au k to).has).take 32).length dP (bc (((k.ls.getD k.me []).drop (au k to).has).take 32)))).cu cY _ rfl rfl)) λad2 c2 a w E I=>?_
 rw[YU]at E I;refine SA 0 E I λa w E I=>?_;refine RT 0 E I ?_;exact⟨ad2,c2,rfl,I.sub⟩
def AV (k:Ks)(j:Nat):List Ml:=((bG k).take j).map λi=>(k.me,i,aR (dK k i))
def AW (k:Ks)(j:Nat):List Ml:=((bG k).take j).map λi=>(k.me,i,aR (iu k i))
theorem Lo (k:Ks):(bG k).length≤k.n:=Li k k.n
theorem YX (I:U W w (az B k::L))(hk:WC k):Calls prog 298 #[pt B.cb] w λr w'=>∃ ad c,r=.returned (.slice ad (cy k).1.length c)∧U W w' (cm 124 ad (cy k).1.length c (cy k).1::az B (cy k).2::L):=by
 have hn:=hk.n;have dV:=Lo k;refine EN func298 ntmps298 rfl rfl λa E=>?_;refine CL 5 E I (yo I) λa w E I=>?_;refine IF 0 E I (λaj a E=>?_) λaj a E=>?_
 ·
  refine RT 2 E I ?_;exact⟨none,0,by rw[cy,ak aj];rfl,by rw[cy,ak aj];exact cm.nil I⟩
 have hq:cy k=((bG k).map λi=>(k.me,i,aR (iu k i)),{ k with cl:=true }):=by rw[cy,ag (by rw[aj];decide)]
 obtain⟨A,I⟩:=az.open I;refine ST 4 E I (λa w E I=>?_);refine RN 0 E I λa E=>?_;replace I:=az.mk' (B:=B) (L':=L) (k:={ k with cl:=true }) I A;refine aY 5 E I (Fl I (by exact (hk.oC).1 |> λh=>by rw[hq]at h;exact h)) λmC co a w E I=>?_;refine RN 2 E I λa E=>?_;replace I:=U.bN (U.iN (f:=ca) I) 124 3 none;replace E:Fr a 27 ((14,.int .i64 (0:Nat))::(13,.int .i64 (bG k).length)::(12,.slice mC (bG k).length co)::(3,.slice none 0 0)::(0,pt B.cb)::[]):=E.ab [14,13,12,3,0];refine aO (λμ a w=>∃ (j:Nat) (xs:List Mx) (ad:Option Addr) (c:Nat),(μ=(bG k).length-j∧j≤(bG k).length∧xs.map (·.2.2)=AW k j∧xs.length=j)∧Fr a 27 [(0,pt B.cb),(3,.slice ad j c),(12,.slice mC (bG k).length co),(13,.int .i64 (bG k).length),(14,.int .i64 j)]∧U W w (Sl 124 3 ad j c (rows b9 xs)::ah ca xs::Sl 3 1 mC (bG k).length co (mB (bG k))::az B { k with cl:=true }::L)) ((bG k).length) (⟨0,[],none,0,⟨rfl,by omega,rfl,rfl⟩,E.ab [0,3,12,13,14],I⟩) ?_;clear E I;rintro μ a w ⟨j,xs,ad,c,⟨rfl,hj,eC,bW⟩,E,I⟩;refine IF 3 E I (λao a E=>?_) λao a E=>?_
 ·
  obtain⟨i,hi⟩:∃ i,(bG k)[j]?=some i:=⟨_,aE (by omega)⟩;obtain⟨kJ,oo,rfl,gE⟩:=(I.pick (Sl 3 1 mC (bG k).length co (mB (bG k)))).bV mC (by omega);refine RN 3 E I λa E=>?_;refine SS E (ae E (gE j _ (Fj hi))) λa E=>?_;refine aY 5 E I (Lj (k:={ k with cl:=true }) (to:=i) (p:=⟨2,0,0,0,0,0,0,0,[]⟩) (adP:=none) (c:=0) (I.pick (az B { k with cl:=true })) (by decide) (λw' hw=>aX.nil)) λad2 c2 a w E I=>?_;rw[show s3 { k with cl:=true } i ⟨2,0,0,0,0,0,0,0,[]⟩=iu k i from rfl]at E I;refine RN 0 E I λa E=>?_;refine cr E rfl I underlying108 Ty.t124 rfl rfl rfl rfl (by decide) (by decide) λxS a w E I ho=>?_;clear ho;refine RN 0 E I λa E=>?_;refine cK E rfl I underlying108 Ty.t124 rfl rfl I.ai rfl (by simp[Value.oneCell']) (by decide) (by decide) (by omega) λLp Lq a w E I=>?_;rw[show rows b9 xs++_=rows b9 (xs++[(ad2,c2,(k.me,i,aR (iu k i)))]) from by rw[kj];rfl]at I;refine RN 3 E I λa E=>?_;have du:=U.jM (f:=ca) (x:=(ad2,c2,(k.me,i,aR (iu k i)))) (I.sub (M:=ca (ad2,c2,(k.me,i,aR (iu k i)))::ah ca xs::Sl 124 3 Lp (j+1) Lq (rows b9 (xs++[(ad2,c2,(k.me,i,aR (iu k i)))]))::Sl 3 1 (some ⟨kJ,oo,none⟩) (bG k).length co (mB (bG k))::az B { k with cl:=true }::L));exact⟨(bG k).length-(j+1),by omega,j+1,xs++[(ad2,c2,(k.me,i,aR (iu k i)))],Lp,Lq,⟨rfl,by omega,by
   have ei:j<(bG k).length:=by omega
   rw[cW,eC,AW,AW,jd ei,cW,(a2.1 hi).2];rfl,by rw[aL,bW];rfl⟩,E.ab [0,3,12,13,14],du.sub⟩
 refine RT 3 E I ?_;obtain rfl:j=(bG k).length:=by omega
 rw[AW,take_length]at eC;have gF:((bG k).map λi=>(k.me,i,aR (iu k i))).length=(bG k).length:=bd _;rw[hq];refine⟨ad,c,by rw[gF],?_⟩;rw[gF];exact cm.close (xs:=xs) I.sub eC gF
end
theorem Lr {α:Type}{p:α→Bool}:∀ {l:List α} {j:Nat} {x:α},(∀ y∈l.take j,p y=false)→l[j]?=some x→p x=true→l.find? p=some x
 | [],j,x,_,h,_=>by simp at h
 | y::l,0,x,_,h,hp=>by
  obtain rfl:y=x:=by simpa using h
  rw[List.find?_cons,hp]
 | y::l,j+1,x,E,h,hp=>by
  rw[List.find?_cons,E y (by simp)];exact Lr (j:=j) (λz hz=>E z (by rw[take_succ_cons];exact gM _ hz)) (by simpa using h) hp
theorem Ls {α:Type}{p:α→Bool}{l:List α}(h:∀ y∈l,p y=false):l.find? p=none:=by
 rw[List.find?_eq_none];intro y hy hp;rw[h y hy]at hp;cases hp
section
variable {W w:World}{L L' R:List SP}{n c i e to:Nat}{ad adP:Option Addr}{k:Ks}{A:oG}{B:pK}{x:UInt8}{p:Pk}{bs:List UInt8}
theorem YY (I:U W w (az B k::L))(hk:WC k)(o2:k.now≤1000000):Calls prog 300 #[pt B.cb] w λr w'=>∃ ad c,r=.returned (.slice ad (br k).1.length c)∧U W w' (cm 124 ad (br k).1.length c (br k).1::az B (br k).2::L):=by
 have hn:=hk.n;refine EN func300 ntmps300 rfl rfl λa E=>?_;refine CL 5 E I (yo I) λa w E I=>?_;refine IF 0 E I (λaj a E=>?_) λaj a E=>?_
 ·
  refine RT 2 E I ?_;exact⟨none,0,by rw[br,ak aj];rfl,by rw[br,ak aj];exact cm.nil I⟩
 have hq:br k=(match (bG { k with now:=k.now+1 }).find? (λi=>decide (jm { k with now:=k.now+1 } i)) with
  | some i=>([],{ k with now:=k.now+1,ev:=k.ev++[(2,i,0)],cl:=true })
  | none=>((bG { k with now:=k.now+1 }).map λi=>(k.me,i,aR (dK { k with now:=k.now+1 } i)),{ k with now:=k.now+1 })):=by rw[br,ag (by rw[aj];decide)];rfl
 obtain⟨A,I⟩:=az.open I;refine RN 6 E I λa E=>?_;rw[show ((k.now:Nat):Int)+1=((k.now+1:Nat):Int) from by omega]at E;refine ST 2 E I (λa w E I=>?_);refine RN 0 E I λa E=>?_;replace I:=az.fold I B { k with now:=k.now+1 } A;have eW:WC { k with now:=k.now+1 }:=hk.AQ;have pL:=hk.kD;have Fo:({ k with now:=k.now+1 }:Ks).now≤1000001:=by show k.now+1≤_;omega
 have Fp:({ k with now:=k.now+1 }:Ks).ev.length≤9:=pL;have ie:br k=(match (bG { k with now:=k.now+1 }).find? (λi=>decide (jm { k with now:=k.now+1 } i)) with
  | some i=>([],{ ({ k with now:=k.now+1 }:Ks) with ev:=({ k with now:=k.now+1 }:Ks).ev++[(2,i,0)],cl:=true })
  | none=>((bG { k with now:=k.now+1 }).map λi=>(({ k with now:=k.now+1 }:Ks).me,i,aR (dK { k with now:=k.now+1 } i)),{ k with now:=k.now+1 })):=hq
 clear hq;have Fq:2≤({ k with now:=k.now+1 }:Ks).n∧({ k with now:=k.now+1 }:Ks).n≤8:=hn;generalize ({ k with now:=k.now+1 }:Ks)=k1 at I eW ie Fo Fp Fq;have dV:=Lo k1;refine aY 5 E I (Fl I eW) λmC co a w E I=>?_;refine RN 2 E I λa E=>?_;replace E:Fr a 61 ((20,.int .i64 (0:Nat))::(19,.int .i64 (bG k1).length)::(18,.slice mC (bG k1).length co)::(3,.slice none 0 0)::(0,pt B.cb)::[]):=E.ab [20,19,18,3,0];refine aO (λμ a w=>∃ (j:Nat),(μ=(bG k1).length-j∧j≤(bG k1).length∧∀ y∈(bG k1).take j,decide (jm k1 y)=false)∧Fr a 61 [(0,pt B.cb),(3,.slice none 0 0),(18,.slice mC (bG k1).length co),(19,.int .i64 (bG k1).length),(20,.int .i64 j)]∧U W w (Sl 3 1 mC (bG k1).length co (mB (bG k1))::az B k1::L)) ((bG k1).length) (⟨0,⟨rfl,by omega,λy hy=>by simp at hy⟩,E.ab [0,3,18,19,20],I⟩) ?_;clear E I;rintro μ a w ⟨j,⟨rfl,hj,bR⟩,E,I⟩;refine IF 3 E I (λao a E=>?_) λao a E=>?_
 ·
  have ei:j<(bG k1).length:=by omega
  obtain⟨i,hi⟩:∃ i,(bG k1)[j]?=some i:=⟨_,aE ei⟩;obtain⟨kJ,oo,rfl,gE⟩:=I.bV mC (by omega);have cC:=(wk.1 (bH hi)).1;have iv:=eW.pI cC;have aH:i<k1.ps.length:=by rw[eW.ps];exact cC
  have q9:=az.rd (I.tail);obtain⟨cP,eB⟩:=q9.pl;refine RN 3 E I λa E=>?_;refine SS E (ae E (gE j _ (Fj hi))) λa E=>?_;refine RN 2 E I λa E=>?_;have s5:rE w.drew B k1:=az.rd (I.drew.tail);have tO:w.drew.cell? ⟨B.cb,11,none⟩=some (.slice (some ⟨B.bp,B.op,none⟩) k1.ps.length cP):=eB;refine qU 0 (Old w.drew) [7,9,10,11] [0,1,2,4,5,6,8,3003,1007,1009,1010,1011,12,13] E I λa E=>?_;replace I:=I.drew;have hH:=Hd.gy I;have hC:=Old.refl w.drew;generalize w.drew=w at I hH hC s5 tO ⊢;refine RH 7 E I hH hC λa E=>?_;refine QH E (λw hc=>ae E (hc.cell (s5.now))) hC λa E=>?_;refine RH 0 E I hH hC λa E=>?_;refine SS E (ae E (tO)) λa E=>?_;refine RH 2 E I hH hC λa E=>?_;refine SS E (ae E (s5.pe i _ (uz aH) 1 _ rfl)) λa E=>?_;refine RH 2 E I hH hC λa E=>?_;refine IF 0 E I (λay a E=>?_) λay a E=>?_
  ·
   have hlt:jm k1 i:=by rw[jm];omega
   rw[Lr bR hi (dg hlt)]at ie;refine CL 4 E I (Fg (e:=(2,i,0)) (I.pick (az B k1)) ⟨by simp,by simp,by show i<8;omega,by simp,.inr rfl⟩ (by omega)) λa w E I=>?_;refine RN 1 E I λa E=>?_;obtain⟨A2,I⟩:=az.open I;refine ST 3 E I (λa w E I=>?_);refine RN 0 E I λa E=>?_;replace I:=az.fold I B { k1 with ev:=k1.ev++[(2,i,0)],cl:=true } A2;refine RT 2 E I ?_;rw[ie];exact⟨none,0,rfl,cm.nil I.sub⟩
  have hlt:¬ jm k1 i:=by rw[jm];omega
  refine RN 2 E I λa E=>?_;exact⟨(bG k1).length-(j+1),by omega,j+1,⟨rfl,by omega,λy hy=>by
   rw[jd ei,eP,mem_singleton]at hy;rcases hy with hy | rfl
   ·exact bR y hy
   ·rw[(a2.1 hi).2];exact bq hlt⟩,E.ab [0,3,18,19,20],I⟩
 obtain rfl:j=(bG k1).length:=by omega
 rw[take_length]at bR;rw[Ls bR]at ie;clear bR;refine aY 3 E I (Fl (I.tail) eW) λyr yt a w E I=>?_;refine RN 2 E I λa E=>?_;replace I:=U.bN (U.iN (f:=ca) I) 124 3 none;replace E:Fr a 61 ((49,.int .i64 (0:Nat))::(48,.int .i64 (bG k1).length)::(47,.slice yr (bG k1).length yt)::(3,.slice none 0 0)::(0,pt B.cb)::[]):=E.ab [49,48,47,3,0];refine aO (λμ a w=>∃ (j:Nat) (xs:List Mx) (ad:Option Addr) (c:Nat),(μ=(bG k1).length-j∧j≤(bG k1).length∧xs.map (·.2.2)=AV k1 j∧xs.length=j)∧Fr a 61 [(0,pt B.cb),(3,.slice ad j c),(47,.slice yr (bG k1).length yt),(48,.int .i64 (bG k1).length),(49,.int .i64 j)]∧U W w (Sl 124 3 ad j c (rows b9 xs)::ah ca xs::Sl 3 1 yr (bG k1).length yt (mB (bG k1))::az B k1::L)) ((bG k1).length) (⟨0,[],none,0,⟨rfl,by omega,rfl,rfl⟩,E.ab [0,3,47,48,49],I⟩) ?_;clear E I;rintro μ a w ⟨j,xs,ad,c,⟨rfl,hj,eC,bW⟩,E,I⟩;refine IF 3 E I (λbk a E=>?_) λbk a E=>?_
 ·
  obtain⟨i,hi⟩:∃ i,(bG k1)[j]?=some i:=⟨_,aE (by omega)⟩;obtain⟨kJ,oo,rfl,gE⟩:=(I.pick (Sl 3 1 yr (bG k1).length yt (mB (bG k1)))).bV yr (by omega);have cC:=(wk.1 (bH hi)).1;refine RN 3 E I λa E=>?_;refine SS E (ae E (gE j _ (Fj hi))) λa E=>?_;refine aY 4 E I (YV (to:=i) (I.pick (az B k1)) eW cC) λad2 c2 a w E I=>?_;refine RN 0 E I λa E=>?_;refine cr E rfl I underlying108 Ty.t124 rfl rfl rfl rfl (by decide) (by decide) λb57 a w E I ho=>?_;clear ho;refine RN 0 E I λa E=>?_;refine cK E rfl I underlying108 Ty.t124 rfl rfl I.ai rfl (by simp[Value.oneCell']) (by decide) (by decide) (by omega) λLt Lu a w E I=>?_;rw[show rows b9 xs++_=rows b9 (xs++[(ad2,c2,(k1.me,i,aR (dK k1 i)))]) from by rw[kj];rfl]at I;refine RN 3 E I λa E=>?_;have du:=U.jM (f:=ca) (x:=(ad2,c2,(k1.me,i,aR (dK k1 i)))) (I.sub (M:=ca (ad2,c2,(k1.me,i,aR (dK k1 i)))::ah ca xs::Sl 124 3 Lt (j+1) Lu (rows b9 (xs++[(ad2,c2,(k1.me,i,aR (dK k1 i)))]))::Sl 3 1 (some ⟨kJ,oo,none⟩) (bG k1).length yt (mB (bG k1))::az B k1::L));exact⟨(bG k1).length-(j+1),by omega,j+1,xs++[(ad2,c2,(k1.me,i,aR (dK k1 i)))],Lt,Lu,⟨rfl,by omega,by
   have ei:j<(bG k1).length:=by omega
   rw[cW,eC,AV,AV,jd ei,cW,(a2.1 hi).2];rfl,by rw[aL,bW];rfl⟩,E.ab [0,3,47,48,49],du.sub⟩
 refine RT 3 E I ?_;obtain rfl:j=(bG k1).length:=by omega
 rw[AV,take_length]at eC;have gF:((bG k1).map λi=>(k1.me,i,aR (dK k1 i))).length=(bG k1).length:=bd _;rw[ie];refine⟨ad,c,by rw[gF],?_⟩;rw[gF];exact cm.close (xs:=xs) I.sub eC gF
theorem WC.peer (h:WC k){q:Pe}(hi:i<k.n)(hq:q.has≤1000∧q.frame≤1000∧q.sum<4294967296)(hh:q.heard≤k.now)(E:q.apart=(au k i).apart):WC { k with ps:=k.ps.set i q } :=
 h.AN (ev:=k.ev) (cl:=k.cl) hq hh h.bx (by rw[E1 (by rw[h.ps];exact hi) E];exact h.oB)
theorem WC.line (h:WC k){l:List UInt8}(hl:l.length≤1000):WC { k with ls:=k.ls.set i l } :=
 { h with
  ls:=by show (k.ls.set i l).length=_;rw[bu];exact h.ls
  na:=λy hy=>by
   rcases mem_set hy with hy | rfl
   ·exact h.na y hy
   ·exact hl }
theorem Lw {ls:List (List UInt8)}{i j:Nat}{l:List UInt8}(h:i≠j):(ls.set i l).getD j []=ls.getD j []:=by
 rw[bn,getElem?_set_ne h,← bn]
theorem az.Ly (I:U W w L)(B:pK)(k:Ks)(A:oG)(q1 q2:Pe)[kk:fD L [aa B.cb 257 (ix { k with ps:=k.ps.set i q1 } B A),Sl 259 5 (some ⟨B.bp,B.op,none⟩) (k.ps.set i q1).length A.cP (rows iG (k.ps.set i q2)),Sl 100 1 A.cj k.mr.length A.cM (c0 k.mr),Sl 135 1 A.adE k.ev.length A.cE (k.ev.map cA),Qu B.qb B.aB k.ls] R]:U W w (az B { k with ps:=k.ps.set i q2 }::R):=by
 have h1:=I.perm kk.perm;rw[show ix { k with ps:=k.ps.set i q1 } B A=ix { k with ps:=k.ps.set i q2 } B A from by simp only[ix,bu],show (k.ps.set i q1).length=(k.ps.set i q2).length from by simp only[bu]]at h1;exact az.close (A:=A) h1
theorem az.YZ (I:U W w L)(B:pK)(k:Ks)(A:oG)(q2:Pe)[kk:fD L [aa B.cb 257 (ix k B A),Sl 259 5 (some ⟨B.bp,B.op,none⟩) k.ps.length A.cP (rows iG (k.ps.set i q2)),Sl 100 1 A.cj k.mr.length A.cM (c0 k.mr),Sl 135 1 A.adE k.ev.length A.cE (k.ev.map cA),Qu B.qb B.aB k.ls] R]:U W w (az B { k with ps:=k.ps.set i q2 }::R):=by
 have h1:=I.perm kk.perm;rw[show ix k B A=ix { k with ps:=k.ps.set i q2 } B A from by simp only[ix,bu],show k.ps.length=(k.ps.set i q2).length from by simp only[bu]]at h1;exact az.close (A:=A) h1
theorem AX (h:k.cl=true):dw bs k=(6,k):=by rw[dw,ak h]
theorem Lz (h:k.cl=false)(hd:eu bs=none):dw bs k=(1,k):=by rw[dw,ag (by rw[h];decide),hd]
theorem wq (h:k.cl=false)(hd:eu bs=some p)(hx:p.to≠k.me∨(k.n:Int)≤p.aW∨p.id≠k.id):dw bs k=(1,k):=by
 rw[dw,ag (by rw[h];decide),hd];show (if _ then _ else _)=_;rw[ak hx]
theorem LA (h:k.cl=false)(hd:eu bs=some p)(hx:¬ (p.to≠k.me∨(k.n:Int)≤p.aW∨p.id≠k.id)):dw bs k=(0,fQ k p):=by
 rw[dw,ag (by rw[h];decide),hd];show (if _ then _ else _)=_;rw[ag hx]
set_option maxHeartbeats 2000000 in
theorem Y0 (I:U W w (az B k::L))(hk:WC k)(hb:bs.length≤65536)(hc:bs.length≤c)(hp:∀ w',U W w' L→aX w' ad bs.length bs) :
   Calls prog 299 #[pt B.cb,.slice ad bs.length c] w λr w'=>r=.returned (.int .i64 (dw bs k).1)∧U W w' (az B (dw bs k).2::L):=by
 have hn:=hk.n;refine EN func299 ntmps299 rfl rfl λa E=>?_;refine CL 5 E I (yo I) λa w E I=>?_;refine IF 0 E I (λaj a E=>?_) λaj a E=>?_
 ·
  refine RT 2 E I ?_;exact⟨by rw[AX aj],by rw[AX aj];exact I⟩
 refine jP 2 E I (X8 I hb hc (λw' hw=>hp w' hw.tail)) ?_;clear E I;rintro e w ⟨p,adP,cP,ok,rfl,hd,I⟩;refine⟨_,rfl,λa E=>?_⟩;refine AL 3 E I λb5 a w E I=>?_;refine SA 0 E I λa w E I=>?_;refine RN 3 E I λa E=>?_;obtain⟨A,I⟩:=az.open (I.pick (az B k));refine bQ 0 [9,19,29] [0,1,2,3,5,6,7,8,3004,1009,10,11,12,13,15,16,17,18,3014,1019,20,21,22,23,25,26,27,28,3024,1029,30,31] E I λa w E I hH hC=>?_;refine RH 3 E I hH hC λa E=>?_;refine E.by (s:=17) (λbA E=>?_) (λbA E=>?_)
 ·
  have dj:ok=false:=by cases ok with | false=>rfl | true=>exact absurd rfl bA
  have c6:eu bs=none:=by
   rcases hd with ⟨h,_⟩ | ⟨_,h,_⟩
   ·rw[dj]at h;cases h
   ·exact h
  refine RH 29 E I hH hC λa E=>?_;refine RT 3 E I ?_;rw[Lz aj c6];exact⟨rfl,(az.fold I B k A).sub⟩
 have dj:ok=true:=by cases ok with | true=>rfl | false=>exact absurd bA (by decide)
 have pM:eu bs=some p:=by
  rcases hd with ⟨_,h⟩ | ⟨h,_⟩
  ·exact h
  ·rw[dj]at h;cases h
 obtain⟨s6,gD,_⟩:=Es pM;have Fs:=s6.1;refine RH 10 E I hH hC λa E=>?_;refine E.by (s:=27) (λhY E=>?_) (λhY E=>?_)
 ·
  refine RH 19 E I hH hC λa E=>?_;refine RT 3 E I ?_;rw[wq aj pM (.inl hY)];exact⟨rfl,(az.fold I B k A).sub⟩
 refine RH 10 E I hH hC λa E=>?_;refine E.by (s:=37) (λpE E=>?_) (λpE E=>?_)
 ·
  refine RH 9 E I hH hC λa E=>?_;refine RT 3 E I ?_;rw[wq aj pM (.inr (.inl pE))];exact⟨rfl,(az.fold I B k A).sub⟩
 refine RH 9 E I hH hC λa E=>?_;refine IF 0 E I (λao a E=>?_) λao a E=>?_
 ·
  refine RT 2 E I ?_;rw[wq aj pM (.inr (.inr ao))];exact⟨rfl,(az.fold I B k A).sub⟩
 have bR:¬ (p.to≠k.me∨(k.n:Int)≤p.aW∨p.id≠k.id):=by
  rintro (h | h | h)
  ·exact h hY
  ·omega
  ·exact h ao
 rw[LA aj pM bR];clear hd dj;obtain⟨fr,fp⟩:=Int.eq_ofNat_of_zero_le Fs.1;have g6:fr<k.n:=by omega
 have dZ:fr<k.ls.length:=by rw[hk.ls];exact g6
 have nd:fr<k.ps.length:=by rw[hk.ps];exact g6
 have Ft:fr≠k.me:=by have:=s6.2.2.1;omega
 have iv:=hk.pI g6;have jG:p.aW.toNat=fr:=by omega
 refine bQ 1 [5] [0,1,2,4,3003,1005,6,7] E I λa w E I hH hC=>?_;refine RH 6 E I hH hC λa E=>?_;rw[fp]at E;refine RH 2 E I hH hC λa E=>?_;refine RN 8 E I λa E=>?_;refine l5 (off:=B.op) (k:=fr*5+1) E rfl I Ty.t3 rfl (by omega) (by rw[ja jH];omega) λa w E I=>?_;rw[p7 jH k.ps { au k fr with heard:=k.now } nd (by decide) (by rw[Lg nd];rfl)]at I;have cd:=hk.peer (q:={ au k fr with heard:=k.now }) g6 ⟨iv.1,iv.2.2⟩ (a7 _) rfl;replace I:=az.YZ (i:=fr) I B k A { au k fr with heard:=k.now };refine IF 5 E I (λay a E=>?_) λay a E=>?_
 ·
  refine RN 4 E I λa E=>?_;rw[fp]at E;refine CL 1 E I (Fg (e:=(1,fr,0)) I ⟨by simp,by simp,by show fr<8;omega,by simp,.inr rfl⟩ (by have:=hk.kD;show k.ev.length≤100;omega)) λa w E I=>?_;refine RN 1 E I λa E=>?_;obtain⟨A2,I⟩:=az.open I;refine ST 3 E I (λa w E I=>?_);refine RN 0 E I λa E=>?_;replace I:=az.fold I B { k with ps:=k.ps.set fr { au k fr with heard:=k.now },ev:=k.ev++[(1,fr,0)],cl:=true } A2;refine RT 2 E I ?_;refine⟨rfl,?_⟩;rw[fQ,ak ay,jG];exact I.sub
 refine RN 1 E I λa E=>?_;have gZ:eG p.first∧eG p.c7∧eG p.frame∧p.al.length≤32:=by
  rcases s6.2.2.2.2 with h | h
  ·exact h.2
  ·exact absurd h.1 ay
 simp only[eG]at gZ;obtain⟨fi,wu⟩:=Int.eq_ofNat_of_zero_le gZ.1.1;obtain⟨jr,AY⟩:=Int.eq_ofNat_of_zero_le gZ.2.1.1;obtain⟨j7,Fu⟩:=Int.eq_ofNat_of_zero_le gZ.2.2.1.1;obtain⟨D,I,hD⟩:=az.Ff I;have LB:∀ w' L',U W w' (Qu B.qb B.aB k.ls::D::L')→rE w' B { k with ps:=k.ps.set fr { au k fr with heard:=k.now } }:=λw' L' h=>az.rd (hD w' L' _ h);refine aV 0 (λw0 w'=>Rd w' b5 0 (dJ p adP cP)∧rE w' B { k with ps:=k.ps.set fr { au k fr with heard:=k.now } }) [5,6,8,10] [0,1,2,4,7,9,3003,3005,3008,3010,1006,1011] E I λa w E I hH=>?_;have hC:=hH.at w ⟨I.ai (b:=b5),LB _ _ I⟩;refine RH 6 E I hH hC λa E=>?_;refine QH E (λw hc=>ae E (hc.2.cf 10 _ rfl)) hC λa E=>?_;refine QH E (λw hc=>ae E (hc.1 1 _ rfl)) hC λa E=>?_;rw[fp]at E;refine RH 0 E I hH hC λa E=>?_;refine QH E (λw hc=>ae E (hc.1 4 _ rfl)) hC λa E=>?_;rw[wu]at E;refine RH 0 E I hH hC λa E=>?_;refine QH E (λw hc=>ae E (hc.1 5 _ rfl)) hC λa E=>?_;refine RH 0 E I hH hC λa E=>?_;refine CL 0 E I (sY I dZ) λa w E I=>?_;replace hC:=hH.at w ⟨I.ai (b:=b5),LB _ _ I⟩;refine RH 0 E I hH hC λa E=>?_;refine aY 0 E I (Yu (fr:=fi) (bs:=p.al) I dZ (hk.lW g6) (by omega) (λw' hw=>(hw.pick (Sl 5 1 adP p.al.length cP (bc p.al))).cu adP p.al rfl rfl)) λLC er a w E I=>?_;refine RN 0 E I λa E=>?_;replace I:=hD _ _ _ I;have mc:=cd.line (i:=fr) (l:=dp (k.ls.getD fr []) fi p.al) (rz (hk.lW g6)).2;have gS:aD ({ k with ls:=k.ls.set fr (dp (k.ls.getD fr []) fi p.al),ps:=k.ps.set fr { au k fr with heard:=k.now } }:Ks)=aD k:=by
  show ((k.ls.set fr _).getD k.me []).length=_;rw[Lw Ft];rfl
 have wv:(k.ps.set fr { au k fr with heard:=k.now })[fr]?=some { au k fr with heard:=k.now }:=getElem?_set_self nd;refine cc (M:=λa w=>∃ hh:Nat,hh=(if (au k fr).has<jr∧jr≤aD k then jr else (au k fr).has)∧Fr a 127 [(0,pt B.cb),(5,pt b5),(7,.pointer (some ⟨B.bp,B.op+fr*5,none⟩))]∧U W w (az B { k with ls:=k.ls.set fr (dp (k.ls.getD fr []) fi p.al),ps:=k.ps.set fr { au k fr with heard:=k.now,has:=hh } }::aa b5 203 (dJ p adP cP)::L)) ?_ ?_
 ·
  refine aV 1 (λw0 w'=>Rd w' b5 0 (dJ p adP cP)∧rE w' B { k with ls:=k.ls.set fr (dp (k.ls.getD fr []) fi p.al),ps:=k.ps.set fr { au k fr with heard:=k.now } }) [5,11] [0,2,3,4,3001,1005,6,7,8,10,3009,1011,12,13] E I λa w E I hH=>?_;have hC:=hH.at w ⟨I.ai (b:=b5),az.rd I⟩;refine RH 4 E I hH hC λa E=>?_;refine QH E (λw hc=>ae E (hc.1 6 _ rfl)) hC λa E=>?_;refine RH 0 E I hH hC λa E=>?_;refine SS E (ae E (hC.2.pe fr _ wv 0 (.int .i64 (au k fr).has) rfl)) λa E=>?_;refine RH 2 E I hH hC λa E=>?_;refine E.by (s:=91) (λjE E=>?_) (λjE E=>?_)
  ·
   refine RH 2 E I hH hC λa E=>?_;refine QH E (λw hc=>ae E (hc.1 6 _ rfl)) hC λa E=>?_;refine RH 0 E I hH hC λa E=>?_;refine CL 0 E I (s0 I mc) λa w E I=>?_;replace hC:=hH.at w ⟨I.ai (b:=b5),az.rd I⟩;rw[gS]at E;refine RH 2 E I hH hC λa E=>?_;refine IF 0 E I (λbk a E=>?_) λbk a E=>?_
   ·
    obtain⟨A2,I⟩:=az.open I;refine RN 3 E I λa E=>?_;rw[AY]at E;refine RN 2 E I λa E=>?_;refine l5 (off:=B.op) (k:=fr*5+0) E rfl I Ty.t3 rfl (by omega) (by rw[ja jH,bu];omega) λa w E I=>?_;rw[p7 jH (k.ps.set fr { au k fr with heard:=k.now }) { au k fr with heard:=k.now,has:=jr } (by rw[bu];exact nd) (by decide) (by rw[getElem_set_self];rfl),set_set]at I;replace I:=az.Ly (i:=fr) I B { k with ls:=k.ls.set fr (dp (k.ls.getD fr []) fi p.al) } A2 { au k fr with heard:=k.now } { au k fr with heard:=k.now,has:=jr };refine RN 0 E I λa E=>?_;exact⟨jr,by rw[ak ⟨by omega,by omega⟩],E.ab [0,5,7],I.sub⟩
   refine RN 0 E I λa E=>?_;exact⟨_,by rw[ag (by omega)],E.ab [0,5,7],I.sub⟩
  refine RH 6 E I hH hC λa E=>?_;refine RN 1 E I λa E=>?_;exact⟨_,by rw[ag (by omega)],E.ab [0,5,7],I.sub⟩
 clear E;(try clear I);rintro a w ⟨hh,yu,E,I⟩;refine cc (M:=λa w=>∃ q:Pe,(q=fP k.now (aD k) p (au k fr)∧WC { k with ls:=k.ls.set fr (dp (k.ls.getD fr []) fi p.al),ps:=k.ps.set fr q })∧Fr a 127 [(0,pt B.cb)]∧U W w (az B { k with ls:=k.ls.set fr (dp (k.ls.getD fr []) fi p.al),ps:=k.ps.set fr q }::aa b5 203 (dJ p adP cP)::L)) ?_ ?_
 ·
  refine bQ 1 [9] [0,1001,2,3,4,6,7,8,3005,1009,10,11] E I λa w E I hH hC=>?_;have wx:(k.ps.set fr { au k fr with heard:=k.now,has:=hh })[fr]?=some { au k fr with heard:=k.now,has:=hh }:=getElem?_set_self nd;have q9:rE w B { k with ls:=k.ls.set fr (dp (k.ls.getD fr []) fi p.al),ps:=k.ps.set fr { au k fr with heard:=k.now,has:=hh } }:=az.rd I;have Fv:p.c7.toNat=jr:=by omega
  have Fw:p.frame.toNat=j7:=by omega
  have hP:fP k.now (aD k) p (au k fr)=(if 0<p.frame∧((au k fr).frame:Int)≤p.frame then { au k fr with heard:=k.now,has:=hh,frame:=j7,sum:=p.sum } else { au k fr with heard:=k.now,has:=hh }):=by
   rw[fP,Fv,Fw,yu]
  have uB:hh≤1000:=by rw[yu];split <;> omega
  refine RH 4 E I hH hC λa E=>?_;refine E.by (s:=106) (λbX E=>?_) (λbX E=>?_)
  ·
   refine RH 5 E I hH hC λa E=>?_;refine bo E (b7 E rfl (s:=106)) (ae E (q9.pe fr _ wx 2 (.int .i64 (au k fr).frame) rfl)) rfl λa E=>?_;refine RH 2 E I hH hC λa E=>?_;refine IF 0 E I (λbO a E=>?_) λbO a E=>?_
   ·
    refine RN 0 E I λa E=>?_;obtain⟨A3,I⟩:=az.open I;refine aV 0 (λw0 w'=>Rd w' b5 0 (dJ p adP cP)) [5,8] [0,1,2,4,3003,6,7,3005,1008,9,10,1011] E I λa w E I hH=>?_;have hC:=hH.at w (I.ai (b:=b5));refine RH 4 E I hH hC λa E=>?_;refine QH E (λw hc=>ae E (hc 7 _ rfl)) hC λa E=>?_;rw[Fu]at E;refine RH 2 E I hH hC λa E=>?_;refine QH E (λw hc=>ae E (hc 8 _ rfl)) hC λa E=>?_;refine RH 0 E I hH hC λa E=>?_;refine l5 (off:=B.op) (k:=fr*5+2) E rfl I Ty.t3 rfl (by omega) (by rw[ja jH,bu];omega) λa w E I=>?_;replace hC:=hH.at w (I.ai (b:=b5));rw[p7 jH (k.ps.set fr { au k fr with heard:=k.now,has:=hh }) { au k fr with heard:=k.now,has:=hh,frame:=j7 } (by rw[bu];exact nd) (by decide) (by rw[getElem_set_self];rfl),set_set]at I;refine RH 2 E I hH hC λa E=>?_;refine l5 (off:=B.op) (k:=fr*5+3) E rfl I Ty.t100 rfl (by omega) (by rw[ja jH,bu];omega) λa w E I=>?_;rw[p7 jH (k.ps.set fr { au k fr with heard:=k.now,has:=hh,frame:=j7 }) { au k fr with heard:=k.now,has:=hh,frame:=j7,sum:=p.sum } (by rw[bu];exact nd) (by decide) (by rw[getElem_set_self];rfl),set_set]at I;replace I:=az.Ly (i:=fr) I B { k with ls:=k.ls.set fr (dp (k.ls.getD fr []) fi p.al) } A3 { au k fr with heard:=k.now,has:=hh } { au k fr with heard:=k.now,has:=hh,frame:=j7,sum:=p.sum };refine RN 0 E I λa E=>?_;exact⟨_,⟨by rw[hP,ak (by omega)],(hk.peer (q:={ au k fr with heard:=k.now,has:=hh,frame:=j7,sum:=p.sum }) g6 ⟨uB,by show j7≤1000;omega,gD⟩ (a7 _) rfl).line (rz (hk.lW g6)).2⟩,E.ab [0],I.sub⟩
   refine RN 0 E I λa E=>?_;exact⟨_,⟨by rw[hP,ag (by omega)],(hk.peer (q:={ au k fr with heard:=k.now,has:=hh }) g6 ⟨uB,iv.2.2⟩ (a7 _) rfl).line (rz (hk.lW g6)).2⟩,E.ab [0],I⟩
  refine RH 8 E I hH hC λa E=>?_;refine RN 1 E I λa E=>?_;exact⟨_,⟨by rw[hP,ag (by omega)],(hk.peer (q:={ au k fr with heard:=k.now,has:=hh }) g6 ⟨uB,iv.2.2⟩ (a7 _) rfl).line (rz (hk.lW g6)).2⟩,E.ab [0],I⟩
 clear E;(try clear I);rintro a w ⟨q,⟨Y1,ov⟩,E,I⟩;refine CL 2 E I (Lh I ov) λa w E I=>?_;refine RT 2 E I ?_;refine⟨rfl,?_⟩;have yv:p.first.toNat=fi:=by omega
 rw[fQ,ag ay,jG,yv,← Y1];exact I.sub
end
end
section
section
variable {W w:World}{L:List SP}{c cO cP q:Nat}{aq adP:Option Addr}{b:List UInt8}{g:Nat→Int}{p:Pr}{fr:Int}{bad:Bool}
def Jv (q:Nat)(g:Nat→Int)(bad:Bool):SP:=λh=>(dO g∧bad=false)∧aa q 296 (ints .i32 32 g) h
theorem Jv.open (I:U W w (Jv q g bad::L)):(dO g∧bad=false)∧U W w (aa q 296 (ints .i32 32 g)::L):=by
 obtain⟨_,h1,h2⟩:=I.jy (ι:=Unit) (p:=λ_=>dO g∧bad=false) (B:=λ_=>aa q 296 (ints .i32 32 g)) (λh ⟨h1,h2⟩=>⟨(),h1,h2⟩);exact⟨h1,h2⟩
theorem Jv.close (I:U W w (aa q 296 (ints .i32 32 g)::L))(h1:dO g):U W w (Jv q g false::L) :=
 U.shut (M:=[_]) I (λ_ ⟨_,_,_,a,b,x,_⟩=>⟨⟨h1,rfl⟩,a _ _ x⟩)
theorem Y2 {c:Nat}(hc:c<32)(I:U W w (Jv q g bad::L)):Calls prog 351 (List.toArray [pt q,.int .i64 c]) w λe w'=>e=.returned (.int .i32 (g c))∧U W w' (Jv q g bad::L):=by
 have hj:=Jv.open I;clear I;obtain⟨⟨h1,rfl⟩,I⟩:=hj;refine EN func351 ntmps351 rfl rfl λa E=>?_;refine RN 8 E I λa E=>?_;refine SS E (ae E (I.bz (fN _ hc))) λa E=>?_;refine RT 1 E I ?_;exact⟨rfl,Jv.close I h1⟩
theorem Y3 {c:Nat}{v:Int}(hc:c<32)(hv:dk v)(I:U W w (Jv q g bad::L)):Calls prog 352 (List.toArray [pt q,.int .i64 c,.int .i32 v]) w λe w' =>
   ∃ (g':Nat→Int) (fo:Bool),e=.returned (.tuple #[])∧((fo=true∧g'=g)∨(fo=false∧bad=false∧g'=ck g c v))∧U W w' (Jv q g' fo::L):=by
 have hj:=Jv.open I;clear I;obtain⟨⟨h1,rfl⟩,I⟩:=hj;refine EN func352 ntmps352 rfl rfl λa E=>?_;refine ST 6 E I (λa w E I=>?_) (hlt:=(by rw[dd];exact hc));rw[ints_set]at I;refine RT 0 E I ?_;exact⟨ck g c v,false,rfl,.inr ⟨rfl,rfl,rfl⟩,Jv.close I (nE h1 hv)⟩
theorem Y4:xO W 294 ⟨q,0,none⟩ 351 352 (Jv q) where
 oj:=λad w=>by kernel_rfl
 om:=(by kernel_rfl)
 zZ:=λad w=>by kernel_rfl
 vq:=(by kernel_rfl)
 ok:=λw L g bad h=>(Jv.open h).1.1
 get:=λw L g bad c hc h=>Y2 hc h
 set:=λw L g bad c v hc hv h=>Y3 hc hv h
theorem LD (I:U W w (aA W p aq cO::L))(a6:dh p)(aG:p.title.size≤1000000000)(hg:dO g)(hb:b.length≤1099511627776)(hp:∀ w',U W w' L→aX w' adP b.length b) :
   Calls prog 137 #[.agg (bP p aq cO).toArray,.agg (ints .i32 32 g).toArray,.int .i64 fr,.slice adP b.length cP] w λe w'=>e=.returned (.agg (ints .i32 32 (e0 p fr b g)).toArray)∧U W w' (aA W p aq cO::L):=by
 refine EN func137 ntmps137 rfl rfl λa E=>?_;refine BX 1 E I λb4 a w E I=>?_;change U W w (aa b4 45 (bP p aq cO)::_) at I;refine BX 0 E I λb5 a w E I=>?_;refine AL 0 E I λb8 a w E I=>?_;change U W w (aa b8 183 (ints .i32 32 (λ_=>0))::_) at I;refine RN 2 E I λa E=>?_;refine SK (bo E rfl (HU E Ty.Q7 Ty.t296 (cs:=ints .i32 32 g) rfl) rfl ?_);clear E a;intro a E;refine BX 0 E I λFx a w E I=>?_;refine RN 7 E I λa E=>?_;replace I:=Jv.close (I.jJ Fx) hg;refine jO 0 E I (JF (M:=Y4 (q:=Fx)) (L:=aa b8 183 (ints .i32 32 (λ_=>0))::L) (I.sub (M:=Jv Fx g false::aA W p aq cO::aa b8 183 (ints .i32 32 (λ_=>0))::L)) a6 aG hb (λw' hw=>hp w' hw.tail)) λg' fo LC a w E ⟨ou,I⟩=>?_;refine RN 1 E I λa E=>?_;have hj:=Jv.open I;clear I;obtain⟨⟨hg',rfl⟩,I⟩:=hj;obtain⟨_,rfl⟩:=ou rfl;refine SA 4 E I λa w E I=>?_;refine RT 0 E I ?_;exact⟨rfl,I.sub⟩
theorem LF {P:List (List UInt8)}{zs:List dY}(I:U W w (aA W p aq cO::L))(a6:dh p)(aG:p.title.size≤1000000000)(hg:dO g)(hP:P.length≤65536∧∀ b∈P,b.length≤1099511627776)(hf:-1099511627776≤fr∧fr≤1099511627776)(hz:zs.map (·.2.2)=P)(hp:∀ w',U W w' L→hU w' adP zs) :
   Calls prog 280 #[.agg (bP p aq cO).toArray,.agg (ints .i32 32 g).toArray,.int .i64 fr,.slice adP P.length cP] w λe w'=>e=.returned (.agg (ints .i32 32 (foldI p fr g P)).toArray)∧U W w' (aA W p aq cO::L):=by
 have iY:zs.length=P.length:=by rw[← hz,bd]
 have sN:=hP.1;refine EN func280 ntmps280 rfl rfl λa E=>?_;refine BX 1 E I λb4 a w E I=>?_;change U W w (aa b4 45 (bP p aq cO)::_) at I;refine BX 0 E I λb5 a w E I=>?_;refine AL 0 E I λb8 a w E I=>?_;change U W w (aa b8 183 (ints .i32 32 (λ_=>0))::_) at I;refine RN 5 E I λa E=>?_;refine aO (λμ a w=>∃ (i:Nat) (g':Nat→Int),(μ=P.length-i∧i≤P.length∧dO g'∧foldI p fr g P=foldI p (fr+i) g' (P.drop i))∧Fr a 27 [(2,.int .i64 fr),(4,pt b4),(5,pt b5),(8,pt b8),(11,.slice adP P.length cP),(12,.int .i64 P.length),(13,.int .i64 i)]∧U W w (aa b5 183 (ints .i32 32 g')::aa b4 45 (bP p aq cO)::aa b8 183 (ints .i32 32 (λ_=>0))::aA W p aq cO::L)) (P.length) (⟨0,g,⟨by simp,by simp,hg,by simp⟩,E.ab [2,4,5,8,11,12,13],I.sub⟩) ?_;clear E I;rintro μ a w ⟨i,g',⟨rfl,hi,eF,lM⟩,E,I⟩;refine IF 3 E I (λaj a E=>?_) λaj a E=>?_
 ·
  obtain⟨z,kA⟩:∃ z,zs[i]?=some z:=⟨_,aE (by omega)⟩;have qe:P[i]?=some z.2.2:=by rw[← hz,bm,kA];rfl
  obtain⟨bp,op,rfl,c4⟩:=(hp _ (I.sub (M:=L))).1 (by omega);have wy:=c4 i (aK z) (by rw[bm,kA];rfl);have pN:=hP.2 _ (bH qe);have D6:foldI p fr g P=foldI p (fr+(i+1:Nat)) (e0 p (fr+i) z.2.2 g') (P.drop (i+1)):=by
   rw[lM,kl (by omega),foldI];have:P[i]'(by omega)=z.2.2:=by rw[aE (by omega)]at qe;exact Option.some.inj qe
   rw[this]
   congr 1
   omega
  refine RN 4 E I λa E=>?_;refine SS E (ae E (wy)) λa E=>?_;rw[aK]at E;refine CL 8 E I (LD (I.pick (aA W p aq cO)) a6 aG eF pN (λw' hw=>(hp w' hw.sub).2 z (bH kA))) λa w E I=>?_;refine SA 0 E I λa w E I=>?_;refine RN 2 E I λa E=>?_;exact⟨P.length-(i+1),by omega,i+1,_,⟨rfl,by omega,K3 a6 eF,D6⟩,E.ab [2,4,5,8,11,12,13],I.sub⟩
 refine RN 1 E I λa E=>?_;obtain rfl:i=P.length:=by omega
 rw[List.drop_length,foldI]at lM;refine SA 1 E I λa w E I=>?_;refine RT 0 E I ?_;exact⟨by rw[lM],I.sub⟩
end
end
section
theorem qx (k:IntKind)(m:Nat)(x:Int):List.replicate m (Value.int k x)=ints k m (λ_=>x):=by
 apply ext_getElem (by simp[ints,fn]);intro i h1 h2;simp[ints,fn]
abbrev di (b:Gs)(adT:Option Addr)(cT:Nat):List Value:=[.int .i64 b.kind,.int .i64 b.order,.slice adT b.table.length cT]
theorem Y5 (l:List UInt8)(k:Nat):bc (l.drop k)=(bc l).drop k:=by rw[bc,bc,map_drop]
section
variable {W w:World}{L:List SP}{n c m cT:Nat}{ad adT:Option Addr}{past:List UInt8}{b:Gs}
theorem yw (I:U W w L):Calls prog 98 #[.agg (di b adT cT).toArray] w λe w'=>∃ r:Bool,e=.returned (.bool r)∧(r=true↔cX b)∧U W w' L:=by
 refine EN func98 ntmps98 rfl rfl λa E=>?_;refine BX 1 E I λb1 a w E I=>?_;change U W w (aa b1 186 (di b adT cT)::_) at I;refine IF 8 E I (λaj a E=>?_) λaj a E=>?_
 ·
  refine BY 5 E I (λbX a E=>?_) λbX a E=>?_
  ·
   refine RT 6 E I ?_;exact⟨_,rfl,(by rw[ct,cX];omega),I.sub⟩
  refine RT 6 E I ?_;exact⟨_,rfl,⟨λh=>(by cases h),λh=>by rw[cX]at h;exfalso;omega⟩,I.sub⟩
 refine IF 3 E I (λao a E=>?_) λao a E=>?_
 ·
  refine BY 5 E I (λbX a E=>?_) λbX a E=>?_
  ·
   refine BY 5 E I (λfa a E=>?_) λfa a E=>?_
   ·
    refine RT 6 E I ?_;exact⟨_,rfl,(by rw[ct,cX];omega),I.sub⟩
   refine RT 6 E I ?_;exact⟨_,rfl,⟨λh=>(by cases h),λh=>by rw[cX]at h;exfalso;omega⟩,I.sub⟩
  refine RT 11 E I ?_;exact⟨_,rfl,⟨λh=>(by cases h),λh=>by rw[cX]at h;exfalso;omega⟩,I.sub⟩
 refine IF 3 E I (λay a E=>?_) λay a E=>?_
 ·
  refine BY 5 E I (λbX a E=>?_) λbX a E=>?_
  ·
   refine BY 6 E I (λuh a E=>?_) λuh a E=>?_
   ·
    refine RT 6 E I ?_;exact⟨_,rfl,(by rw[ct,cX];omega),I.sub⟩
   refine RT 6 E I ?_;exact⟨_,rfl,⟨λh=>(by cases h),λh=>by rw[cX]at h;exfalso;omega⟩,I.sub⟩
  refine RT 12 E I ?_;exact⟨_,rfl,⟨λh=>(by cases h),λh=>by rw[cX]at h;exfalso;omega⟩,I.sub⟩
 refine RT 2 E I ?_;exact⟨_,rfl,⟨λh=>(by cases h),λh=>by rw[cX]at h;exfalso;omega⟩,I.sub⟩
theorem LG (I:U W w L)(hb:cX b)(eB:past.length≤4000)(jT:past.length≤c)(hp:∀ w',U W w' L→aX w' ad past.length past) :
   Calls prog 324 #[.agg (di b adT cT).toArray,.slice ad past.length c] w λe w'=>e=.returned (.agg (ints .i64 256 (gG b past)).toArray)∧U W w' L:=by
 simp only[cX]at hb;refine EN func324 ntmps324 rfl rfl λa E=>?_;refine BX 1 E I λb2 a w E I=>?_;change U W w (aa b2 186 (di b adT cT)::_) at I;refine AL 0 E I λb4 a w E I=>?_;rw[qx]at I;refine AL 1 E I λb5 a w E I=>?_;rw[qx]at I;refine BY 6 E I (λbX a E=>?_) λbX a E=>?_
 ·
  refine SA 9 E I λa w E I=>?_;refine RT 0 E I ?_;exact⟨by rw[gG,ag (by omega)],I.sub⟩
 refine IF 6 E I (λaj a E=>?_) λaj a E=>?_
 ·
  refine SA 2 E I λa w E I=>?_;refine RT 0 E I ?_;exact⟨by rw[gG,ak (by omega),yi (by omega)],I.sub⟩
 refine RN 1 E I λa E=>?_;have cd:b.kind=2:=by omega
 obtain⟨o,ho⟩:∃ o:Nat,b.order=(o:Int):=⟨b.order.toNat,by omega⟩;rw[di,ho]at I;have dV:o≤past.length:=by omega
 have kV:gG b past=g4 o past past.length:=by rw[gG,ak cd,ho,Int.toNat_natCast]
 refine RN 6 E I λa E=>?_;rw[show ((past.length:Nat):Int)-(o:Int)=((past.length-o:Nat):Int) from by omega]at E;refine RN 7 E I λa E=>?_;rw[show past.length-(past.length-o)=o from by omega]at E;have Y6:o≤3:=by omega
 refine aO (λμ a w=>∃ (i:Nat),(μ=past.length-i∧o≤i∧i≤past.length)∧Fr a 52 [(1,.slice ad past.length c),(2,pt b2),(4,pt b4),(5,pt b5),(6,.slice (fl ad (past.length-o) c 1) o (c-(past.length-o))),(7,.int .i64 i)]∧U W w (aa b5 320 (ints .i64 256 (g4 o past i))::aa b4 320 (ints .i64 256 (λ_=>0))::aa b2 186 [.int .i64 b.kind,.int .i64 o,.slice adT b.table.length cT]::L)) (past.length-o) (⟨o,⟨rfl,a7 _,dV⟩,E.ab [1,2,4,5,6,7],by rw[yi (a7 _)];exact I.sub⟩) ?_;clear E I;rintro μ a w ⟨i,⟨rfl,Fy,hi⟩,E,I⟩;refine IF 6 E I (λao a E=>?_) λao a E=>?_
 ·
  have aH:i<past.length:=by omega
  have nu:=AJ o past i past[i].toNat;have qp:=lQ past[i];refine RN 7 E I λa E=>?_;rw[show ((i:Nat):Int)-(o:Int)=((i-o:Nat):Int) from by omega]at E;refine RN 2 E I λa E=>?_;rw[show i-(i-o)=o from by omega]at E;refine CL 1 E I (KB I ((hp _ I.tail.tail.tail).yj (lo:=i-o) (n:=o) (by omega) jT) (by have:=(hp _ I.tail.tail.tail).yj (lo:=past.length-o) (n:=o) (by omega) jT;exact this)) λa w E I=>?_;refine IF 0 E I (λay a E=>?_) λay a E=>?_
  ·
   obtain⟨bb,oo,rfl,hr⟩:=(hp _ I.tail.tail.tail).get (by omega);refine RN 3 E I λa E=>?_;refine SS E (ae E (hr i _ (dQ aH))) λa E=>?_;refine RN 1 E I λa E=>?_;refine SS E (ae E (I.bz (fN _ qp))) λa E=>?_;refine ST 2 E I (λa w E I=>?_) (hlt:=(by rw[dd];omega));rw[ints_set]at I;refine RN 3 E I λa E=>?_;exact⟨past.length-(i+1),by omega,i+1,⟨rfl,by omega,by omega⟩,E.ab [1,2,4,5,6,7],by
    rw[show g4 o past (i+1)=λj=>if j=past[i].toNat then g4 o past i past[i].toNat+1 else g4 o past i j from by
     rw[g4,ak ⟨Fy,by rw[yh,← ay,fX (l:=past.drop (past.length-o)) (by rw[c3];omega)]⟩,bn,aE aH];rfl]
    exact I.sub⟩
  refine RN 3 E I λa E=>?_;exact⟨past.length-(i+1),by omega,i+1,⟨rfl,by omega,by omega⟩,E.ab [1,2,4,5,6,7],by
   rw[show g4 o past (i+1)=g4 o past i from by
    rw[g4,ag (λh=>by
     have h2:=h.2;rw[yh,← fX (l:=past.drop (past.length-o)) (i:=o) (by rw[c3];omega)]at h2;rw[h2]at ay;cases ay)]]
   exact I.sub⟩
 obtain rfl:i=past.length:=by omega
 refine SA 2 E I λa w E I=>?_;refine RT 0 E I ?_;exact⟨by rw[kV],I.sub⟩
theorem LH (I:U W w L)(eB:past.length≤4000)(hp:∀ w',U W w' L→aX w' ad past.length past) :
   Calls prog 326 #[.slice ad past.length c] w λe w'=>e=.returned (.int .u8 ((il past).toNat:Nat))∧U W w' L:=by
 refine EN func326 ntmps326 rfl rfl λa E=>?_;refine IF 7 E I (λaj a E=>?_) λaj a E=>?_
 ·
  refine RT 2 E I ?_;exact⟨by rw[il,gW (l:=past) (by omega)];rfl,I⟩
 refine RN 1 E I λa E=>?_;obtain⟨bb,oo,rfl,hr⟩:=(hp _ I).get (by omega);refine RN 4 E I λa E=>?_;rw[show ((past.length:Nat):Int)-1=((past.length-1:Nat):Int) from by omega]at E;refine RN 1 E I λa E=>?_;refine SS E (ae E (hr (past.length-1) _ (dQ (by omega)))) λa E=>?_;refine RT 1 E I ?_;refine⟨?_,I⟩;have h0:past≠[]:=λh=>by rw[h]at aj;simp at aj
 rw[il,getLastD_eq_getLast?,List.getLast?_eq_getElem?,aE (by omega)];rfl
theorem LI (I:U W w L)(hb:cX b)(eB:past.length≤4000)(jT:past.length≤c)(hp:∀ w',U W w' L→aX w' ad past.length past)(ht:∀ w',U W w' L→aX w' adT b.table.length b.table) :
   Calls prog 325 #[.agg (di b adT cT).toArray,.slice ad past.length c] w λe w'=>e=.returned (.int .u8 ((m9 b past).toNat:Nat))∧U W w' L:=by
 have lh:=hb;simp only[cX]at lh;refine EN func325 ntmps325 rfl rfl λa E=>?_;refine BX 1 E I λb2 a w E I=>?_;change U W w (aa b2 186 (di b adT cT)::_) at I;refine IF 6 E I (λaj a E=>?_) λaj a E=>?_
 ·
  refine bQ 1 [5,6,7] [0,2,3,4,3001,1005,1006,1007,8,1009,10] E I λa w E I hH hC=>?_;obtain⟨Y7,Y8,rfl,po⟩:=(ht _ I.tail).get (by omega);have Fz:past.length%b.table.length<b.table.length:=Nat.mod_lt _ (by omega);refine RH 8 E I hH hC λa E=>?_;rw[nY]at E;refine RH 1 E I hH hC λa E=>?_;refine SS E (ae E (po (past.length%b.table.length) _ (kX Fz))) λa E=>?_;refine RH 1 E I hH hC λa E=>?_;refine RT 0 E I ?_;exact⟨by rw[m9,ak (by omega)],I.sub⟩
 refine CL 3 E I (LG I hb eB jT (λw' hw=>hp w' hw.tail)) λa w E I=>?_;refine AL 0 E I λb5 a w E I=>?_;rw[qx]at I;refine SA 0 E I λa w E I=>?_;refine CL 2 E I (LH I eB (λw' hw=>hp w' hw.tail.tail)) λa w E I=>?_;refine RN 5 E I λa E=>?_;have FA:=lQ (il past);refine aO (λμ a w=>∃ (i:Nat),(μ=256-i∧i≤256)∧Fr a 41 [(2,pt b2),(5,pt b5),(6,.int .u8 (lV (gG b past) (il past).toNat i:Nat)),(27,.agg (ints .i64 256 (gG b past)).toArray),(28,.int .i64 i)]∧U W w (aa b5 320 (ints .i64 256 (gG b past))::aa b2 186 (di b adT cT)::L)) (256) (⟨0,⟨rfl,by omega⟩,E.ab [2,5,6,27,28],I.sub⟩) ?_;clear E I;rintro μ a w ⟨i,⟨rfl,hi⟩,E,I⟩;refine IF 3 E I (λao a E=>?_) λao a E=>?_
 ·
  have n4:=EY (w:=gG b past) FA (i:=i) hi;have AZ:i<256:=by omega
  refine RN 3 E I λa E=>?_;refine SS E (r5 E underlying320 underlying3 rfl Ty.t3 (by omega) (fN _ AZ)) λa E=>?_;refine RN 6 E I λa E=>?_;refine SS E (ae E (I.bz (fN _ n4))) λa E=>?_;refine IF 1 E I (λay a E=>?_) λay a E=>?_
  ·
   refine SX 1 E I (by rw[wrap_u8];omega) λa E=>?_;refine RN 3 E I λa E=>?_;exact⟨256-(i+1),by omega,i+1,⟨rfl,by omega⟩,by rw[show lV (gG b past) (il past).toNat (i+1)=i from by rw[lV,ak (by omega)]];exact E.ab [2,5,6,27,28],I.sub⟩
  refine RN 2 E I λa E=>?_;exact⟨256-(i+1),by omega,i+1,⟨rfl,by omega⟩,by rw[show lV (gG b past) (il past).toNat (i+1)=lV (gG b past) (il past).toNat i from by rw[lV,ag (by omega)]];exact E.ab [2,5,6,27,28],I.sub⟩
 obtain rfl:i=256:=by omega
 have n4:=EY (w:=gG b past) FA (i:=256) (by omega);refine RT 3 E I ?_;exact⟨by rw[m9,ag (by omega),UInt8.toNat_ofNat',Nat.mod_eq_of_lt (by omega)],I.sub⟩
theorem Y9 (I:U W w L)(eB:past.length≤4000)(hp:∀ w',U W w' L→aX w' ad past.length past) :
   Calls prog 329 #[.slice ad past.length c] w λe w'=>∃ av c',e=.returned (.slice av past.length c')∧U W w' (Sl 5 1 av past.length c' (bc past)::L):=by
 obtain⟨h1,h2,h3⟩:=hp _ I;cases pj:ad with
 | none =>
  have h0:=h2 pj;rw[gW (l:=past) h0];refine EN func329 ntmps329 rfl rfl λa E=>?_;refine RN 6 E I λa E=>?_;replace E:=E.eh 4;refine RT 3 E I ?_;exact⟨_,_,rfl,I.bN _ _ _⟩
 | some a =>
  rw[← pj];refine EN func329 ntmps329 rfl rfl λa E=>?_;refine RN 6 E I λa E=>?_;rw[show ad.isNone=false from by rw[pj];rfl]at E;replace E:=E.aM 4;refine RN 2 E I λa E=>?_;refine tC E rfl I underlying22 Ty.t5 rfl λb5 a w E I ho=>?_;clear ho;replace I:U W w (Sl 5 1 (some ⟨b5,0,none⟩) 0 0 []::L):=I.tail.bN _ _ _;refine RN 1 E I λa E=>?_;refine g2 E rfl I underlying22 Ty.t5 rfl rfl (by decide) (λh0=>(hp _ I.tail).get h0) (by rw[dt];omega) (eo _) (by omega) λse qW a w E I=>?_;rw[nil_append,Nat.zero_add]at I;rw[Nat.zero_add]at E;refine RT 1 E I ?_;exact⟨_,_,rfl,I⟩
theorem Za {to:Int}(I:U W w L)(hb:cX b)(eB:past.length≤1001)(jT:past.length≤c)(hn:m≤1000)(hp:∀ w',U W w' L→aX w' ad past.length past)(ht:∀ w',U W w' L→aX w' adT b.table.length b.table) :
   Calls prog 311 #[.agg (di b adT cT).toArray,.slice ad past.length c,.int .i64 m] w λe w'=>∃ av c',e=.returned (.slice av m c')∧U W w' (Sl 5 1 av m c' (bc (j4 b past m))::L):=by
 refine EN func311 ntmps311 rfl rfl λa E=>?_;refine BX 1 E I λb3 a w E I=>?_;change U W w (aa b3 186 (di b adT cT)::_) at I;refine bh 4 E I (yw I) λr a w E ⟨hr,I⟩=>?_;rw[hr.2 hb]at E;refine RN 1 E I λa E=>?_;replace E:=E.aM 10;refine aY 3 E I (Y9 I (by omega) (λw' hw=>hp w' hw.tail)) λlr dL a w E I=>?_;refine RN 6 E I λa E=>?_;rw[show min (max (m:Int) 0) 1000=(m:Int) from by omega]at E;refine RN 1 E I λa E=>?_;refine aO (λμ a w=>∃ (i:Nat) (ad2:Option Addr) (c2:Nat),(μ=m-i∧i≤m)∧Fr a 29 [(1,.slice ad past.length c),(3,pt b3),(7,.slice ad2 (ef b past i).length c2),(15,.int .i64 m),(16,.int .i64 i)]∧U W w (Sl 5 1 ad2 (ef b past i).length c2 (bc (ef b past i))::aa b3 186 (di b adT cT)::L)) (m) (⟨0,lr,dL,⟨rfl,by omega⟩,E.ab [1,3,7,15,16],I⟩) ?_;clear E I;rintro μ a w ⟨i,ad2,c2,⟨rfl,hi⟩,E,I⟩;refine IF 3 E I (λao a E=>?_) λao a E=>?_
 ·
  have cp:=im b past i;have FB:=(I.sl ad2).2;refine CL 4 E I (LI I hb (by omega) FB (λw' hw=>hw.cu ad2 (ef b past i) rfl rfl) (λw' hw=>ht w' hw.tail.tail)) λa w E I=>?_;refine RN 0 E I λa E=>?_;refine cr E rfl I underlying22 Ty.t5 rfl rfl rfl rfl (by decide) (by decide) λuc a w E I ho=>?_;clear ho;refine RN 0 E I λa E=>?_;refine cK E rfl I underlying22 Ty.t5 rfl rfl I.ai rfl (eo [m9 b (ef b past i)]) (by decide) (by decide) (by omega) λgq gr a w E I=>?_;rw[show bc (ef b past i)++_=bc (ef b past (i+1)) from (fG _ [_]).symm,show (ef b past i).length+1=(ef b past (i+1)).length from by rw[im,im];omega]at I;rw[show (ef b past i).length+1=(ef b past (i+1)).length from by rw[im,im];omega]at E;refine RN 3 E I λa E=>?_;exact⟨m-(i+1),by omega,i+1,gq,gr,⟨rfl,by omega⟩,E.ab [1,3,7,15,16],I.sub⟩
 obtain rfl:i=m:=by omega
 have cp:=im b past i;refine RT 6 E I ?_;have h1:=I.Cm ad2 past.length (ef b past i).length (by omega) (a7 _);rw[show (ef b past i).length-past.length=i from by omega,Nat.mul_one,Nat.mul_one,← Y5,fX (by rw[dt,c3];omega),show List.drop past.length (ef b past i)=j4 b past i from rfl]at h1;refine⟨_,_,by rw[show (ef b past i).length-past.length=i from by omega],h1.sub⟩
end
end
end Go.Proofs.YteoldcfapaiobaaGreat
