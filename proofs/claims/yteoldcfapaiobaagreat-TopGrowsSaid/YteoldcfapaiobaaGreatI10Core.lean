/- What a player knows, in memory: core.May, New, Conf, Queue, Head, Closed, Press, note, hold, Mark, Marks, Events. -/
import Derived.Test.YteoldcfapaiobaaGreatI08Pkt3
import Derived.Test.YteoldcfapaiobaaGreatI09CoQ
import Derived.Test.YteoldcfapaiobaaGreatI05Vm
import Derived.Test.YteoldcfapaiobaaGreatI06Ref
import Derived.ChangeSame
import Derived.Test.YteoldcfapaiobaaGreatI01Row
namespace Go.Proofs.YteoldcfapaiobaaGreat
open Tryz
open List (length_range take_succ_cons nil_append ext_getElem set_set map_drop range_succ getElem?_set_ne getElem?_set_self replicate_succ' getLastD_eq_getLast?)
open Go.RowKit
set_option linter.unusedVariables false
set_option linter.unusedSimpArgs false
set_option maxRecDepth 10000
set_option synthInstance.maxSize 4000
set_option synthInstance.maxHeartbeats 400000
section
abbrev iY (p:Pe):List Value:=[.int .i64 p.has,.int .i64 p.heard,.int .i64 p.frame,.int .u32 p.sum,.bool p.apart]
theorem j2 (p:Pe):(iY p).length=5:=rfl
theorem aaS (p:Pe):∀ v∈iY p,v.oneCell'=true:=by
 intro v hv;simp[iY]at hv;rcases hv with rfl | rfl | rfl | rfl | rfl <;> rfl
def c6 (l:List Nat):List Value:=l.map λs:Nat=>Value.int .u32 (s:Int)
structure qo where
 cb:Nat
 qb:Nat
 aB:List Nat
 bp:Nat
 op:Nat
structure po where
 cP:Nat
 cm:Option Addr
 cM:Nat
 adE:Option Addr
 cE:Nat
abbrev iL (k:Ks)(B:qo)(A:po):List Value:=[.int .i64 k.n,.int .i64 k.me,.int .i64 k.id,.int .i64 k.aJ,.int .i64 k.bt,.int .i64 k.bh,.int .i64 k.order,.int .i64 k.cx,.int .i64 k.workers,.int .i64 k.room,
 pt B.qb,.slice (some ⟨B.bp,B.op,none⟩) k.ps.length A.cP,.slice A.cm k.mr.length A.cM,.slice A.adE k.ev.length A.cE,.int .i64 k.now,.bool k.cl]
def az (B:qo)(k:Ks):SP:=λh=>∃ A:po,cp [aa B.cb 257 (iL k B A),Sl 259 5 (some ⟨B.bp,B.op,none⟩) k.ps.length A.cP (rows iY k.ps),Sl 100 1 A.cm k.mr.length A.cM (c6 k.mr),Sl 135 1 A.adE k.ev.length A.cE (k.ev.map cC),Qu B.qb B.aB k.ls] h
section
variable {W w:World}{L L' R:List SP}{n c cb qb i:Nat}{ad:Option Addr}{aB:List Nat}{k:Ks}{A:po}{B:qo}{cf:Cf}{e:kv}
theorem az.open (I:U W w (az B k::L)):∃ A:po,U W w (aa B.cb 257 (iL k B A)::Sl 259 5 (some ⟨B.bp,B.op,none⟩) k.ps.length A.cP (rows iY k.ps)::Sl 100 1 A.cm k.mr.length A.cM (c6 k.mr)::Sl 135 1 A.adE k.ev.length A.cE (k.ev.map cC)::Qu B.qb B.aB k.ls::L):=by
 obtain⟨A,_,I⟩:=I.jS (ι:=po) (p:=λ_=>True) (B:=λA h=>cp [aa B.cb 257 (iL k B A),Sl 259 5 (some ⟨B.bp,B.op,none⟩) k.ps.length A.cP (rows iY k.ps),Sl 100 1 A.cm k.mr.length A.cM (c6 k.mr),Sl 135 1 A.adE k.ev.length A.cE (k.ev.map cC),Qu B.qb B.aB k.ls] h) λ_ ⟨A,h⟩=>⟨A,trivial,h⟩;exact⟨A,I.open (M:=[_,_,_,_,_]) λ_ h=>h⟩
theorem az.close (I:U W w (aa B.cb 257 (iL k B A)::Sl 259 5 (some ⟨B.bp,B.op,none⟩) k.ps.length A.cP (rows iY k.ps)::Sl 100 1 A.cm k.mr.length A.cM (c6 k.mr)::Sl 135 1 A.adE k.ev.length A.cE (k.ev.map cC)::Qu B.qb B.aB k.ls::L)):U W w (az B k::L) :=
 U.shut (M:=[_,_,_,_,_]) I λ_ h=>⟨A,h⟩
theorem az.mk' (I:U W w L)(A:po)[kk:fM L (aa B.cb 257 (iL k B A)::Sl 259 5 (some ⟨B.bp,B.op,none⟩) k.ps.length A.cP (rows iY k.ps)::Sl 100 1 A.cm k.mr.length A.cM (c6 k.mr)::Sl 135 1 A.adE k.ev.length A.cE (k.ev.map cC)::Qu B.qb B.aB k.ls::L') R]:U W w (az B k::L'):=az.close (A:=A) I.sub
theorem az.fold (I:U W w L)(B:qo)(k:Ks)(A:po)[kk:fM L [aa B.cb 257 (iL k B A),Sl 259 5 (some ⟨B.bp,B.op,none⟩) k.ps.length A.cP (rows iY k.ps),Sl 100 1 A.cm k.mr.length A.cM (c6 k.mr),Sl 135 1 A.adE k.ev.length A.cE (k.ev.map cC),Qu B.qb B.aB k.ls] R]:U W w (az B k::R):=az.close (A:=A) (I.perm kk.perm)
theorem pq {x lo hi:Int}(I:U W w L):Calls prog 167 #[.int .i64 x,.int .i64 lo,.int .i64 hi] w λe w'=>∃ r:Bool,e=.returned (.bool r)∧(r=true↔fE x lo hi)∧U W w' L:=by
 refine EN func167 ntmps167 rfl rfl λa E=>?_;refine BY 7 E I (λbW a E=>?_) λbW a E=>?_
 ·
  refine RT 5 E I ?_;exact⟨_,rfl,⟨λh=>⟨bW,pN h⟩,λh=>dr h.2⟩,I⟩
 refine RT 5 E I ?_;exact⟨_,rfl,⟨λh=>(by cases h),λh=>by have:=h.1;omega⟩,I⟩
theorem Nv (I:U W w L):Calls prog 130 #[.agg (bS cf).toArray] w λe w'=>∃ r:Bool,e=.returned (.bool r)∧(r=true↔eY cf)∧U W w' L:=by
 refine EN func130 ntmps130 rfl rfl λa E=>?_;refine BX 1 E I λb1 a w E I=>?_;change U W w (aa b1 28 (bS cf)::_) at I;refine RN 1 E I λa E=>?_;refine b6 (M:=λa w=>∃ z:Bool,(z=true↔(fE cf.n 2 8∧fE cf.me 0 (cf.n-1)∧fE cf.id 0 1099511627776))∧Fr a 73 [(1,pt b1),(3,.bool z)]∧U W w (aa b1 28 (bS cf)::L)) ?_ ?_
 ·
  refine bg 2 E I (pq I) λr1 a w E ⟨fl,I⟩=>?_;refine BY 1 E I (λbW a E=>?_) λbW a E=>?_
  ·
   refine RN 4 E I λa E=>?_;refine SK (bA E (cv E rfl (s:=8)) (AV E) rfl ?_);clear E a;intro a E;have nK:IntKind.i64.wrap (cf.n-1)=cf.n-1:=gy (by have:=(fl.1 bW).1;omega) (by have:=(fl.1 bW).2;omega);rw[nK]at E;refine bg 0 E I (pq I) λr2 a w E ⟨eO,I⟩=>?_;refine BY 2 E I (λlq a E=>?_) λlq a E=>?_
   ·
    refine BY 5 E I (λvq a E=>?_) λvq a E=>?_
    ·
     refine RN 5 E I λa E=>?_;exact⟨_,⟨λh=>⟨fl.1 bW,eO.1 lq,vq,pN h⟩,λh=>dr h.2.2.2⟩,E.ab [1,3],I⟩
    refine RN 5 E I λa E=>?_;exact⟨_,⟨λh=>(by cases h),λh=>by have:=h.2.2.1;omega⟩,E.ab [1,3],I⟩
   refine RN 10 E I λa E=>?_;exact⟨_,⟨λh=>(by cases h),λh=>by have:=eO.2 h.2.1;rw[lq]at this;cases this⟩,E.ab [1,3],I⟩
  refine RN 18 E I λa E=>?_;exact⟨_,⟨λh=>(by cases h),λh=>by have:=fl.2 h.1;rw[bW]at this;cases this⟩,E.ab [1,3],I⟩
 clear E;(try clear I);rintro a w ⟨z1,cW,E,I⟩;refine b6 (M:=λa w=>∃ z:Bool,(z=true↔(fE cf.aJ 0 8∧fE cf.bt 1 16∧fE cf.bh 1 3∧fE cf.order 0 3))∧Fr a 73 [(1,pt b1),(3,.bool z1),(4,.bool z)]∧U W w (aa b1 28 (bS cf)::L)) ?_ ?_
 ·
  refine bg 2 E I (pq I) λr1 a w E ⟨fl,I⟩=>?_;refine BY 1 E I (λbW a E=>?_) λbW a E=>?_
  ·
   refine bg 2 E I (pq I) λr2 a w E ⟨eO,I⟩=>?_;refine BY 2 E I (λfm a E=>?_) λfm a E=>?_
   ·
    refine bg 2 E I (pq I) λr3 a w E ⟨kn,I⟩=>?_;refine BY 2 E I (λnJ a E=>?_) λnJ a E=>?_
    ·
     refine bg 2 E I (pq I) λGe a w E ⟨q9,I⟩=>?_;refine RN 2 E I λa E=>?_;exact⟨_,⟨λh=>⟨fl.1 bW,eO.1 fm,kn.1 nJ,q9.1 h⟩,λh=>q9.2 h.2.2.2⟩,E.ab [1,3,4],I⟩
    refine RN 5 E I λa E=>?_;exact⟨_,⟨λh=>(by cases h),λh=>by have:=kn.2 h.2.2.1;rw[nJ]at this;cases this⟩,E.ab [1,3,4],I⟩
   refine RN 10 E I λa E=>?_;exact⟨_,⟨λh=>(by cases h),λh=>by have:=eO.2 h.2.1;rw[fm]at this;cases this⟩,E.ab [1,3,4],I⟩
  refine RN 15 E I λa E=>?_;exact⟨_,⟨λh=>(by cases h),λh=>by have:=fl.2 h.1;rw[bW]at this;cases this⟩,E.ab [1,3,4],I⟩
 clear E;(try clear I);rintro a w ⟨z2,eU,E,I⟩;refine BY 3 E I (λmx a E=>?_) λmx a E=>?_
 ·
  refine BY 3 E I (λdt a E=>?_) λdt a E=>?_
  ·
   refine BY 4 E I (λfm a E=>?_) λfm a E=>?_
   ·
    have Hv:cf.order=0∨cf.bh=2:=.inl fm;refine bg 8 E I (pq I) λr1 a w E ⟨fl,I⟩=>?_;refine BY 2 E I (λqk a E=>?_) λqk a E=>?_
    ·
     refine bg 2 E I (pq I) λr2 a w E ⟨eO,I⟩=>?_;refine BY 2 E I (λvJ a E=>?_) λvJ a E=>?_
     ·
      refine bg 2 E I (pq I) λr3 a w E ⟨kn,I⟩=>?_;refine RT 2 E I ?_;exact⟨_,rfl,⟨λh=>⟨cW.1 mx,eU.1 dt,Hv,fl.1 qk,eO.1 vJ,kn.1 h⟩,λh=>kn.2 h.2.2.2.2.2⟩,I.sub⟩
     refine RT 5 E I ?_;exact⟨_,rfl,⟨λh=>(by cases h),λh=>by have:=eO.2 h.2.2.2.2.1;rw[vJ]at this;cases this⟩,I.sub⟩
    refine RT 10 E I ?_;exact⟨_,rfl,⟨λh=>(by cases h),λh=>by have:=fl.2 h.2.2.2.1;rw[qk]at this;cases this⟩,I.sub⟩
   refine BY 6 E I (λlp a E=>?_) λlp a E=>?_
   ·
    have Hv:cf.order=0∨cf.bh=2:=.inr lp;refine bg 2 E I (pq I) λr1 a w E ⟨fl,I⟩=>?_;refine BY 2 E I (λqk a E=>?_) λqk a E=>?_
    ·
     refine bg 2 E I (pq I) λr2 a w E ⟨eO,I⟩=>?_;refine BY 2 E I (λvJ a E=>?_) λvJ a E=>?_
     ·
      refine bg 2 E I (pq I) λr3 a w E ⟨kn,I⟩=>?_;refine RT 2 E I ?_;exact⟨_,rfl,⟨λh=>⟨cW.1 mx,eU.1 dt,Hv,fl.1 qk,eO.1 vJ,kn.1 h⟩,λh=>kn.2 h.2.2.2.2.2⟩,I.sub⟩
     refine RT 5 E I ?_;exact⟨_,rfl,⟨λh=>(by cases h),λh=>by have:=eO.2 h.2.2.2.2.1;rw[vJ]at this;cases this⟩,I.sub⟩
    refine RT 10 E I ?_;exact⟨_,rfl,⟨λh=>(by cases h),λh=>by have:=fl.2 h.2.2.2.1;rw[qk]at this;cases this⟩,I.sub⟩
   refine RT 15 E I ?_;exact⟨_,rfl,⟨λh=>(by cases h),λh=>by have:=h.2.2.1;omega⟩,I.sub⟩
  refine RT 25 E I ?_;exact⟨_,rfl,⟨λh=>(by cases h),λh=>by have:=eU.2 h.2.1;rw[dt]at this;cases this⟩,I.sub⟩
 refine RT 28 E I ?_;exact⟨_,rfl,⟨λh=>(by cases h),λh=>by have:=cW.2 h.1;rw[mx]at this;cases this⟩,I.sub⟩
theorem aaT (I:U W w L)(h:¬ eY cf):Calls prog 96 #[.agg (bS cf).toArray] w λe w'=>e=.returned (.tuple #[.pointer none,.int .i64 1])∧U W w' L:=by
 refine EN func96 ntmps96 rfl rfl λa E=>?_;refine BX 1 E I λb1 a w E I=>?_;change U W w (aa b1 28 (bS cf)::_) at I;refine bg 5 E I (Nv I) λr a w E ⟨hr,I⟩=>?_;rw[show r=false from by cases hh:r with | false=>rfl | true=>exact absurd (hr.1 hh) h]at E;refine RN 1 E I λa E=>?_;replace E:=E.ek 7;refine RT 4 E I ?_;exact⟨rfl,I.sub⟩
theorem Nw {n me aJ bt:Nat}{id bh order cx workers room:Int}(I:U W w L)(h:eY ⟨n,me,id,aJ,bt,bh,order,cx,workers,room⟩) :
   Calls prog 96 #[.agg (bS ⟨n,me,id,aJ,bt,bh,order,cx,workers,room⟩).toArray] w λe w'=>∃ B,e=.returned (.tuple #[pt B.cb,.int .i64 0])∧U W w' (az B (ft ⟨n,me,id,aJ,bt,bh,order,cx,workers,room⟩)::L):=by
 have hh:=h;obtain⟨⟨h1,h2,h3⟩,⟨h4,h5,h6,h7⟩,h8,h9,fO,nz⟩:=hh;simp only[fE] at *;refine EN func96 ntmps96 rfl rfl λa E=>?_;refine BX 1 E I λb1 a w E I=>?_;change U W w (aa b1 28 (bS ⟨n,me,id,aJ,bt,bh,order,cx,workers,room⟩)::_) at I;refine bg 5 E I (Nv I) λr a w E ⟨hr,I⟩=>?_;rw[hr.2 h]at E;refine RN 1 E I λa E=>?_;replace E:=E.aQ 7;refine RN 1 E I λa E=>?_;refine b6 (M:=λa w=>∃ cb qb aB,Fr a 34 [(1,pt b1),(4,pt cb)]∧U W w (aa cb 257 [.int .i64 n,.int .i64 me,.int .i64 id,.int .i64 aJ,.int .i64 bt,.int .i64 bh,.int .i64 order,.int .i64 cx,.int .i64 workers,.int .i64 room,pt qb,.slice none 0 0,.slice none 0 0,.slice none 0 0,.int .i64 0,.bool false]::Qu qb aB (List.replicate n (List.replicate aJ 0))::aa b1 28 (bS ⟨n,me,id,aJ,bt,bh,order,cx,workers,room⟩)::L)) ?_ ?_
 ·
  refine aV 0 (λw0 w'=>Rd w' b1 0 (bS ⟨n,me,id,aJ,bt,bh,order,cx,workers,room⟩)) [2,4,5] [1,3,3000,3002,1004,1005,6,1007,8] E I λa w E I hH=>?_;have hC:=hH.at w I.ai;refine RH 2 E I hH hC λa E=>?_;refine QH E (λw hc=>bT E rU rfl Ty.t28 (hc)) hC λa E=>?_;simp only[bS]at E;refine RH 0 E I hH hC λa E=>?_;refine QH E (λw hc=>ae E (hc 0 _ rfl)) hC λa E=>?_;refine RH 0 E I hH hC λa E=>?_;refine SS E (ae E (hC 3 _ rfl)) λa E=>?_;refine RH 0 E I hH hC λa E=>?_;refine aY 0 E I (aaE (n:=n) (d:=aJ) I (by omega) (by omega)) λqb aB a w E I=>?_;replace hC:=hH.at w I.ai;refine RH 1 E I hH hC λa E=>?_;refine yB E rfl I rfl λW7 a w E I ho=>?_;clear ho;refine RN 1 E I λa E=>?_;exact⟨_,qb,aB,E.ab [1,4],I⟩
 clear E;(try clear I);rintro a w ⟨cb,qb,aB,E,I⟩;refine RN 5 E I λa E=>?_;replace I:=I.bQ 259 5 none;refine aL (λμ a w=>∃ (i:Nat) (ad:Option Addr) (c:Nat),(μ=n-i∧i≤n)∧Fr a 34 [(1,pt b1),(4,pt cb),(17,.int .i64 n),(18,.int .i64 i)]∧U W w (aa cb 257 [.int .i64 n,.int .i64 me,.int .i64 id,.int .i64 aJ,.int .i64 bt,.int .i64 bh,.int .i64 order,.int .i64 cx,.int .i64 workers,.int .i64 room,pt qb,.slice ad i c,.slice none 0 0,.slice none 0 0,.int .i64 0,.bool false]::Sl 259 5 ad i c (rows iY (List.replicate i (fF aJ)))::Qu qb aB (List.replicate n (List.replicate aJ 0))::aa b1 28 (bS ⟨n,me,id,aJ,bt,bh,order,cx,workers,room⟩)::L)) (n) (⟨0,none,0,⟨rfl,by omega⟩,E.ab [1,4,17,18],(I.perm (c1 _ _ _):U W w (aa cb 257 _::Sl 259 5 none 0 0 []::_))⟩) ?_;clear E I;rintro μ a w ⟨i,ad,c,⟨rfl,hi⟩,E,I⟩;refine IF 3 E I (λao a E=>?_) λao a E=>?_
 ·
  refine bM 1 [6,7,8] [0,1,2,3,5,3004,1006,1007,1008,1009,10,11,1012] E I λa w E I hH hC=>?_;refine RH 8 E I hH hC λa E=>?_;refine ct E rfl I E0 Ty.t259 rfl rfl rfl rfl (by decide) (by decide) λKu a w E I ho=>?_;replace hC:=hC.trans ho;clear ho;refine RH 0 E I hH hC λa E=>?_;refine cR E rfl I E0 Ty.t259 rfl rfl I.ai rfl (aaS (fF aJ)) (by decide) (by decide) (by omega) λNx Ny a w E I=>?_;rw[show rows iY (List.replicate i (fF aJ))++_=rows iY (List.replicate (i+1) (fF aJ)) from by rw[replicate_succ',kK];rfl]at I;refine ST 2 E I (λa w E I=>?_);refine RN 2 E I λa E=>?_;exact⟨n-(i+1),by omega,i+1,Nx,Ny,⟨rfl,by omega⟩,E.ab [1,4,17,18],I.sub⟩
 obtain rfl:i=n:=by omega
 replace I:=I.bQ 100 1 none;replace I:=I.bQ 135 1 none;refine RT 4 E I ?_;obtain⟨bp,op,rfl,_⟩:=(I.pick (Sl 259 5 ad i c (rows iY (List.replicate i (fF aJ))))).bU ad (by omega);refine⟨⟨cb,qb,aB,bp,op⟩,rfl,?_⟩;refine az.close (A:=⟨c,none,0,none,0⟩) ?_;have hl:(ft ⟨i,me,id,aJ,bt,bh,order,cx,workers,room⟩).ps.length=i:=by simp[ft]
 rw[iL,hl];exact I.sub (M:=aa cb 257 [.int .i64 i,.int .i64 me,.int .i64 id,.int .i64 aJ,.int .i64 bt,.int .i64 bh,.int .i64 order,.int .i64 cx,.int .i64 workers,.int .i64 room,pt qb,.slice (some ⟨bp,op,none⟩) i c,.slice none 0 0,.slice none 0 0,.int .i64 0,.bool false]::Sl 259 5 (some ⟨bp,op,none⟩) i c (rows iY (List.replicate i (fF aJ)))::Sl 100 1 none 0 0 []::Sl 135 1 none 0 0 []::Qu qb aB (List.replicate i (List.replicate aJ 0))::L)
theorem Nz (I:U W w (az B k::L)):Calls prog 292 #[pt B.cb] w λe w'=>e=.returned (.agg (bS (fq k)).toArray)∧U W w' (az B k::L):=by
 obtain⟨A,I⟩:=az.open I;refine EN func292 ntmps292 rfl rfl λa E=>?_;refine AL 1 E I λb2 a w E I=>?_;refine RN 4 E I λa E=>?_;replace E:=E.aQ 4;refine SA 6 E I λa w E I=>?_;refine RT 0 E I ?_;exact⟨rfl,az.close I.tail⟩
theorem pv (I:U W w (az B k::L)):Calls prog 134 #[pt B.cb] w λe w'=>e=.returned (pt B.qb)∧U W w' (az B k::L):=by
 obtain⟨A,I⟩:=az.open I;refine EN func134 ntmps134 rfl rfl λa E=>?_;refine RN 6 E I λa E=>?_;replace E:=E.aQ 4;refine RT 7 E I ?_;exact⟨rfl,az.close I⟩
theorem az.Hw (I:U W w (az B k::L)):∃ D:SP,U W w (Qu B.qb B.aB k.ls::D::L)∧∀ (w':World) (L':List SP) (k0:List (List UInt8)),U W w' (Qu B.qb B.aB k0::D::L')→U W w' (az B { k with ls:=k0 }::L'):=by
 obtain⟨A,I⟩:=az.open I;refine⟨λh=>cp [aa B.cb 257 (iL k B A),Sl 259 5 (some ⟨B.bp,B.op,none⟩) k.ps.length A.cP (rows iY k.ps),Sl 100 1 A.cm k.mr.length A.cM (c6 k.mr),Sl 135 1 A.adE k.ev.length A.cE (k.ev.map cC)] h,?_,λw' L' k0 I=>?_⟩
 ·refine U.perm (L:=(λh=>cp [aa B.cb 257 (iL k B A),Sl 259 5 (some ⟨B.bp,B.op,none⟩) k.ps.length A.cP (rows iY k.ps),Sl 100 1 A.cm k.mr.length A.cM (c6 k.mr),Sl 135 1 A.adE k.ev.length A.cE (k.ev.map cC)] h)::Qu B.qb B.aB k.ls::L) ?_ (c1 _ _ _);exact U.shut (M:=[_,_,_,_]) I λ_ h=>h
 ·have h1:=(I.perm (c1 _ _ _)).open (M:=[_,_,_,_]) λ_ h=>h;exact az.close (k:={ k with ls:=k0 }) (A:=A) h1
theorem az.qu (I:U W w (az B k::L)):∃ D:SP,U W w (Qu B.qb B.aB k.ls::D::L)∧∀ (w':World) (L':List SP),U W w' (Qu B.qb B.aB k.ls::D::L')→U W w' (az B k::L'):=by
 obtain⟨D,h1,h2⟩:=az.Hw I;exact⟨D,h1,λw' L' h=>h2 w' L' k.ls h⟩
theorem um (I:U W w (az B k::L))(hk:WC k):Calls prog 275 #[pt B.cb] w λe w'=>e=.returned (.int .i64 (aH k))∧U W w' (az B k::L):=by
 have eF:k.me<k.ls.length:=by rw[hk.ls];exact hk.me
 refine EN func275 ntmps275 rfl rfl λa E=>?_;refine CL 4 E I (pv I) λa w E I=>?_;refine CL 1 E I (Nz I) λa w E I=>?_;refine RN 0 E I λa E=>?_;refine SS E (Kn E rU rfl fk rfl rfl) λa E=>?_;obtain⟨D,I,hD⟩:=az.qu I;refine CL 0 E I (uj I eF) λa w E I=>?_;refine CL 0 E I (zO I eF) λa w E I=>?_;refine RT 1 E I ?_;exact⟨rfl,hD _ _ I⟩
theorem zR (I:U W w (az B k::L)):Calls prog 179 #[pt B.cb] w λe w'=>e=.returned (.bool k.cl)∧U W w' (az B k::L):=by
 obtain⟨A,I⟩:=az.open I;refine EN func179 ntmps179 rfl rfl λa E=>?_;refine RN 6 E I λa E=>?_;replace E:=E.aQ 5;refine RT 6 E I ?_;exact⟨rfl,az.close I⟩
theorem NA (I:U W w (az B k::L)):Calls prog 133 #[pt B.cb] w λe w'=>e=.returned (.int .i64 k.mr.length)∧U W w' (az B k::L):=by
 obtain⟨A,I⟩:=az.open I;refine EN func133 ntmps133 rfl rfl λa E=>?_;refine RN 6 E I λa E=>?_;replace E:=E.aQ 4;refine RT 8 E I ?_;exact⟨rfl,az.close I⟩
theorem Hx (I:U W w (az B k::L))(he:uk e)(hl:k.ev.length≤100):Calls prog 204 #[pt B.cb,.agg (bV e).toArray] w λr w'=>r=.returned (.tuple #[])∧U W w' (az B { k with ev:=k.ev++[e] }::L):=by
 obtain⟨A,I⟩:=az.open I;refine EN func204 ntmps204 rfl rfl λa E=>?_;refine BX 1 E I λb3 a w E I=>?_;change U W w (aa b3 102 (bV e)::_) at I;refine CL 2 E I (aaN I he) λa w E I=>?_;refine AL 3 E I λb4 a w E I=>?_;refine SA 0 E I λa w E I=>?_;refine RN 3 E I λa E=>?_;replace E:=E.ek 11;refine bM 1 [5,6] [0,1,2,3,3004,1005,1006,1007,8,9,1010] E I λa w E I hH hC=>?_;refine RH 6 E I hH hC λa E=>?_;refine ct E rfl I wW Ty.t135 rfl rfl rfl rfl (by decide) (by decide) λtW a w E I ho=>?_;replace hC:=hC.trans ho;clear ho;refine RH 0 E I hH hC λa E=>?_;refine cR E rfl I wW Ty.t135 rfl rfl I.ai rfl (by simpa using Ht e) (by decide) (by decide) (by omega) λB6 B7 a w E I=>?_;rw[show List.map cC k.ev++_=List.map cC (k.ev++[e]) from by rw[cY];rfl,show k.ev.length+1=(k.ev++[e]).length from by simp]at I;rw[show k.ev.length+1=(k.ev++[e]).length from by simp]at E;refine ST 2 E I (λa w E I=>?_);refine RT 0 E I ?_;exact⟨rfl,az.mk' (k:={ k with ev:=k.ev++[e] }) I { A with adE:=B6,cE:=B7 }⟩
structure sL (w:World)(B:qo)(k:Ks):Prop where
 cf:Rd w B.cb 0 [.int .i64 k.n,.int .i64 k.me,.int .i64 k.id,.int .i64 k.aJ,.int .i64 k.bt,.int .i64 k.bh,.int .i64 k.order,.int .i64 k.cx,.int .i64 k.workers,.int .i64 k.room,pt B.qb]
 now:w.cell? ⟨B.cb,14,none⟩=some (.int .i64 k.now)
 cl:w.cell? ⟨B.cb,15,none⟩=some (.bool k.cl)
 pe:∀ (i:Nat) (p:Pe),k.ps[i]?=some p→Rd w B.bp (B.op+i*5) (iY p)
 xS:∃ ad c,w.cell? ⟨B.cb,12,none⟩=some (.slice ad k.mr.length c)
 pl:∃ c,w.cell? ⟨B.cb,11,none⟩=some (.slice (some ⟨B.bp,B.op,none⟩) k.ps.length c)
theorem jt {α:Type}{f:α→List Value}{sz:Nat}(hf:∀ x,(f x).length=sz){l:List α}{i:Nat}{x:α}{b o:Nat}(h:Rd w b o (rows f l))(hx:l[i]?=some x):Rd w b (o+i*sz) (f x):=by
 obtain⟨hi,rfl⟩:=a2.1 hx;have h1:=h.part (i*sz) sz
 rwa [wM hf l i hi]at h1
theorem az.rd (I:U W w (az B k::L)):sL w B k:=by
 obtain⟨A,I⟩:=az.open I;refine⟨I.qD 11,I.bC rfl,I.bC rfl,λi p hp=>?_,⟨_,_,I.bC rfl⟩,⟨_,I.bC rfl⟩⟩;have hi:=(a2.1 hp).1;exact jt j2 (I.cQ B.bp B.op (by omega)) hp
end
theorem CM {l:List Nat}{i:Nat}(h:i<l.length):(c6 l)[i]?=some (.int .u32 (l.getD i 0:Nat)):=by
 rw[c6,bd,aD h,br,aD h];rfl
theorem vK {k:Ks}{i:Nat}(h:i<k.ps.length):k.ps[i]?=some (au k i):=by
 rw[au,br,aD h];rfl
theorem NB {k:Ks}{i:Nat}(h:i<k.ps.length):k.ps[i]=au k i:=by
 rw[au,br,aD h];rfl
section
variable {W w:World}{L L':List SP}{n c i:Nat}{ad:Option Addr}{k:Ks}{A:po}{B:qo}{x:UInt8}
theorem NC (I:U W w (az B k::L))(hk:WC k):Calls prog 175 #[pt B.cb] w λr w'=>r=.returned (.tuple #[])∧U W w' (az B (lD k)::L):=by
 have eI:k.ps.length=k.n:=hk.ps;obtain⟨A0,I⟩:=az.open I;refine EN func175 ntmps175 rfl rfl λa E=>?_;refine RN 7 E I λa E=>?_;replace I:=az.close I;refine aL (λμ a w=>∃ (i:Nat),(μ=k.ps.length-i∧i≤k.ps.length)∧Fr a 71 [(0,pt B.cb),(8,.int .i64 k.ps.length),(9,.int .i64 i)]∧U W w (az B (gG k i)::L)) (k.ps.length) (⟨0,⟨rfl,by omega⟩,E.ab [0,8,9],I⟩) ?_;clear E I;rintro μ a w ⟨i,⟨rfl,hi⟩,E,I⟩;refine IF 3 E I (λak a E=>?_) λak a E=>?_
 ·
  have aG:i<k.ps.length:=by omega
  have kc:=hk.gG (i:=i) (by omega);have dR:=CF k i;have fj:gG k (i+1)=lC (gG k i) i:=rfl;rw[lC]at fj;generalize gG k i=kk at I kc dR fj;rw[← dR]at aG;have iJ:=kc.qm (i:=i) (by rw[← kc.ps];exact aG);have eX:=vK aG;have MB:i<8:=by have:=kc.n;have:=kc.ps;omega
  obtain⟨A,I⟩:=az.open I;have fo:=jt j2 (I.cQ B.bp B.op (by omega)) eX;refine RN 14 E I λa E=>?_;have fo:Rd w.drew B.bp (B.op+i*5) (iY (au kk i)):=fo;have j0:Rd w.drew B.cb 0 (iL kk B A):=I.drew.ai;refine rT 0 (Old w.drew) [13,14,31,35,36,37,38] [0,1,2,1003,4,5,6,7,8,10,11,12,3009,1013,1014,15,16,17,18,19,20,1021,22,23,24,25,26,28,29,30,32,33,34,3027,3031,1035,1036,1037,1038,39,40] E I λa E=>?_;replace I:=I.drew;have hH:=Hd.gw I;have hC:=Old.refl w.drew;generalize w.drew=w at I hH hC fo j0 ⊢;refine RH 3 E I hH hC λa E=>?_;refine SS E (ae E (fo 2 _ rfl)) λa E=>?_;refine RH 2 E I hH hC λa E=>?_;refine E.by (s:=23) (λjr E=>?_) (λjr E=>?_)
  ·
   refine RH 35 E I hH hC λa E=>?_;refine RN 3 E I λa E=>?_;rw[ag (λh=>by have:=h.2.1;omega)]at fj;exact⟨k.ps.length-(i+1),by omega,i+1,⟨rfl,by omega⟩,E.ab [0,8,9],by rw[fj];exact az.close I⟩
  refine RH 6 E I hH hC λa E=>?_;refine QH E (λw hc=>ae E (hc.cell (fo 2 _ rfl))) hC λa E=>?_;refine RH 0 E I hH hC λa E=>?_;refine bA E (cv E rfl (s:=23)) (ae E (j0 12 _ rfl)) rfl λa E=>?_;refine RH 4 E I hH hC λa E=>?_;refine E.by (s:=35) (λaaU E=>?_) (λaaU E=>?_)
  ·
   refine RH 23 E I hH hC λa E=>?_;refine RN 3 E I λa E=>?_;rw[ag (λh=>by have:=h.2.2.1;omega)]at fj;exact⟨k.ps.length-(i+1),by omega,i+1,⟨rfl,by omega⟩,E.ab [0,8,9],by rw[fj];exact az.close I⟩
  refine RH 3 E I hH hC λa E=>?_;refine bA E (cv E rfl (s:=35)) (ae E (fo 4 _ rfl)) rfl λa E=>?_;refine RH 2 E I hH hC λa E=>?_;refine E.by (s:=41) (λm1 E=>?_) (λm1 E=>?_)
  ·
   refine RH 17 E I hH hC λa E=>?_;refine RN 3 E I λa E=>?_;rw[ag (λh=>by have:=h.1;rw[m1]at this;cases this)]at fj;exact⟨k.ps.length-(i+1),by omega,i+1,⟨rfl,by omega⟩,E.ab [0,8,9],by rw[fj];exact az.close I⟩
  have mi:(au kk i).frame-1<kk.mr.length:=by omega
  obtain⟨Hy,Hz,eF,l8⟩:=I.bU A.cm (by omega);have zS:=j0 12 _ rfl;rw[eF]at zS;refine RH 9 E I hH hC λa E=>?_;refine QH E (λw hc=>ae E (hc.cell (fo 3 _ rfl))) hC λa E=>?_;refine QH E (λw hc=>ae E (hc.cell (zS))) hC λa E=>?_;refine RH 0 E I hH hC λa E=>?_;refine bA E (cv E rfl (s:=41)) (ae E (fo 2 _ rfl)) rfl λa E=>?_;refine RH 1 E I hH hC λa E=>?_;rw[show (((au kk i).frame:Nat):Int)-1=(((au kk i).frame-1:Nat):Int) from by omega]at E;refine RH 1 E I hH hC λa E=>?_;refine bA E (cv E rfl (s:=41)) (ae E (l8 ((au kk i).frame-1) _ (CM mi))) rfl λa E=>?_;refine RH 2 E I hH hC λa E=>?_;refine IF 0 E I (λao a E=>?_) λao a E=>?_
  ·
   refine RN 2 E I λa E=>?_;rw[ag (λh=>by have:=h.2.2.2;omega)]at fj;exact⟨k.ps.length-(i+1),by omega,i+1,⟨rfl,by omega⟩,E.ab [0,8,9],by rw[fj];exact az.close I⟩
  refine RN 1 E I λa E=>?_;rw[aj ⟨m1,by omega,by omega,by omega⟩]at fj;refine RN 3 E I λa E=>?_;refine mN (off:=B.op) (k:=i*5+4) E rfl I Ty.t4 rfl (by omega) (by rw[jC j2];omega) λa w E I=>?_;rw[qO j2 kk.ps { au kk i with apart:=true } aG (by decide) (by rw[NB aG];rfl)]at I;have hR:(kk.ps.set i { au kk i with apart:=true }).length=kk.ps.length:=bz;rw[show iL kk B A=iL { kk with ps:=kk.ps.set i { au kk i with apart:=true } } B A from by simp only[iL,hR],← hR]at I;replace I:=az.mk' (L':=L) (B:=B) (k:={ kk with ps:=kk.ps.set i { au kk i with apart:=true } }) I A;refine RN 5 E I λa E=>?_;refine SS E (ae E (((az.rd I).pe i { au kk i with apart:=true } (by rw[getElem?_set_self aG])) 2 _ rfl)) λa E=>?_;refine CL 1 E I (Hx (e:=(3,i,(au kk i).frame)) I ⟨by simp,by simp,by have:=kc.n;have:=kc.ps;show i<8;omega,iJ.2.2.1,.inl rfl⟩ (by have:=kc.kY;show kk.ev.length≤100;omega)) λa w E I=>?_;refine RN 2 E I λa E=>?_;exact⟨k.ps.length-(i+1),by omega,i+1,⟨rfl,by omega⟩,E.ab [0,8,9],by rw[fj];exact I⟩
 refine RT 0 E I ?_;obtain rfl:i=k.ps.length:=by omega
 exact⟨rfl,I⟩
theorem aaV {s:Nat}(I:U W w (az B k::L))(hk:WC k)(hl:k.mr.length<1000)(zg:s<4294967296):Calls prog 138 #[pt B.cb,.int .u32 s] w λr w'=>r=.returned (.tuple #[])∧U W w' (az B (l4 k s)::L):=by
 have zT : WC { k with mr := k.mr ++ [s] } := { hk with
     mr:=by show (k.mr++[s]).length≤1000;rw[aM,jJ];omega
     sI:=λx hx=>by
      rcases e7.1 hx with hx | hx
      ·exact hk.sI x hx
      ·rw[iP]at hx;rw[hx];exact zg }
 obtain⟨A,I⟩:=az.open I;refine EN func138 ntmps138 rfl rfl λa E=>?_;refine RN 5 E I λa E=>?_;replace E:=E.aQ 6;refine RN 7 E I λa E=>?_;rw[bu (by omega)]at E;refine RN 8 E I λa E=>?_;refine ct E rfl I yQ Ty.t100 rfl rfl rfl rfl (by decide) (by decide) λLd a w E I ho=>?_;clear ho;refine RN 0 E I λa E=>?_;refine cR E rfl I yQ Ty.t100 rfl rfl I.ai rfl (by simp[Value.oneCell']) (by decide) (by decide) (by omega) λr9 sa a w E I=>?_;rw[show c6 k.mr++_=c6 (k.mr++[s]) from by rw[c6,c6,cY];rfl,show k.mr.length+1=(k.mr++[s]).length from by simp]at I;rw[show k.mr.length+1=(k.mr++[s]).length from by simp]at E;refine ST 2 E I (λa w E I=>?_);refine RN 0 E I λa E=>?_;replace I:=az.mk' (B:=B) (L':=L) (k:={ k with mr:=k.mr++[s] }) I { A with cm:=r9,cM:=sa };refine CL 1 E I (NC I zT) λa w E I=>?_;refine RT 0 E I ?_;exact⟨rfl,by rw[l4,aj hl];exact I⟩
theorem aaW (I:U W w (az B k::L)):Calls prog 296 #[pt B.cb] w λr w'=>∃ ad c,r=.returned (.slice ad k.ev.length c)∧U W w' (Sl 135 1 ad k.ev.length c (k.ev.map cC)::az B { k with ev:=[] }::L):=by
 obtain⟨A,I⟩:=az.open I;refine EN func296 ntmps296 rfl rfl λa E=>?_;refine RN 6 E I λa E=>?_;replace E:=E.aQ 5;refine ST 11 E I (λa w E I=>?_);refine RT 3 E I ?_;refine⟨A.adE,A.cE,rfl,?_⟩;replace I:=I.bQ 135 1 none;refine U.perm (L:=az B { k with ev:=[] }::Sl 135 1 A.adE k.ev.length A.cE (k.ev.map cC)::L) ?_ (c1 _ _ _);refine az.close (A:=⟨A.cP,A.cm,A.cM,none,0⟩) ?_;exact I.sub (M:=aa B.cb 257 [.int .i64 k.n,.int .i64 k.me,.int .i64 k.id,.int .i64 k.aJ,.int .i64 k.bt,.int .i64 k.bh,.int .i64 k.order,.int .i64 k.cx,.int .i64 k.workers,.int .i64 k.room,pt B.qb,.slice (some ⟨B.bp,B.op,none⟩) k.ps.length A.cP,.slice A.cm k.mr.length A.cM,.slice none 0 0,.int .i64 k.now,.bool k.cl]::Sl 259 5 (some ⟨B.bp,B.op,none⟩) k.ps.length A.cP (rows iY k.ps)::Sl 100 1 A.cm k.mr.length A.cM (c6 k.mr)::Sl 135 1 none 0 0 []::Qu B.qb B.aB k.ls::Sl 135 1 A.adE k.ev.length A.cE (k.ev.map cC)::L)
theorem aaX (I:U W w (az B k::L))(hk:WC k):Calls prog 297 #[pt B.cb,.int .u8 (x.toNat:Nat)] w λr w'=>r=.returned (.int .i64 (c5 x k).1)∧U W w' (az B (c5 x k).2::L):=by
 have eF:k.me<k.ls.length:=by rw[hk.ls];exact hk.me
 have g4:=hk.l5;have fe:aU k.ls≤aH k:=hk.nO;refine EN func297 ntmps297 rfl rfl λa E=>?_;refine CL 5 E I (zR I) λa w E I=>?_;refine IF 1 E I (λak a E=>?_) λak a E=>?_
 ·
  refine RT 2 E I ?_;exact⟨by rw[c5,aj ak],by rw[c5,aj ak];exact I⟩
 have cr:¬ k.cl=true:=by rw[ak];decide
 refine CL 2 E I (um I hk) λa w E I=>?_;refine IF 2 E I (λao a E=>?_) λao a E=>?_
 ·
  refine RT 2 E I ?_;exact⟨by rw[c5,ag cr,aj (by omega)],by rw[c5,ag cr,aj (by omega)];exact I⟩
 refine aV 1 (λw0 w'=>sL w' B k) [1,6,7,12] [0,2,3,4,8,9,10,11,3005,3012,1001,1006,1007,13,14] E I λa w E I hH=>?_;have hC:=hH.at w (az.rd I);refine RH 8 E I hH hC λa E=>?_;refine QH E (λw hc=>ae E (hc.cf 10 _ rfl)) hC λa E=>?_;refine QH E (λw hc=>ae E (hc.cf 4 _ rfl)) hC λa E=>?_;refine RH 0 E I hH hC λa E=>?_;refine CL 0 E I (um I hk) λa w E I=>?_;replace hC:=hH.at w (az.rd I);obtain⟨D,I,hD⟩:=az.qu I;refine RH 0 E I hH hC λa E=>?_;refine CL 0 E I (sH I hk.lE (by rw[hk.ls];exact hk.n.2)) λa w E I=>?_;replace hC:=hH.at w (az.rd (hD _ _ I));replace I:=hD _ _ I;refine RH 3 E I hH hC λa E=>?_;refine IF 0 E I (λay a E=>?_) λay a E=>?_
 ·
  refine RT 2 E I ?_;exact⟨by rw[c5,ag cr,ag (by omega),aj (by rw[aw];omega)],by rw[c5,ag cr,ag (by omega),aj (by rw[aw];omega)];exact I⟩
 refine aV 1 (λw0 w'=>sL w' B k) [8] [0,1,2,4,5,6,7,10,3003,1008,1009,1011,12] E I λa w E I hH=>?_;have hC:=hH.at w (az.rd I);refine RH 8 E I hH hC λa E=>?_;refine QH E (λw hc=>ae E (hc.cf 10 _ rfl)) hC λa E=>?_;refine RH 0 E I hH hC λa E=>?_;refine SS E (ae E (hC.cf 1 _ rfl)) λa E=>?_;obtain⟨D,I,hD⟩:=az.Hw I;refine RH 0 E I hH hC λa E=>?_;refine CL 0 E I (uj I eF) λa w E I=>?_;refine CL 0 E I (aaz I eF (by simp only[aH]at ao;omega)) λa w E I=>?_;refine RN 1 E I λa E=>?_;refine RT 0 E I ?_;have vL:c5 x k=(0,{ k with ls:=k.ls.set k.me (k.ls.getD k.me []++[x]) }):=by rw[c5,ag cr,ag (by omega),ag (by rw[aw];omega)]
 rw[vL];exact⟨rfl,hD _ _ _ I⟩
end
def m7 (l:List Nat):List Value:=l.map λi:Nat=>Value.int .i64 (i:Int)
theorem HA {l:List Nat}{i j:Nat}(h:l[i]?=some j):(m7 l)[i]?=some (.int .i64 (j:Int)):=by rw[m7,bd,h];rfl
def lF (k:Ks)(i:Nat):List Nat:=(List.range i).filter (·≠k.me)
theorem HB (k:Ks)(i:Nat):lF k (i+1)=if i=k.me then lF k i else lF k i++[i]:=by
 rw[lF,range_succ,y6];by_cases h:i=k.me
 ·rw[aj h];simp[h,lF]
 ·rw[ag h];simp[h,lF]
theorem ND (k:Ks):∀ i,(lF k i).length≤i:=λi=>by
 have:=p0 (λx=>decide (x≠k.me)) (List.range i);rw[length_range]at this;exact this
abbrev Mx:=Option Addr×Nat×Ml
abbrev ca (x:Mx):List Value:=[.int .i64 x.2.2.1,.int .i64 x.2.2.2.1,.slice x.1 x.2.2.2.2.length x.2.1]
theorem ot (x:Mx):(ca x).length=3:=rfl
theorem aaY (x:Mx):∀ v∈ca x,v.oneCell'=true:=by
 intro v hv;simp[ca]at hv;rcases hv with rfl | rfl | rfl <;> rfl
def cd (x:Mx):SP:=Sl 5 1 x.1 x.2.2.2.2.length x.2.1 (bc x.2.2.2.2)
def cg (e:TypeId)(ad:Option Addr)(n c:Nat)(ms:List Ml):SP:=λh=>∃ xs:List Mx,(xs.map (·.2.2)=ms∧ms.length=n)∧cp [Sl e 3 ad n c (rows ca xs),ah cd xs] h
section
variable {W w:World}{L L':List SP}{n c i e to:Nat}{ad adP:Option Addr}{k:Ks}{A:po}{B:qo}{x:UInt8}{ms:List Ml}{p:Pk}
theorem cg.open (I:U W w (cg e ad n c ms::L)):∃ xs:List Mx,xs.map (·.2.2)=ms∧ms.length=n∧U W w (Sl e 3 ad n c (rows ca xs)::ah cd xs::L):=by
 obtain⟨xs,⟨h1,h2⟩,I⟩:=I.jS (ι:=List Mx) (p:=λxs=>xs.map (·.2.2)=ms∧ms.length=n) (B:=λxs h=>cp [Sl e 3 ad n c (rows ca xs),ah cd xs] h) λ_ ⟨xs,h1,h2⟩=>⟨xs,h1,h2⟩;exact⟨xs,h1,h2,I.open (M:=[_,_]) λ_ h=>h⟩
theorem cg.close {xs:List Mx}(I:U W w (Sl e 3 ad n c (rows ca xs)::ah cd xs::L))(h1:xs.map (·.2.2)=ms)(h2:ms.length=n):U W w (cg e ad n c ms::L) :=
 U.shut (M:=[_,_]) I λ_ h=>⟨xs,⟨h1,h2⟩,h⟩
theorem cg.nil (I:U W w L):U W w (cg e none 0 0 []::L):=cg.close (xs:=[]) (U.bQ (U.ji I) e 3 none) rfl rfl
theorem HC (I:U W w (az B k::L))(hk:WC k):Calls prog 315 #[pt B.cb] w λr w'=>∃ ad c,r=.returned (.slice ad (bH k).length c)∧U W w' (Sl 3 1 ad (bH k).length c (m7 (bH k))::az B k::L):=by
 have gP:=hk.ps;have hn:=hk.n;obtain⟨A,I⟩:=az.open I;refine EN func315 ntmps315 rfl rfl λa E=>?_;refine RN 12 E I λa E=>?_;rw[gP]at E;replace I:=az.close I;replace I:=I.bQ 3 1 none;refine aL (λμ a w=>∃ (i:Nat) (ad:Option Addr) (c:Nat),(μ=k.n-i∧i≤k.n)∧Fr a 26 [(0,pt B.cb),(3,.slice ad (lF k i).length c),(9,.int .i64 k.n),(10,.int .i64 i)]∧U W w (Sl 3 1 ad (lF k i).length c (m7 (lF k i))::az B k::L)) (k.n) (⟨0,none,0,⟨rfl,by omega⟩,E.ab [0,3,9,10],I⟩) ?_;clear E I;rintro μ a w ⟨i,ad,c,⟨rfl,hi⟩,E,I⟩;refine IF 3 E I (λak a E=>?_) λak a E=>?_
 ·
  have eb:=ND k i;have l9:=HB k i;refine RN 10 E I λa E=>?_;refine SS E (ae E (((az.rd I.tail).cf 1 _ rfl))) λa E=>?_;refine IF 1 E I (λao a E=>?_) λao a E=>?_
  ·
   rw[ag (by omega)]at l9;refine RN 2 E I λa E=>?_;refine ct E rfl I lR Ty.t3 rfl rfl rfl rfl (by decide) (by decide) λvr a w E I ho=>?_;clear ho;refine RN 0 E I λa E=>?_;refine cR E rfl I lR Ty.t3 rfl rfl I.ai rfl (by simp[Value.oneCell']) (by decide) (by decide) (by omega) λgH gI a w E I=>?_;rw[show m7 (lF k i)++_=m7 (lF k (i+1)) from by rw[l9,m7,m7,cY];rfl,show (lF k i).length+1=(lF k (i+1)).length from by rw[l9,aM];rfl]at I;rw[show (lF k i).length+1=(lF k (i+1)).length from by rw[l9,aM];rfl]at E;refine RN 3 E I λa E=>?_;exact⟨k.n-(i+1),by omega,i+1,gH,gI,⟨rfl,by omega⟩,E.ab [0,3,9,10],I.sub⟩
  rw[aj (by omega)]at l9;refine RN 2 E I λa E=>?_;exact⟨k.n-(i+1),by omega,i+1,ad,c,⟨rfl,by omega⟩,by rw[l9];exact E.ab [0,3,9,10],by rw[l9];exact I⟩
 refine RT 3 E I ?_;obtain rfl:i=k.n:=by omega
 exact⟨ad,c,rfl,I⟩
def uo (k:Ks)(to:Nat)(p:Pk):Pk:={ p with aW:=k.me,to:=to,id:=k.id }
theorem NF (I:U W w (az B k::L))(mE:p.sum<4294967296)(hp:∀ w',U W w' (az B k::L)→aX w' adP p.al.length p.al) :
   Calls prog 316 #[pt B.cb,.agg (dQ p adP c).toArray,.int .i64 to] w λr w'=>∃ av c',r=.returned (.agg (ca (av,c',(k.me,to,aT (uo k to p)))).toArray)∧U W w' (cd (av,c',(k.me,to,aT (uo k to p)))::az B k::L):=by
 refine EN func316 ntmps316 rfl rfl λa E=>?_;refine BX 1 E I λb4 a w E I=>?_;simp only[dQ]at I;refine AL 0 E I λcJ a w E I=>?_;refine aV 1 (λw0 w'=>sL w' B k) [10,12,13,14] [0,1,2,3,5,6,7,8,9,3004,11,3010,1012,1013,1014,15,1016] E I λa w E I hH=>?_;have hC:=hH.at w (az.rd (I.pick (az B k)));refine RH 9 E I hH hC λa E=>?_;refine QH E (λw hc=>ae E (hc.cf 1 _ rfl)) hC λa E=>?_;refine RH 1 E I hH hC λa E=>?_;refine QH E (λw hc=>ae E (hc.cf 2 _ rfl)) hC λa E=>?_;refine RH 0 E I hH hC λa E=>?_;refine ST 0 E I (λa w E I=>?_);replace hC:=hH.at w (az.rd (I.pick (az B k)));refine RH 1 E I hH hC λa E=>?_;refine ST 0 E I (λa w E I=>?_);replace hC:=hH.at w (az.rd (I.pick (az B k)));refine RH 1 E I hH hC λa E=>?_;refine ST 0 E I (λa w E I=>?_);refine aV 1 (λw0 w'=>Rd w' b4 0 (dQ (uo k to p) adP c)) [3,4,5] [0,2,3001,3003,1004,1005,6,1007] E I λa w E I hH=>?_;have hC:=hH.at w (I.ai (b:=b4));refine RH 2 E I hH hC λa E=>?_;refine QH E (λw hc=>ae E (hc 1 _ rfl)) hC λa E=>?_;refine QH E (λw hc=>ae E (hc 2 _ rfl)) hC λa E=>?_;refine RH 0 E I hH hC λa E=>?_;refine SS E (bT E wT rfl Ty.t203 (hC)) λa E=>?_;refine RH 0 E I hH hC λa E=>?_;refine aY 0 E I (MN (p:=uo k to p) (ad:=adP) (c:=c) I mE (λw' hw=>hp w' hw.sub)) λad2 c2 a w E I=>?_;replace hC:=hH.at w (I.ai (b:=b4));refine RH 1 E I hH hC λa E=>?_;refine SA 0 E I λa w E I=>?_;refine RT 0 E I ?_;exact⟨ad2,c2,rfl,I.sub (M:=Sl 5 1 ad2 (aT (uo k to p)).length c2 (bc (aT (uo k to p)))::az B k::L)⟩
theorem NG {l:List Nat}(h:0<l.length):l.getD (l.length-1) 0=l.getLastD 0:=by
 rw[getLastD_eq_getLast?,List.getLast?_eq_getElem?,br]
theorem aaZ (k:Ks)(to:Nat):uo k to ⟨1,0,0,0,(au k to).has,(k.ls.getD to []).length,k.mr.length,k.mr.getLastD 0,((k.ls.getD k.me []).drop (au k to).has).take 32⟩=dW k to:=rfl
set_option maxHeartbeats 1000000 in
theorem aa0 (I:U W w (az B k::L))(hk:WC k)(uq:to<k.n):Calls prog 319 #[pt B.cb,.int .i64 to] w λr w'=>∃ av c',r=.returned (.agg (ca (av,c',(k.me,to,aT (dW k to)))).toArray)∧U W w' (cd (av,c',(k.me,to,aT (dW k to)))::az B k::L):=by
 have eF:k.me<k.ls.length:=by rw[hk.ls];exact hk.me
 have eQ:to<k.ls.length:=by rw[hk.ls];exact uq
 have htp:to<k.ps.length:=by rw[hk.ps];exact uq
 have iJ:=hk.qm uq;have mi:=hk.mG hk.me;have eX:=vK htp;have hn:=hk.n;have NH:=hk.mr;obtain⟨A,I⟩:=az.open I;refine EN func319 ntmps319 rfl rfl λa E=>?_;refine AL 1 E I λb4 a w E I=>?_;refine RN 0 E I λa E=>?_;refine b6 (M:=λa w=>∃ b5:Nat,Fr a 62 [(0,pt B.cb),(1,.int .i64 to),(4,pt b4),(5,pt b5)]∧U W w (aa b5 203 [.int .i64 1,.int .i64 0,.int .i64 0,.int .i64 0,.int .i64 (au k to).has,.slice none 0 0,.int .i64 (k.ls.getD to []).length,.int .i64 k.mr.length,.int .u32 0]::aa b4 124 [.int .i64 0,.int .i64 0,.slice none 0 0]::aa B.cb 257 (iL k B A)::Sl 259 5 (some ⟨B.bp,B.op,none⟩) k.ps.length A.cP (rows iY k.ps)::Sl 100 1 A.cm k.mr.length A.cM (c6 k.mr)::Sl 135 1 A.adE k.ev.length A.cE (k.ev.map cC)::Qu B.qb B.aB k.ls::L)) ?_ ?_
 ·
  refine aV 0 (λw0 w'=>Rd w' B.cb 0 (iL k B A)∧Rd w' B.bp (B.op+to*5) (iY (au k to))) [11,13,14,18,19,21] [0,1,2,4,8,9,10,12,15,16,17,3003,5,6,3007,3011,3018,3019,2013,2014,20,1021,1022] E I λa w E I hH=>?_;have hC:=hH.at w ⟨I.ai (b:=B.cb),jt j2 (I.cQ B.bp B.op (by omega)) eX⟩;refine RH 11 E I hH hC λa E=>?_;refine QH E (λw hc=>ae E (hc.1 11 _ rfl)) hC λa E=>?_;refine RH 2 E I hH hC λa E=>?_;refine QH E (λw hc=>ae E (hc.2 0 _ rfl)) hC λa E=>?_;refine QH E (λw hc=>ae E (hc.1 10 _ rfl)) hC λa E=>?_;refine QH E (λw hc=>ae E (hc.1 12 _ rfl)) hC λa E=>?_;refine RH 1 E I hH hC λa E=>?_;refine DN [(13,[2014,20,1021,1022]),(21,[1013,1014,20,1022])] (by kernel_rfl) rfl ⟨⟨_,rfl,?_⟩,⟨_,rfl,?_⟩,trivial⟩
  ·
   refine RH 0 E I hH hC λa E=>?_;refine CL 0 E I (uj (I.pick (Qu B.qb B.aB k.ls)) eQ) λa w E I=>?_;replace hC:=hH.at w ⟨I.ai (b:=B.cb),jt j2 (I.cQ B.bp B.op (by omega)) eX⟩;refine RH 0 E I hH hC λa E=>?_;refine DN [(14,[20,1021,1022]),(21,[1014,20,1022])] (by kernel_rfl) rfl ⟨⟨_,rfl,?_⟩,⟨_,rfl,?_⟩,trivial⟩
   ·
    refine RH 0 E I hH hC λa E=>?_;refine CL 0 E I (zO (I.pick (Qu B.qb B.aB k.ls)) eQ) λa w E I=>?_;replace hC:=hH.at w ⟨I.ai (b:=B.cb),jt j2 (I.cQ B.bp B.op (by omega)) eX⟩;refine RH 1 E I hH hC λa E=>?_;refine e5 E rfl I Ty.t203 rfl λb5 a w E I ho=>?_;clear ho;replace hC:=hH.at w ⟨I.ai (b:=B.cb),jt j2 (I.cQ B.bp B.op (by omega)) eX⟩;refine RH 0 E I hH hC λa E=>?_;refine SA 0 E I λa w E I=>?_;refine RN 0 E I λa E=>?_;exact⟨_,E.ab [0,1,4,5],I.sub⟩
   refine RH 0 E I hH hC λa E=>?_;refine e5 E rfl I Ty.t203 rfl λb5 a w E I ho=>?_;clear ho;replace hC:=hH.at w ⟨I.ai (b:=B.cb),jt j2 (I.cQ B.bp B.op (by omega)) eX⟩;refine RH 0 E I hH hC λa E=>?_;refine CL 0 E I (zO (I.pick (Qu B.qb B.aB k.ls)) eQ) λa w E I=>?_;replace hC:=hH.at w ⟨I.ai (b:=B.cb),jt j2 (I.cQ B.bp B.op (by omega)) eX⟩;refine RH 1 E I hH hC λa E=>?_;refine SA 0 E I λa w E I=>?_;refine RN 0 E I λa E=>?_;exact⟨_,E.ab [0,1,4,5],I.sub⟩
  refine RH 0 E I hH hC λa E=>?_;refine e5 E rfl I Ty.t203 rfl λb5 a w E I ho=>?_;clear ho;replace hC:=hH.at w ⟨I.ai (b:=B.cb),jt j2 (I.cQ B.bp B.op (by omega)) eX⟩;refine RH 0 E I hH hC λa E=>?_;refine CL 0 E I (uj (I.pick (Qu B.qb B.aB k.ls)) eQ) λa w E I=>?_;replace hC:=hH.at w ⟨I.ai (b:=B.cb),jt j2 (I.cQ B.bp B.op (by omega)) eX⟩;refine RH 0 E I hH hC λa E=>?_;refine CL 0 E I (zO (I.pick (Qu B.qb B.aB k.ls)) eQ) λa w E I=>?_;replace hC:=hH.at w ⟨I.ai (b:=B.cb),jt j2 (I.cQ B.bp B.op (by omega)) eX⟩;refine RH 1 E I hH hC λa E=>?_;refine SA 0 E I λa w E I=>?_;refine RN 0 E I λa E=>?_;exact⟨_,E.ab [0,1,4,5],I.sub⟩
 clear E;(try clear I);rintro a w ⟨b5,E,I⟩;refine b6 (M:=λa w=>∃ (c4:Option Addr) (dU:Nat),Fr a 62 [(0,pt B.cb),(1,.int .i64 to),(4,pt b4),(5,pt b5)]∧U W w (aa b5 203 [.int .i64 1,.int .i64 0,.int .i64 0,.int .i64 0,.int .i64 (au k to).has,.slice c4 (((k.ls.getD k.me []).drop (au k to).has).take 32).length dU,.int .i64 (k.ls.getD to []).length,.int .i64 k.mr.length,.int .u32 0]::Sl 5 1 c4 (((k.ls.getD k.me []).drop (au k to).has).take 32).length dU (bc (((k.ls.getD k.me []).drop (au k to).has).take 32))::aa b4 124 [.int .i64 0,.int .i64 0,.slice none 0 0]::aa B.cb 257 (iL k B A)::Sl 259 5 (some ⟨B.bp,B.op,none⟩) k.ps.length A.cP (rows iY k.ps)::Sl 100 1 A.cm k.mr.length A.cM (c6 k.mr)::Sl 135 1 A.adE k.ev.length A.cE (k.ev.map cC)::Qu B.qb B.aB k.ls::L)) ?_ ?_
 ·
  refine aV 0 (λw0 w'=>Rd w' B.cb 0 (iL k B A)∧Rd w' b5 0 [.int .i64 1,.int .i64 0,.int .i64 0,.int .i64 0,.int .i64 (au k to).has,.slice none 0 0,.int .i64 (k.ls.getD to []).length,.int .i64 k.mr.length,.int .u32 0]) [8,9,11] [0,1,2,4,5,6,7,10,3003,3008,3011,1009,1012,13,1014] E I λa w E I hH=>?_;have hC:=hH.at w ⟨I.ai (b:=B.cb),I.ai (b:=b5)⟩;refine RH 8 E I hH hC λa E=>?_;refine QH E (λw hc=>ae E (hc.1 10 _ rfl)) hC λa E=>?_;refine QH E (λw hc=>ae E (hc.1 1 _ rfl)) hC λa E=>?_;refine QH E (λw hc=>ae E (hc.2 4 _ rfl)) hC λa E=>?_;refine RH 0 E I hH hC λa E=>?_;refine CL 0 E I (uj (I.pick (Qu B.qb B.aB k.ls)) eF) λa w E I=>?_;replace hC:=hH.at w ⟨I.ai (b:=B.cb),I.ai (b:=b5)⟩;refine RH 0 E I hH hC λa E=>?_;refine aY 0 E I (aaB (k:=32) (I.pick (Qu B.qb B.aB k.ls)) eF mi iJ.1 (by decide)) λc4 dU a w E I=>?_;refine ST 1 E I (λa w E I=>?_);refine RN 0 E I λa E=>?_;exact⟨c4,dU,E.ab [0,1,4,5],I.sub⟩
 clear E;(try clear I);rintro a w ⟨c4,dU,E,I⟩;refine b6 (M:=λa w=>Fr a 62 [(0,pt B.cb),(1,.int .i64 to),(4,pt b4),(5,pt b5)]∧U W w (aa b5 203 [.int .i64 1,.int .i64 0,.int .i64 0,.int .i64 0,.int .i64 (au k to).has,.slice c4 (((k.ls.getD k.me []).drop (au k to).has).take 32).length dU,.int .i64 (k.ls.getD to []).length,.int .i64 k.mr.length,.int .u32 (k.mr.getLastD 0:Nat)]::Sl 5 1 c4 (((k.ls.getD k.me []).drop (au k to).has).take 32).length dU (bc (((k.ls.getD k.me []).drop (au k to).has).take 32))::aa b4 124 [.int .i64 0,.int .i64 0,.slice none 0 0]::az B k::L)) ?_ ?_
 ·
  refine IF 10 E I (λak a E=>?_) λak a E=>?_
  ·
   obtain⟨Hy,Hz,HD,l8⟩:=(I.pick (Sl 100 1 A.cm k.mr.length A.cM (c6 k.mr))).bU A.cm (by omega);refine RN 4 E I λa E=>?_;rw[HD]at E;refine RN 2 E I λa E=>?_;rw[show ((k.mr.length:Nat):Int)-1=((k.mr.length-1:Nat):Int) from by omega]at E;refine RN 1 E I λa E=>?_;refine SS E (ae E (l8 (k.mr.length-1) _ (CM (by omega)))) λa E=>?_;refine ST 1 E I (λa w E I=>?_);refine RN 0 E I λa E=>?_;rw[NG (by omega)]at I;exact⟨E.ab [0,1,4,5],(az.fold I B k A).sub⟩
  refine RN 0 E I λa E=>?_;have h0:k.mr.getLastD 0=0:=by rw[hs (l:=k.mr) (by omega)];rfl
  exact⟨E.ab [0,1,4,5],by rw[h0];exact (az.fold I B k A).sub⟩
 clear E;(try clear I);rintro a w ⟨E,I⟩;refine aY 4 E I (NF (p:=⟨1,0,0,0,(au k to).has,(k.ls.getD to []).length,k.mr.length,k.mr.getLastD 0,((k.ls.getD k.me []).drop (au k to).has).take 32⟩) (adP:=c4) (c:=dU) (I.pick (az B k)) (by
  show k.mr.getLastD 0<4294967296;rw[getLastD_eq_getLast?];cases hl:k.mr.getLast? with
  | none=>decide
  | some s=>exact hk.sI s (List.mem_of_getLast? hl)) (λw' hw=>(hw.pick (Sl 5 1 c4 (((k.ls.getD k.me []).drop (au k to).has).take 32).length dU (bc (((k.ls.getD k.me []).drop (au k to).has).take 32)))).cw c4 _ rfl rfl)) λad2 c2 a w E I=>?_
 rw[aaZ]at E I;refine SA 0 E I λa w E I=>?_;refine RT 0 E I ?_;exact⟨ad2,c2,rfl,I.sub⟩
def CO (k:Ks)(j:Nat):List Ml:=((bH k).take j).map λi=>(k.me,i,aT (dW k i))
def CP (k:Ks)(j:Nat):List Ml:=((bH k).take j).map λi=>(k.me,i,aT (iI k i))
theorem NI (k:Ks):(bH k).length≤k.n:=ND k k.n
theorem aa1 (I:U W w (az B k::L))(hk:WC k):Calls prog 298 #[pt B.cb] w λr w'=>∃ ad c,r=.returned (.slice ad (cA k).1.length c)∧U W w' (cg 124 ad (cA k).1.length c (cA k).1::az B (cA k).2::L):=by
 have hn:=hk.n;have eb:=NI k;refine EN func298 ntmps298 rfl rfl λa E=>?_;refine CL 5 E I (zR I) λa w E I=>?_;refine IF 0 E I (λak a E=>?_) λak a E=>?_
 ·
  refine RT 2 E I ?_;exact⟨none,0,by rw[cA,aj ak];rfl,by rw[cA,aj ak];exact cg.nil I⟩
 have hq:cA k=((bH k).map λi=>(k.me,i,aT (iI k i)),{ k with cl:=true }):=by rw[cA,ag (by rw[ak];decide)]
 obtain⟨A,I⟩:=az.open I;refine ST 4 E I (λa w E I=>?_);refine RN 0 E I λa E=>?_;replace I:=az.mk' (B:=B) (L':=L) (k:={ k with cl:=true }) I A;refine aY 5 E I (HC I (by exact (hk.pj).1 |> λh=>by rw[hq]at h;exact h)) λm8 co a w E I=>?_;refine RN 2 E I λa E=>?_;replace I:=U.bQ (U.ji (f:=cd) I) 124 3 none;replace E:Fr a 27 ((14,.int .i64 (0:Nat))::(13,.int .i64 (bH k).length)::(12,.slice m8 (bH k).length co)::(3,.slice none 0 0)::(0,pt B.cb)::[]):=E.ab [14,13,12,3,0];refine aL (λμ a w=>∃ (j:Nat) (xs:List Mx) (ad:Option Addr) (c:Nat),(μ=(bH k).length-j∧j≤(bH k).length∧xs.map (·.2.2)=CP k j∧xs.length=j)∧Fr a 27 [(0,pt B.cb),(3,.slice ad j c),(12,.slice m8 (bH k).length co),(13,.int .i64 (bH k).length),(14,.int .i64 j)]∧U W w (Sl 124 3 ad j c (rows ca xs)::ah cd xs::Sl 3 1 m8 (bH k).length co (m7 (bH k))::az B { k with cl:=true }::L)) ((bH k).length) (⟨0,[],none,0,⟨rfl,by omega,rfl,rfl⟩,E.ab [0,3,12,13,14],I⟩) ?_;clear E I;rintro μ a w ⟨j,xs,ad,c,⟨rfl,hj,eJ,b7⟩,E,I⟩;refine IF 3 E I (λao a E=>?_) λao a E=>?_
 ·
  obtain⟨i,hi⟩:∃ i,(bH k)[j]?=some i:=⟨_,aD (by omega)⟩;obtain⟨ld,oo,rfl,gQ⟩:=(I.pick (Sl 3 1 m8 (bH k).length co (m7 (bH k)))).bU m8 (by omega);refine RN 3 E I λa E=>?_;refine SS E (ae E (gQ j _ (HA hi))) λa E=>?_;refine aY 5 E I (NF (k:={ k with cl:=true }) (to:=i) (p:=⟨2,0,0,0,0,0,0,0,[]⟩) (adP:=none) (c:=0) (I.pick (az B { k with cl:=true })) (by decide) (λw' hw=>aX.nil)) λad2 c2 a w E I=>?_;rw[show uo { k with cl:=true } i ⟨2,0,0,0,0,0,0,0,[]⟩=iI k i from rfl]at E I;refine RN 0 E I λa E=>?_;refine ct E rfl I qP Ty.t124 rfl rfl rfl rfl (by decide) (by decide) λxt a w E I ho=>?_;clear ho;refine RN 0 E I λa E=>?_;refine cR E rfl I qP Ty.t124 rfl rfl I.ai rfl (by simp[Value.oneCell']) (by decide) (by decide) (by omega) λNJ NK a w E I=>?_;rw[show rows ca xs++_=rows ca (xs++[(ad2,c2,(k.me,i,aT (iI k i)))]) from by rw[kK];rfl]at I;refine RN 3 E I λa E=>?_;have dB:=U.j7 (f:=cd) (x:=(ad2,c2,(k.me,i,aT (iI k i)))) (I.sub (M:=cd (ad2,c2,(k.me,i,aT (iI k i)))::ah cd xs::Sl 124 3 NJ (j+1) NK (rows ca (xs++[(ad2,c2,(k.me,i,aT (iI k i)))]))::Sl 3 1 (some ⟨ld,oo,none⟩) (bH k).length co (m7 (bH k))::az B { k with cl:=true }::L));exact⟨(bH k).length-(j+1),by omega,j+1,xs++[(ad2,c2,(k.me,i,aT (iI k i)))],NJ,NK,⟨rfl,by omega,by
   have dO:j<(bH k).length:=by omega
   rw[cY,eJ,CP,CP,jD dO,cY,(a2.1 hi).2];rfl,by rw[aM,b7];rfl⟩,E.ab [0,3,12,13,14],dB.sub⟩
 refine RT 3 E I ?_;obtain rfl:j=(bH k).length:=by omega
 rw[CP,lf]at eJ;have hR:((bH k).map λi=>(k.me,i,aT (iI k i))).length=(bH k).length:=a8 _;rw[hq];refine⟨ad,c,by rw[hR],?_⟩;rw[hR];exact cg.close (xs:=xs) I.sub eJ hR
end
theorem NL {α:Type}{p:α→Bool}:∀ {l:List α} {j:Nat} {x:α},(∀ y∈l.take j,p y=false)→l[j]?=some x→p x=true→l.find? p=some x
 | [],j,x,_,h,_=>by simp at h
 | y::l,0,x,_,h,hp=>by
  obtain rfl:y=x:=by simpa using h
  rw[List.find?_cons,hp]
 | y::l,j+1,x,E,h,hp=>by
  rw[List.find?_cons,E y (by simp)];exact NL (j:=j) (λz hz=>E z (by rw[take_succ_cons];exact gx _ hz)) (by simpa using h) hp
theorem NM {α:Type}{p:α→Bool}{l:List α}(h:∀ y∈l,p y=false):l.find? p=none:=by
 rw[List.find?_eq_none];intro y hy hp;rw[h y hy]at hp;cases hp
section
variable {W w:World}{L L' R:List SP}{n c i e to:Nat}{ad adP:Option Addr}{k:Ks}{A:po}{B:qo}{x:UInt8}{p:Pk}{bs:List UInt8}
theorem aa2 (I:U W w (az B k::L))(hk:WC k)(pM:k.now≤1000000):Calls prog 300 #[pt B.cb] w λr w'=>∃ ad c,r=.returned (.slice ad (bw k).1.length c)∧U W w' (cg 124 ad (bw k).1.length c (bw k).1::az B (bw k).2::L):=by
 have hn:=hk.n;refine EN func300 ntmps300 rfl rfl λa E=>?_;refine CL 5 E I (zR I) λa w E I=>?_;refine IF 0 E I (λak a E=>?_) λak a E=>?_
 ·
  refine RT 2 E I ?_;exact⟨none,0,by rw[bw,aj ak];rfl,by rw[bw,aj ak];exact cg.nil I⟩
 have hq:bw k=(match (bH { k with now:=k.now+1 }).find? (λi=>decide (jL { k with now:=k.now+1 } i)) with
  | some i=>([],{ k with now:=k.now+1,ev:=k.ev++[(2,i,0)],cl:=true })
  | none=>((bH { k with now:=k.now+1 }).map λi=>(k.me,i,aT (dW { k with now:=k.now+1 } i)),{ k with now:=k.now+1 })):=by rw[bw,ag (by rw[ak];decide)];rfl
 obtain⟨A,I⟩:=az.open I;refine RN 6 E I λa E=>?_;rw[show ((k.now:Nat):Int)+1=((k.now+1:Nat):Int) from by omega]at E;refine ST 2 E I (λa w E I=>?_);refine RN 0 E I λa E=>?_;replace I:=az.fold I B { k with now:=k.now+1 } A;have e6:WC { k with now:=k.now+1 }:=hk.CH;have qp:=hk.kY;have HE:({ k with now:=k.now+1 }:Ks).now≤1000001:=by show k.now+1≤_;omega
 have HF:({ k with now:=k.now+1 }:Ks).ev.length≤9:=qp;have iC:bw k=(match (bH { k with now:=k.now+1 }).find? (λi=>decide (jL { k with now:=k.now+1 } i)) with
  | some i=>([],{ ({ k with now:=k.now+1 }:Ks) with ev:=({ k with now:=k.now+1 }:Ks).ev++[(2,i,0)],cl:=true })
  | none=>((bH { k with now:=k.now+1 }).map λi=>(({ k with now:=k.now+1 }:Ks).me,i,aT (dW { k with now:=k.now+1 } i)),{ k with now:=k.now+1 })):=hq
 clear hq;have HG:2≤({ k with now:=k.now+1 }:Ks).n∧({ k with now:=k.now+1 }:Ks).n≤8:=hn;generalize ({ k with now:=k.now+1 }:Ks)=k1 at I e6 iC HE HF HG;have eb:=NI k1;refine aY 5 E I (HC I e6) λm8 co a w E I=>?_;refine RN 2 E I λa E=>?_;replace E:Fr a 61 ((20,.int .i64 (0:Nat))::(19,.int .i64 (bH k1).length)::(18,.slice m8 (bH k1).length co)::(3,.slice none 0 0)::(0,pt B.cb)::[]):=E.ab [20,19,18,3,0];refine aL (λμ a w=>∃ (j:Nat),(μ=(bH k1).length-j∧j≤(bH k1).length∧∀ y∈(bH k1).take j,decide (jL k1 y)=false)∧Fr a 61 [(0,pt B.cb),(3,.slice none 0 0),(18,.slice m8 (bH k1).length co),(19,.int .i64 (bH k1).length),(20,.int .i64 j)]∧U W w (Sl 3 1 m8 (bH k1).length co (m7 (bH k1))::az B k1::L)) ((bH k1).length) (⟨0,⟨rfl,by omega,λy hy=>by simp at hy⟩,E.ab [0,3,18,19,20],I⟩) ?_;clear E I;rintro μ a w ⟨j,⟨rfl,hj,bX⟩,E,I⟩;refine IF 3 E I (λao a E=>?_) λao a E=>?_
 ·
  have dO:j<(bH k1).length:=by omega
  obtain⟨i,hi⟩:∃ i,(bH k1)[j]?=some i:=⟨_,aD dO⟩;obtain⟨ld,oo,rfl,gQ⟩:=I.bU m8 (by omega);have cI:=(xP.1 (bI hi)).1;have iJ:=e6.qm cI;have aG:i<k1.ps.length:=by rw[e6.ps];exact cI
  have sk:=az.rd (I.tail);obtain⟨cP,eI⟩:=sk.pl;refine RN 3 E I λa E=>?_;refine SS E (ae E (gQ j _ (HA hi))) λa E=>?_;refine RN 2 E I λa E=>?_;have ur:sL w.drew B k1:=az.rd (I.drew.tail);have ve:w.drew.cell? ⟨B.cb,11,none⟩=some (.slice (some ⟨B.bp,B.op,none⟩) k1.ps.length cP):=eI;refine rT 0 (Old w.drew) [7,9,10,11] [0,1,2,4,5,6,8,3003,1007,1009,1010,1011,12,13] E I λa E=>?_;replace I:=I.drew;have hH:=Hd.gw I;have hC:=Old.refl w.drew;generalize w.drew=w at I hH hC ur ve ⊢;refine RH 7 E I hH hC λa E=>?_;refine QH E (λw hc=>ae E (hc.cell (ur.now))) hC λa E=>?_;refine RH 0 E I hH hC λa E=>?_;refine SS E (ae E (ve)) λa E=>?_;refine RH 2 E I hH hC λa E=>?_;refine SS E (ae E (ur.pe i _ (vK aG) 1 _ rfl)) λa E=>?_;refine RH 2 E I hH hC λa E=>?_;refine IF 0 E I (λay a E=>?_) λay a E=>?_
  ·
   have hlt:jL k1 i:=by rw[jL];omega
   rw[NL bX hi (dr hlt)]at iC;refine CL 4 E I (Hx (e:=(2,i,0)) (I.pick (az B k1)) ⟨by simp,by simp,by show i<8;omega,by simp,.inr rfl⟩ (by omega)) λa w E I=>?_;refine RN 1 E I λa E=>?_;obtain⟨A2,I⟩:=az.open I;refine ST 3 E I (λa w E I=>?_);refine RN 0 E I λa E=>?_;replace I:=az.fold I B { k1 with ev:=k1.ev++[(2,i,0)],cl:=true } A2;refine RT 2 E I ?_;rw[iC];exact⟨none,0,rfl,cg.nil I.sub⟩
  have hlt:¬ jL k1 i:=by rw[jL];omega
  refine RN 2 E I λa E=>?_;exact⟨(bH k1).length-(j+1),by omega,j+1,⟨rfl,by omega,λy hy=>by
   rw[jD dO,e7,iP]at hy;rcases hy with hy | rfl
   ·exact bX y hy
   ·rw[(a2.1 hi).2];exact bu hlt⟩,E.ab [0,3,18,19,20],I⟩
 obtain rfl:j=(bH k1).length:=by omega
 rw[lf]at bX;rw[NM bX]at iC;clear bX;refine aY 3 E I (HC (I.tail) e6) λzU zV a w E I=>?_;refine RN 2 E I λa E=>?_;replace I:=U.bQ (U.ji (f:=cd) I) 124 3 none;replace E:Fr a 61 ((49,.int .i64 (0:Nat))::(48,.int .i64 (bH k1).length)::(47,.slice zU (bH k1).length zV)::(3,.slice none 0 0)::(0,pt B.cb)::[]):=E.ab [49,48,47,3,0];refine aL (λμ a w=>∃ (j:Nat) (xs:List Mx) (ad:Option Addr) (c:Nat),(μ=(bH k1).length-j∧j≤(bH k1).length∧xs.map (·.2.2)=CO k1 j∧xs.length=j)∧Fr a 61 [(0,pt B.cb),(3,.slice ad j c),(47,.slice zU (bH k1).length zV),(48,.int .i64 (bH k1).length),(49,.int .i64 j)]∧U W w (Sl 124 3 ad j c (rows ca xs)::ah cd xs::Sl 3 1 zU (bH k1).length zV (m7 (bH k1))::az B k1::L)) ((bH k1).length) (⟨0,[],none,0,⟨rfl,by omega,rfl,rfl⟩,E.ab [0,3,47,48,49],I⟩) ?_;clear E I;rintro μ a w ⟨j,xs,ad,c,⟨rfl,hj,eJ,b7⟩,E,I⟩;refine IF 3 E I (λbl a E=>?_) λbl a E=>?_
 ·
  obtain⟨i,hi⟩:∃ i,(bH k1)[j]?=some i:=⟨_,aD (by omega)⟩;obtain⟨ld,oo,rfl,gQ⟩:=(I.pick (Sl 3 1 zU (bH k1).length zV (m7 (bH k1)))).bU zU (by omega);have cI:=(xP.1 (bI hi)).1;refine RN 3 E I λa E=>?_;refine SS E (ae E (gQ j _ (HA hi))) λa E=>?_;refine aY 4 E I (aa0 (to:=i) (I.pick (az B k1)) e6 cI) λad2 c2 a w E I=>?_;refine RN 0 E I λa E=>?_;refine ct E rfl I qP Ty.t124 rfl rfl rfl rfl (by decide) (by decide) λb57 a w E I ho=>?_;clear ho;refine RN 0 E I λa E=>?_;refine cR E rfl I qP Ty.t124 rfl rfl I.ai rfl (by simp[Value.oneCell']) (by decide) (by decide) (by omega) λNN NO a w E I=>?_;rw[show rows ca xs++_=rows ca (xs++[(ad2,c2,(k1.me,i,aT (dW k1 i)))]) from by rw[kK];rfl]at I;refine RN 3 E I λa E=>?_;have dB:=U.j7 (f:=cd) (x:=(ad2,c2,(k1.me,i,aT (dW k1 i)))) (I.sub (M:=cd (ad2,c2,(k1.me,i,aT (dW k1 i)))::ah cd xs::Sl 124 3 NN (j+1) NO (rows ca (xs++[(ad2,c2,(k1.me,i,aT (dW k1 i)))]))::Sl 3 1 (some ⟨ld,oo,none⟩) (bH k1).length zV (m7 (bH k1))::az B k1::L));exact⟨(bH k1).length-(j+1),by omega,j+1,xs++[(ad2,c2,(k1.me,i,aT (dW k1 i)))],NN,NO,⟨rfl,by omega,by
   have dO:j<(bH k1).length:=by omega
   rw[cY,eJ,CO,CO,jD dO,cY,(a2.1 hi).2];rfl,by rw[aM,b7];rfl⟩,E.ab [0,3,47,48,49],dB.sub⟩
 refine RT 3 E I ?_;obtain rfl:j=(bH k1).length:=by omega
 rw[CO,lf]at eJ;have hR:((bH k1).map λi=>(k1.me,i,aT (dW k1 i))).length=(bH k1).length:=a8 _;rw[iC];refine⟨ad,c,by rw[hR],?_⟩;rw[hR];exact cg.close (xs:=xs) I.sub eJ hR
theorem WC.peer (h:WC k){q:Pe}(hi:i<k.n)(hq:q.has≤1000∧q.frame≤1000∧q.sum<4294967296)(hh:q.heard≤k.now)(E:q.apart=(au k i).apart):WC { k with ps:=k.ps.set i q } :=
 h.CE (ev:=k.ev) (cl:=k.cl) hq hh h.bB (by rw[Hi (by rw[h.ps];exact hi) E];exact h.ph)
theorem WC.line (h:WC k){l:List UInt8}(hl:l.length≤1000):WC { k with ls:=k.ls.set i l } :=
 { h with
  ls:=by show (k.ls.set i l).length=_;rw[bz];exact h.ls
  nN:=λy hy=>by
   rcases mem_set hy with hy | rfl
   ·exact h.nN y hy
   ·exact hl }
theorem NP {ls:List (List UInt8)}{i j:Nat}{l:List UInt8}(h:i≠j):(ls.set i l).getD j []=ls.getD j []:=by
 rw[br,getElem?_set_ne h,← br]
theorem az.NQ (I:U W w L)(B:qo)(k:Ks)(A:po)(q1 q2:Pe)[kk:fM L [aa B.cb 257 (iL { k with ps:=k.ps.set i q1 } B A),Sl 259 5 (some ⟨B.bp,B.op,none⟩) (k.ps.set i q1).length A.cP (rows iY (k.ps.set i q2)),Sl 100 1 A.cm k.mr.length A.cM (c6 k.mr),Sl 135 1 A.adE k.ev.length A.cE (k.ev.map cC),Qu B.qb B.aB k.ls] R]:U W w (az B { k with ps:=k.ps.set i q2 }::R):=by
 have h1:=I.perm kk.perm;rw[show iL { k with ps:=k.ps.set i q1 } B A=iL { k with ps:=k.ps.set i q2 } B A from by simp only[iL,bz],show (k.ps.set i q1).length=(k.ps.set i q2).length from by simp only[bz]]at h1;exact az.close (A:=A) h1
theorem az.aa3 (I:U W w L)(B:qo)(k:Ks)(A:po)(q2:Pe)[kk:fM L [aa B.cb 257 (iL k B A),Sl 259 5 (some ⟨B.bp,B.op,none⟩) k.ps.length A.cP (rows iY (k.ps.set i q2)),Sl 100 1 A.cm k.mr.length A.cM (c6 k.mr),Sl 135 1 A.adE k.ev.length A.cE (k.ev.map cC),Qu B.qb B.aB k.ls] R]:U W w (az B { k with ps:=k.ps.set i q2 }::R):=by
 have h1:=I.perm kk.perm;rw[show iL k B A=iL { k with ps:=k.ps.set i q2 } B A from by simp only[iL,bz],show k.ps.length=(k.ps.set i q2).length from by simp only[bz]]at h1;exact az.close (A:=A) h1
theorem CQ (h:k.cl=true):dD bs k=(6,k):=by rw[dD,aj h]
theorem NR (h:k.cl=false)(hd:eC bs=none):dD bs k=(1,k):=by rw[dD,ag (by rw[h];decide),hd]
theorem xT (h:k.cl=false)(hd:eC bs=some p)(hx:p.to≠k.me∨(k.n:Int)≤p.aW∨p.id≠k.id):dD bs k=(1,k):=by
 rw[dD,ag (by rw[h];decide),hd];show (if _ then _ else _)=_;rw[aj hx]
theorem NS (h:k.cl=false)(hd:eC bs=some p)(hx:¬ (p.to≠k.me∨(k.n:Int)≤p.aW∨p.id≠k.id)):dD bs k=(0,gf k p):=by
 rw[dD,ag (by rw[h];decide),hd];show (if _ then _ else _)=_;rw[ag hx]
set_option maxHeartbeats 2000000 in
theorem aa4 (I:U W w (az B k::L))(hk:WC k)(hb:bs.length≤65536)(hc:bs.length≤c)(hp:∀ w',U W w' L→aX w' ad bs.length bs) :
   Calls prog 299 #[pt B.cb,.slice ad bs.length c] w λr w'=>r=.returned (.int .i64 (dD bs k).1)∧U W w' (az B (dD bs k).2::L):=by
 have hn:=hk.n;refine EN func299 ntmps299 rfl rfl λa E=>?_;refine CL 5 E I (zR I) λa w E I=>?_;refine IF 0 E I (λak a E=>?_) λak a E=>?_
 ·
  refine RT 2 E I ?_;exact⟨by rw[CQ ak],by rw[CQ ak];exact I⟩
 refine ka 2 E I (aai I hb hc (λw' hw=>hp w' hw.tail)) ?_;clear E I;rintro e w ⟨p,adP,cP,ok,rfl,hd,I⟩;refine⟨_,rfl,λa E=>?_⟩;refine AL 3 E I λb5 a w E I=>?_;refine SA 0 E I λa w E I=>?_;refine RN 3 E I λa E=>?_;obtain⟨A,I⟩:=az.open (I.pick (az B k));refine bM 0 [9,19,29] [0,1,2,3,5,6,7,8,3004,1009,10,11,12,13,15,16,17,18,3014,1019,20,21,22,23,25,26,27,28,3024,1029,30,31] E I λa w E I hH hC=>?_;refine RH 3 E I hH hC λa E=>?_;refine E.by (s:=17) (λbD E=>?_) (λbD E=>?_)
 ·
  have ds:ok=false:=by cases ok with | false=>rfl | true=>exact absurd rfl bD
  have dc:eC bs=none:=by
   rcases hd with ⟨h,_⟩ | ⟨_,h,_⟩
   ·rw[ds]at h;cases h
   ·exact h
  refine RH 29 E I hH hC λa E=>?_;refine RT 3 E I ?_;rw[NR ak dc];exact⟨rfl,(az.fold I B k A).sub⟩
 have ds:ok=true:=by cases ok with | true=>rfl | false=>exact absurd bD (by decide)
 have qq:eC bs=some p:=by
  rcases hd with ⟨_,h⟩ | ⟨h,_⟩
  ·exact h
  ·rw[ds]at h;cases h
 obtain⟨uu,gP,_⟩:=GL qq;have HH:=uu.1;refine RH 10 E I hH hC λa E=>?_;refine E.by (s:=27) (λhJ E=>?_) (λhJ E=>?_)
 ·
  refine RH 19 E I hH hC λa E=>?_;refine RT 3 E I ?_;rw[xT ak qq (.inl hJ)];exact⟨rfl,(az.fold I B k A).sub⟩
 refine RH 10 E I hH hC λa E=>?_;refine E.by (s:=37) (λqi E=>?_) (λqi E=>?_)
 ·
  refine RH 9 E I hH hC λa E=>?_;refine RT 3 E I ?_;rw[xT ak qq (.inr (.inl qi))];exact⟨rfl,(az.fold I B k A).sub⟩
 refine RH 9 E I hH hC λa E=>?_;refine IF 0 E I (λao a E=>?_) λao a E=>?_
 ·
  refine RT 2 E I ?_;rw[xT ak qq (.inr (.inr ao))];exact⟨rfl,(az.fold I B k A).sub⟩
 have bX:¬ (p.to≠k.me∨(k.n:Int)≤p.aW∨p.id≠k.id):=by
  rintro (h | h | h)
  ·exact h hJ
  ·omega
  ·exact h ao
 rw[NS ak qq bX];clear hd ds;obtain⟨fr,fe⟩:=sM HH.1;have hW:fr<k.n:=by omega
 have eP:fr<k.ls.length:=by rw[hk.ls];exact hW
 have nP:fr<k.ps.length:=by rw[hk.ps];exact hW
 have HI:fr≠k.me:=by have:=uu.2.2.1;omega
 have iJ:=hk.qm hW;have j1:p.aW.toNat=fr:=by omega
 refine bM 1 [5] [0,1,2,4,3003,1005,6,7] E I λa w E I hH hC=>?_;refine RH 6 E I hH hC λa E=>?_;rw[fe]at E;refine RH 2 E I hH hC λa E=>?_;refine RN 8 E I λa E=>?_;refine mN (off:=B.op) (k:=fr*5+1) E rfl I Ty.t3 rfl (by omega) (by rw[jC j2];omega) λa w E I=>?_;rw[qO j2 k.ps { au k fr with heard:=k.now } nP (by decide) (by rw[NB nP];rfl)]at I;have ch:=hk.peer (q:={ au k fr with heard:=k.now }) hW ⟨iJ.1,iJ.2.2⟩ (a7 _) rfl;replace I:=az.aa3 (i:=fr) I B k A { au k fr with heard:=k.now };refine IF 5 E I (λay a E=>?_) λay a E=>?_
 ·
  refine RN 4 E I λa E=>?_;rw[fe]at E;refine CL 1 E I (Hx (e:=(1,fr,0)) I ⟨by simp,by simp,by show fr<8;omega,by simp,.inr rfl⟩ (by have:=hk.kY;show k.ev.length≤100;omega)) λa w E I=>?_;refine RN 1 E I λa E=>?_;obtain⟨A2,I⟩:=az.open I;refine ST 3 E I (λa w E I=>?_);refine RN 0 E I λa E=>?_;replace I:=az.fold I B { k with ps:=k.ps.set fr { au k fr with heard:=k.now },ev:=k.ev++[(1,fr,0)],cl:=true } A2;refine RT 2 E I ?_;refine⟨rfl,?_⟩;rw[gf,aj ay,j1];exact I.sub
 refine RN 1 E I λa E=>?_;have hL:eM p.first∧eM p.dd∧eM p.frame∧p.al.length≤32:=by
  rcases uu.2.2.2.2 with h | h
  ·exact h.2
  ·exact absurd h.1 ay
 simp only[eM]at hL;obtain⟨fi,xU⟩:=sM hL.1.1;obtain⟨jM,CR⟩:=sM hL.2.1.1;obtain⟨kx,HJ⟩:=sM hL.2.2.1.1;obtain⟨D,I,hD⟩:=az.Hw I;have NT:∀ w' L',U W w' (Qu B.qb B.aB k.ls::D::L')→sL w' B { k with ps:=k.ps.set fr { au k fr with heard:=k.now } }:=λw' L' h=>az.rd (hD w' L' _ h);refine aV 0 (λw0 w'=>Rd w' b5 0 (dQ p adP cP)∧sL w' B { k with ps:=k.ps.set fr { au k fr with heard:=k.now } }) [5,6,8,10] [0,1,2,4,7,9,3003,3005,3008,3010,1006,1011] E I λa w E I hH=>?_;have hC:=hH.at w ⟨I.ai (b:=b5),NT _ _ I⟩;refine RH 6 E I hH hC λa E=>?_;refine QH E (λw hc=>ae E (hc.2.cf 10 _ rfl)) hC λa E=>?_;refine QH E (λw hc=>ae E (hc.1 1 _ rfl)) hC λa E=>?_;rw[fe]at E;refine RH 0 E I hH hC λa E=>?_;refine QH E (λw hc=>ae E (hc.1 4 _ rfl)) hC λa E=>?_;rw[xU]at E;refine RH 0 E I hH hC λa E=>?_;refine QH E (λw hc=>ae E (hc.1 5 _ rfl)) hC λa E=>?_;refine RH 0 E I hH hC λa E=>?_;refine CL 0 E I (uj I eP) λa w E I=>?_;replace hC:=hH.at w ⟨I.ai (b:=b5),NT _ _ I⟩;refine RH 0 E I hH hC λa E=>?_;refine aY 0 E I (aaA (fr:=fi) (bs:=p.al) I eP (hk.mG hW) (by omega) (λw' hw=>(hw.pick (Sl 5 1 adP p.al.length cP (bc p.al))).cw adP p.al rfl rfl)) λNU er a w E I=>?_;refine RN 0 E I λa E=>?_;replace I:=hD _ _ _ I;have mR:=ch.line (i:=fr) (l:=dw (k.ls.getD fr []) fi p.al) (sG (hk.mG hW)).2;have g4:aH ({ k with ls:=k.ls.set fr (dw (k.ls.getD fr []) fi p.al),ps:=k.ps.set fr { au k fr with heard:=k.now } }:Ks)=aH k:=by
  show ((k.ls.set fr _).getD k.me []).length=_;rw[NP HI];rfl
 have xV:(k.ps.set fr { au k fr with heard:=k.now })[fr]?=some { au k fr with heard:=k.now }:=getElem?_set_self nP;refine b6 (M:=λa w=>∃ hh:Nat,hh=(if (au k fr).has<jM∧jM≤aH k then jM else (au k fr).has)∧Fr a 127 [(0,pt B.cb),(5,pt b5),(7,.pointer (some ⟨B.bp,B.op+fr*5,none⟩))]∧U W w (az B { k with ls:=k.ls.set fr (dw (k.ls.getD fr []) fi p.al),ps:=k.ps.set fr { au k fr with heard:=k.now,has:=hh } }::aa b5 203 (dQ p adP cP)::L)) ?_ ?_
 ·
  refine aV 1 (λw0 w'=>Rd w' b5 0 (dQ p adP cP)∧sL w' B { k with ls:=k.ls.set fr (dw (k.ls.getD fr []) fi p.al),ps:=k.ps.set fr { au k fr with heard:=k.now } }) [5,11] [0,2,3,4,3001,1005,6,7,8,10,3009,1011,12,13] E I λa w E I hH=>?_;have hC:=hH.at w ⟨I.ai (b:=b5),az.rd I⟩;refine RH 4 E I hH hC λa E=>?_;refine QH E (λw hc=>ae E (hc.1 6 _ rfl)) hC λa E=>?_;refine RH 0 E I hH hC λa E=>?_;refine SS E (ae E (hC.2.pe fr _ xV 0 (.int .i64 (au k fr).has) rfl)) λa E=>?_;refine RH 2 E I hH hC λa E=>?_;refine E.by (s:=91) (λjY E=>?_) (λjY E=>?_)
  ·
   refine RH 2 E I hH hC λa E=>?_;refine QH E (λw hc=>ae E (hc.1 6 _ rfl)) hC λa E=>?_;refine RH 0 E I hH hC λa E=>?_;refine CL 0 E I (um I mR) λa w E I=>?_;replace hC:=hH.at w ⟨I.ai (b:=b5),az.rd I⟩;rw[g4]at E;refine RH 2 E I hH hC λa E=>?_;refine IF 0 E I (λbl a E=>?_) λbl a E=>?_
   ·
    obtain⟨A2,I⟩:=az.open I;refine RN 3 E I λa E=>?_;rw[CR]at E;refine RN 2 E I λa E=>?_;refine mN (off:=B.op) (k:=fr*5+0) E rfl I Ty.t3 rfl (by omega) (by rw[jC j2,bz];omega) λa w E I=>?_;rw[qO j2 (k.ps.set fr { au k fr with heard:=k.now }) { au k fr with heard:=k.now,has:=jM } (by rw[bz];exact nP) (by decide) (by rw[oP];rfl),set_set]at I;replace I:=az.NQ (i:=fr) I B { k with ls:=k.ls.set fr (dw (k.ls.getD fr []) fi p.al) } A2 { au k fr with heard:=k.now } { au k fr with heard:=k.now,has:=jM };refine RN 0 E I λa E=>?_;exact⟨jM,by rw[aj ⟨by omega,by omega⟩],E.ab [0,5,7],I.sub⟩
   refine RN 0 E I λa E=>?_;exact⟨_,by rw[ag (by omega)],E.ab [0,5,7],I.sub⟩
  refine RH 6 E I hH hC λa E=>?_;refine RN 1 E I λa E=>?_;exact⟨_,by rw[ag (by omega)],E.ab [0,5,7],I.sub⟩
 clear E;(try clear I);rintro a w ⟨hh,zW,E,I⟩;refine b6 (M:=λa w=>∃ q:Pe,(q=gd k.now (aH k) p (au k fr)∧WC { k with ls:=k.ls.set fr (dw (k.ls.getD fr []) fi p.al),ps:=k.ps.set fr q })∧Fr a 127 [(0,pt B.cb)]∧U W w (az B { k with ls:=k.ls.set fr (dw (k.ls.getD fr []) fi p.al),ps:=k.ps.set fr q }::aa b5 203 (dQ p adP cP)::L)) ?_ ?_
 ·
  refine bM 1 [9] [0,1001,2,3,4,6,7,8,3005,1009,10,11] E I λa w E I hH hC=>?_;have xW:(k.ps.set fr { au k fr with heard:=k.now,has:=hh })[fr]?=some { au k fr with heard:=k.now,has:=hh }:=getElem?_set_self nP;have sk:sL w B { k with ls:=k.ls.set fr (dw (k.ls.getD fr []) fi p.al),ps:=k.ps.set fr { au k fr with heard:=k.now,has:=hh } }:=az.rd I;have HK:p.dd.toNat=jM:=by omega
  have HL:p.frame.toNat=kx:=by omega
  have hP:gd k.now (aH k) p (au k fr)=(if 0<p.frame∧((au k fr).frame:Int)≤p.frame then { au k fr with heard:=k.now,has:=hh,frame:=kx,sum:=p.sum } else { au k fr with heard:=k.now,has:=hh }):=by
   rw[gd,HK,HL,zW]
  have vM:hh≤1000:=by rw[zW];split <;> omega
  refine RH 4 E I hH hC λa E=>?_;refine E.by (s:=106) (λbW E=>?_) (λbW E=>?_)
  ·
   refine RH 5 E I hH hC λa E=>?_;refine bA E (cv E rfl (s:=106)) (ae E (sk.pe fr _ xW 2 (.int .i64 (au k fr).frame) rfl)) rfl λa E=>?_;refine RH 2 E I hH hC λa E=>?_;refine IF 0 E I (λbO a E=>?_) λbO a E=>?_
   ·
    refine RN 0 E I λa E=>?_;obtain⟨A3,I⟩:=az.open I;refine aV 0 (λw0 w'=>Rd w' b5 0 (dQ p adP cP)) [5,8] [0,1,2,4,3003,6,7,3005,1008,9,10,1011] E I λa w E I hH=>?_;have hC:=hH.at w (I.ai (b:=b5));refine RH 4 E I hH hC λa E=>?_;refine QH E (λw hc=>ae E (hc 7 _ rfl)) hC λa E=>?_;rw[HJ]at E;refine RH 2 E I hH hC λa E=>?_;refine QH E (λw hc=>ae E (hc 8 _ rfl)) hC λa E=>?_;refine RH 0 E I hH hC λa E=>?_;refine mN (off:=B.op) (k:=fr*5+2) E rfl I Ty.t3 rfl (by omega) (by rw[jC j2,bz];omega) λa w E I=>?_;replace hC:=hH.at w (I.ai (b:=b5));rw[qO j2 (k.ps.set fr { au k fr with heard:=k.now,has:=hh }) { au k fr with heard:=k.now,has:=hh,frame:=kx } (by rw[bz];exact nP) (by decide) (by rw[oP];rfl),set_set]at I;refine RH 2 E I hH hC λa E=>?_;refine mN (off:=B.op) (k:=fr*5+3) E rfl I Ty.t100 rfl (by omega) (by rw[jC j2,bz];omega) λa w E I=>?_;rw[qO j2 (k.ps.set fr { au k fr with heard:=k.now,has:=hh,frame:=kx }) { au k fr with heard:=k.now,has:=hh,frame:=kx,sum:=p.sum } (by rw[bz];exact nP) (by decide) (by rw[oP];rfl),set_set]at I;replace I:=az.NQ (i:=fr) I B { k with ls:=k.ls.set fr (dw (k.ls.getD fr []) fi p.al) } A3 { au k fr with heard:=k.now,has:=hh } { au k fr with heard:=k.now,has:=hh,frame:=kx,sum:=p.sum };refine RN 0 E I λa E=>?_;exact⟨_,⟨by rw[hP,aj (by omega)],(hk.peer (q:={ au k fr with heard:=k.now,has:=hh,frame:=kx,sum:=p.sum }) hW ⟨vM,by show kx≤1000;omega,gP⟩ (a7 _) rfl).line (sG (hk.mG hW)).2⟩,E.ab [0],I.sub⟩
   refine RN 0 E I λa E=>?_;exact⟨_,⟨by rw[hP,ag (by omega)],(hk.peer (q:={ au k fr with heard:=k.now,has:=hh }) hW ⟨vM,iJ.2.2⟩ (a7 _) rfl).line (sG (hk.mG hW)).2⟩,E.ab [0],I⟩
  refine RH 8 E I hH hC λa E=>?_;refine RN 1 E I λa E=>?_;exact⟨_,⟨by rw[hP,ag (by omega)],(hk.peer (q:={ au k fr with heard:=k.now,has:=hh }) hW ⟨vM,iJ.2.2⟩ (a7 _) rfl).line (sG (hk.mG hW)).2⟩,E.ab [0],I⟩
 clear E;(try clear I);rintro a w ⟨q,⟨hqe,pc⟩,E,I⟩;refine CL 2 E I (NC I pc) λa w E I=>?_;refine RT 2 E I ?_;refine⟨rfl,?_⟩;have zX:p.first.toNat=fi:=by omega
 rw[gf,ag ay,j1,zX,← hqe];exact I.sub
end
end
section
section
variable {W w:World}{L:List SP}{c cO cP q:Nat}{aq adP:Option Addr}{b:List UInt8}{g:Nat→Int}{p:Pr}{fr:Int}{bad:Bool}
def Jv (q:Nat)(g:Nat→Int)(bad:Bool):SP:=λh=>(dT g∧bad=false)∧aa q 296 (ints .i32 32 g) h
theorem Jv.open (I:U W w (Jv q g bad::L)):(dT g∧bad=false)∧U W w (aa q 296 (ints .i32 32 g)::L):=by
 obtain⟨_,h1,h2⟩:=I.jS (ι:=Unit) (p:=λ_=>dT g∧bad=false) (B:=λ_=>aa q 296 (ints .i32 32 g)) (λh ⟨h1,h2⟩=>⟨(),h1,h2⟩);exact⟨h1,h2⟩
theorem Jv.close (I:U W w (aa q 296 (ints .i32 32 g)::L))(h1:dT g):U W w (Jv q g false::L) :=
 U.shut (M:=[_]) I (λ_ ⟨_,_,_,a,b,x,_⟩=>⟨⟨h1,rfl⟩,a _ _ x⟩)
theorem aa5 {c:Nat}(hc:c<32)(I:U W w (Jv q g bad::L)):Calls prog 351 (List.toArray [pt q,.int .i64 c]) w λe w'=>e=.returned (.int .i32 (g c))∧U W w' (Jv q g bad::L):=by
 have hj:=Jv.open I;clear I;obtain⟨⟨h1,rfl⟩,I⟩:=hj;refine EN func351 ntmps351 rfl rfl λa E=>?_;refine RN 8 E I λa E=>?_;refine SS E (ae E (I.bC (ga _ hc))) λa E=>?_;refine RT 1 E I ?_;exact⟨rfl,Jv.close I h1⟩
theorem aa6 {c:Nat}{v:Int}(hc:c<32)(hv:du v)(I:U W w (Jv q g bad::L)):Calls prog 352 (List.toArray [pt q,.int .i64 c,.int .i32 v]) w λe w' =>
   ∃ (g':Nat→Int) (fy:Bool),e=.returned (.tuple #[])∧((fy=true∧g'=g)∨(fy=false∧bad=false∧g'=cn g c v))∧U W w' (Jv q g' fy::L):=by
 have hj:=Jv.open I;clear I;obtain⟨⟨h1,rfl⟩,I⟩:=hj;refine EN func352 ntmps352 rfl rfl λa E=>?_;refine ST 6 E I (λa w E I=>?_) (hlt:=(by rw[dk];exact hc));rw[ints_set]at I;refine RT 0 E I ?_;exact⟨cn g c v,false,rfl,.inr ⟨rfl,rfl,rfl⟩,Jv.close I (og h1 hv)⟩
theorem aa7:zi W 294 ⟨q,0,none⟩ 351 352 (Jv q) where
 o6:=λad w=>by kernel_rfl
 o7:=(by kernel_rfl)
 BV:=λad w=>by kernel_rfl
 w1:=(by kernel_rfl)
 ok:=λw L g bad h=>(Jv.open h).1.1
 get:=λw L g bad c hc h=>aa5 hc h
 set:=λw L g bad c v hc hv h=>aa6 hc hv h
theorem NV (I:U W w (aA W p aq cO::L))(a6:dp p)(aF:p.title.size≤1000000000)(hg:dT g)(hb:b.length≤1099511627776)(hp:∀ w',U W w' L→aX w' adP b.length b) :
   Calls prog 137 #[.agg (bR p aq cO).toArray,.agg (ints .i32 32 g).toArray,.int .i64 fr,.slice adP b.length cP] w λe w'=>e=.returned (.agg (ints .i32 32 (fa p fr b g)).toArray)∧U W w' (aA W p aq cO::L):=by
 refine EN func137 ntmps137 rfl rfl λa E=>?_;refine BX 1 E I λb4 a w E I=>?_;change U W w (aa b4 45 (bR p aq cO)::_) at I;refine BX 0 E I λb5 a w E I=>?_;refine AL 0 E I λb8 a w E I=>?_;change U W w (aa b8 183 (ints .i32 32 (λ_=>0))::_) at I;refine RN 2 E I λa E=>?_;refine SK (bA E rfl (Kd E Ty.TM Ty.t296 (cs:=ints .i32 32 g) rfl) rfl ?_);clear E a;intro a E;refine BX 0 E I λHM a w E I=>?_;refine RN 7 E I λa E=>?_;replace I:=Jv.close (I.j5 HM) hg;refine j9 0 E I (LS (M:=aa7 (q:=HM)) (L:=aa b8 183 (ints .i32 32 (λ_=>0))::L) (I.sub (M:=Jv HM g false::aA W p aq cO::aa b8 183 (ints .i32 32 (λ_=>0))::L)) a6 aF hb (λw' hw=>hp w' hw.tail)) λg' fy NU a w E ⟨pa,I⟩=>?_;refine RN 1 E I λa E=>?_;have hj:=Jv.open I;clear I;obtain⟨⟨hg',rfl⟩,I⟩:=hj;obtain⟨_,rfl⟩:=pa rfl;refine SA 4 E I λa w E I=>?_;refine RT 0 E I ?_;exact⟨rfl,I.sub⟩
theorem NW {P:List (List UInt8)}{zs:List ee}(I:U W w (aA W p aq cO::L))(a6:dp p)(aF:p.title.size≤1000000000)(hg:dT g)(hP:P.length≤65536∧∀ b∈P,b.length≤1099511627776)(hf:-1099511627776≤fr∧fr≤1099511627776)(hz:zs.map (·.2.2)=P)(hp:∀ w',U W w' L→iQ w' adP zs) :
   Calls prog 280 #[.agg (bR p aq cO).toArray,.agg (ints .i32 32 g).toArray,.int .i64 fr,.slice adP P.length cP] w λe w'=>e=.returned (.agg (ints .i32 32 (foldI p fr g P)).toArray)∧U W w' (aA W p aq cO::L):=by
 have jz:zs.length=P.length:=by rw[← hz,a8]
 have tX:=hP.1;refine EN func280 ntmps280 rfl rfl λa E=>?_;refine BX 1 E I λb4 a w E I=>?_;change U W w (aa b4 45 (bR p aq cO)::_) at I;refine BX 0 E I λb5 a w E I=>?_;refine AL 0 E I λb8 a w E I=>?_;change U W w (aa b8 183 (ints .i32 32 (λ_=>0))::_) at I;refine RN 5 E I λa E=>?_;refine aL (λμ a w=>∃ (i:Nat) (g':Nat→Int),(μ=P.length-i∧i≤P.length∧dT g'∧foldI p fr g P=foldI p (fr+i) g' (P.drop i))∧Fr a 27 [(2,.int .i64 fr),(4,pt b4),(5,pt b5),(8,pt b8),(11,.slice adP P.length cP),(12,.int .i64 P.length),(13,.int .i64 i)]∧U W w (aa b5 183 (ints .i32 32 g')::aa b4 45 (bR p aq cO)::aa b8 183 (ints .i32 32 (λ_=>0))::aA W p aq cO::L)) (P.length) (⟨0,g,⟨by simp,by simp,hg,by simp⟩,E.ab [2,4,5,8,11,12,13],I.sub⟩) ?_;clear E I;rintro μ a w ⟨i,g',⟨rfl,hi,ew,mv⟩,E,I⟩;refine IF 3 E I (λak a E=>?_) λak a E=>?_
 ·
  obtain⟨z,kV⟩:∃ z,zs[i]?=some z:=⟨_,aD (by omega)⟩;have qW:P[i]?=some z.2.2:=by rw[← hz,bd,kV];rfl
  obtain⟨bp,op,rfl,da⟩:=(hp _ (I.sub (M:=L))).1 (by omega);have HN:=da i (aK z) (by rw[bd,kV];rfl);have qs:=hP.2 _ (bI qW);have Gk:foldI p fr g P=foldI p (fr+(i+1:Nat)) (fa p (fr+i) z.2.2 g') (P.drop (i+1)):=by
   rw[mv,kL (by omega),foldI];have:P[i]'(by omega)=z.2.2:=by rw[aD (by omega)]at qW;exact re qW
   rw[this]
   congr 1
   omega
  refine RN 4 E I λa E=>?_;refine SS E (ae E (HN)) λa E=>?_;rw[aK]at E;refine CL 8 E I (NV (I.pick (aA W p aq cO)) a6 aF ew qs (λw' hw=>(hp w' hw.sub).2 z (bI kV))) λa w E I=>?_;refine SA 0 E I λa w E I=>?_;refine RN 2 E I λa E=>?_;exact⟨P.length-(i+1),by omega,i+1,_,⟨rfl,by omega,No a6 ew,Gk⟩,E.ab [2,4,5,8,11,12,13],I.sub⟩
 refine RN 1 E I λa E=>?_;obtain rfl:i=P.length:=by omega
 rw[List.drop_length,foldI]at mv;refine SA 1 E I λa w E I=>?_;refine RT 0 E I ?_;exact⟨by rw[mv],I.sub⟩
end
end
section
theorem rl (k:IntKind)(m:Nat)(x:Int):List.replicate m (Value.int k x)=ints k m (λ_=>x):=by
 apply ext_getElem (by simp[ints,fn]);intro i h1 h2;simp[ints,fn]
abbrev dq (b:Gs)(adT:Option Addr)(cT:Nat):List Value:=[.int .i64 b.kind,.int .i64 b.order,.slice adT b.table.length cT]
theorem aa8 (l:List UInt8)(k:Nat):bc (l.drop k)=(bc l).drop k:=by rw[bc,bc,map_drop]
section
variable {W w:World}{L:List SP}{n c m cT:Nat}{ad adT:Option Addr}{past:List UInt8}{b:Gs}
theorem zY (I:U W w L):Calls prog 98 #[.agg (dq b adT cT).toArray] w λe w'=>∃ r:Bool,e=.returned (.bool r)∧(r=true↔c0 b)∧U W w' L:=by
 refine EN func98 ntmps98 rfl rfl λa E=>?_;refine BX 1 E I λb1 a w E I=>?_;change U W w (aa b1 186 (dq b adT cT)::_) at I;refine IF 8 E I (λak a E=>?_) λak a E=>?_
 ·
  refine BY 5 E I (λbW a E=>?_) λbW a E=>?_
  ·
   refine RT 6 E I ?_;exact⟨_,rfl,(by rw[cu,c0];omega),I.sub⟩
  refine RT 6 E I ?_;exact⟨_,rfl,⟨λh=>(by cases h),λh=>by rw[c0]at h;exfalso;omega⟩,I.sub⟩
 refine IF 3 E I (λao a E=>?_) λao a E=>?_
 ·
  refine BY 5 E I (λbW a E=>?_) λbW a E=>?_
  ·
   refine BY 5 E I (λfm a E=>?_) λfm a E=>?_
   ·
    refine RT 6 E I ?_;exact⟨_,rfl,(by rw[cu,c0];omega),I.sub⟩
   refine RT 6 E I ?_;exact⟨_,rfl,⟨λh=>(by cases h),λh=>by rw[c0]at h;exfalso;omega⟩,I.sub⟩
  refine RT 11 E I ?_;exact⟨_,rfl,⟨λh=>(by cases h),λh=>by rw[c0]at h;exfalso;omega⟩,I.sub⟩
 refine IF 3 E I (λay a E=>?_) λay a E=>?_
 ·
  refine BY 5 E I (λbW a E=>?_) λbW a E=>?_
  ·
   refine BY 6 E I (λvx a E=>?_) λvx a E=>?_
   ·
    refine RT 6 E I ?_;exact⟨_,rfl,(by rw[cu,c0];omega),I.sub⟩
   refine RT 6 E I ?_;exact⟨_,rfl,⟨λh=>(by cases h),λh=>by rw[c0]at h;exfalso;omega⟩,I.sub⟩
  refine RT 12 E I ?_;exact⟨_,rfl,⟨λh=>(by cases h),λh=>by rw[c0]at h;exfalso;omega⟩,I.sub⟩
 refine RT 2 E I ?_;exact⟨_,rfl,⟨λh=>(by cases h),λh=>by rw[c0]at h;exfalso;omega⟩,I.sub⟩
theorem NX (I:U W w L)(hb:c0 b)(eI:past.length≤4000)(kf:past.length≤c)(hp:∀ w',U W w' L→aX w' ad past.length past) :
   Calls prog 324 #[.agg (dq b adT cT).toArray,.slice ad past.length c] w λe w'=>e=.returned (.agg (ints .i64 256 (gR b past)).toArray)∧U W w' L:=by
 simp only[c0]at hb;refine EN func324 ntmps324 rfl rfl λa E=>?_;refine BX 1 E I λb2 a w E I=>?_;change U W w (aa b2 186 (dq b adT cT)::_) at I;refine AL 0 E I λb4 a w E I=>?_;rw[rl]at I;refine AL 1 E I λb5 a w E I=>?_;rw[rl]at I;refine BY 6 E I (λbW a E=>?_) λbW a E=>?_
 ·
  refine SA 9 E I λa w E I=>?_;refine RT 0 E I ?_;exact⟨by rw[gR,ag (by omega)],I.sub⟩
 refine IF 6 E I (λak a E=>?_) λak a E=>?_
 ·
  refine SA 2 E I λa w E I=>?_;refine RT 0 E I ?_;exact⟨by rw[gR,aj (by omega),zL (by omega)],I.sub⟩
 refine RN 1 E I λa E=>?_;have ch:b.kind=2:=by omega
 obtain⟨o,ho⟩:∃ o:Nat,b.order=(o:Int):=⟨b.order.toNat,by omega⟩;rw[dq,ho]at I;have eb:o≤past.length:=by omega
 have ly:gR b past=hS o past past.length:=by rw[gR,aj ch,ho,c9]
 refine RN 6 E I λa E=>?_;rw[show ((past.length:Nat):Int)-(o:Int)=((past.length-o:Nat):Int) from by omega]at E;refine RN 7 E I λa E=>?_;rw[show past.length-(past.length-o)=o from by omega]at E;have ho3:o≤3:=by omega
 refine aL (λμ a w=>∃ (i:Nat),(μ=past.length-i∧o≤i∧i≤past.length)∧Fr a 52 [(1,.slice ad past.length c),(2,pt b2),(4,pt b4),(5,pt b5),(6,.slice (fw ad (past.length-o) c 1) o (c-(past.length-o))),(7,.int .i64 i)]∧U W w (aa b5 320 (ints .i64 256 (hS o past i))::aa b4 320 (ints .i64 256 (λ_=>0))::aa b2 186 [.int .i64 b.kind,.int .i64 o,.slice adT b.table.length cT]::L)) (past.length-o) (⟨o,⟨rfl,a7 _,eb⟩,E.ab [1,2,4,5,6,7],by rw[zL (a7 _)];exact I.sub⟩) ?_;clear E I;rintro μ a w ⟨i,⟨rfl,HO,hi⟩,E,I⟩;refine IF 6 E I (λao a E=>?_) λao a E=>?_
 ·
  have aG:i<past.length:=by omega
  have nZ:=CB o past i past[i].toNat;have rf:=mA past[i];refine RN 7 E I λa E=>?_;rw[show ((i:Nat):Int)-(o:Int)=((i-o:Nat):Int) from by omega]at E;refine RN 2 E I λa E=>?_;rw[show i-(i-o)=o from by omega]at E;refine CL 1 E I (MU I ((hp _ I.tail.tail.tail).zM (lo:=i-o) (n:=o) (by omega) kf) (by have:=(hp _ I.tail.tail.tail).zM (lo:=past.length-o) (n:=o) (by omega) kf;exact this)) λa w E I=>?_;refine IF 0 E I (λay a E=>?_) λay a E=>?_
  ·
   obtain⟨bb,oo,rfl,hr⟩:=(hp _ I.tail.tail.tail).get (by omega);refine RN 3 E I λa E=>?_;refine SS E (ae E (hr i _ (dV aG))) λa E=>?_;refine RN 1 E I λa E=>?_;refine SS E (ae E (I.bC (ga _ rf))) λa E=>?_;refine ST 2 E I (λa w E I=>?_) (hlt:=(by rw[dk];omega));rw[ints_set]at I;refine RN 3 E I λa E=>?_;exact⟨past.length-(i+1),by omega,i+1,⟨rfl,by omega,by omega⟩,E.ab [1,2,4,5,6,7],by
    rw[show hS o past (i+1)=λj=>if j=past[i].toNat then hS o past i past[i].toNat+1 else hS o past i j from by
     rw[hS,aj ⟨HO,by rw[zK,← ay,gl (l:=past.drop (past.length-o)) (by rw[c8];omega)]⟩,br,aD aG];rfl]
    exact I.sub⟩
  refine RN 3 E I λa E=>?_;exact⟨past.length-(i+1),by omega,i+1,⟨rfl,by omega,by omega⟩,E.ab [1,2,4,5,6,7],by
   rw[show hS o past (i+1)=hS o past i from by
    rw[hS,ag (λh=>by
     have h2:=h.2;rw[zK,← gl (l:=past.drop (past.length-o)) (i:=o) (by rw[c8];omega)]at h2;rw[h2]at ay;cases ay)]]
   exact I.sub⟩
 obtain rfl:i=past.length:=by omega
 refine SA 2 E I λa w E I=>?_;refine RT 0 E I ?_;exact⟨by rw[ly],I.sub⟩
theorem NY (I:U W w L)(eI:past.length≤4000)(hp:∀ w',U W w' L→aX w' ad past.length past) :
   Calls prog 326 #[.slice ad past.length c] w λe w'=>e=.returned (.int .u8 ((iG past).toNat:Nat))∧U W w' L:=by
 refine EN func326 ntmps326 rfl rfl λa E=>?_;refine IF 7 E I (λak a E=>?_) λak a E=>?_
 ·
  refine RT 2 E I ?_;exact⟨by rw[iG,hs (l:=past) (by omega)];rfl,I⟩
 refine RN 1 E I λa E=>?_;obtain⟨bb,oo,rfl,hr⟩:=(hp _ I).get (by omega);refine RN 4 E I λa E=>?_;rw[show ((past.length:Nat):Int)-1=((past.length-1:Nat):Int) from by omega]at E;refine RN 1 E I λa E=>?_;refine SS E (ae E (hr (past.length-1) _ (dV (by omega)))) λa E=>?_;refine RT 1 E I ?_;refine⟨?_,I⟩;have h0:past≠[]:=λh=>by rw[h]at ak;simp at ak
 rw[iG,getLastD_eq_getLast?,List.getLast?_eq_getElem?,aD (by omega)];rfl
theorem NZ (I:U W w L)(hb:c0 b)(eI:past.length≤4000)(kf:past.length≤c)(hp:∀ w',U W w' L→aX w' ad past.length past)(ht:∀ w',U W w' L→aX w' adT b.table.length b.table) :
   Calls prog 325 #[.agg (dq b adT cT).toArray,.slice ad past.length c] w λe w'=>e=.returned (.int .u8 ((nM b past).toNat:Nat))∧U W w' L:=by
 have lP:=hb;simp only[c0]at lP;refine EN func325 ntmps325 rfl rfl λa E=>?_;refine BX 1 E I λb2 a w E I=>?_;change U W w (aa b2 186 (dq b adT cT)::_) at I;refine IF 6 E I (λak a E=>?_) λak a E=>?_
 ·
  refine bM 1 [5,6,7] [0,2,3,4,3001,1005,1006,1007,8,1009,10] E I λa w E I hH hC=>?_;obtain⟨aa9,aba,rfl,p7⟩:=(ht _ I.tail).get (by omega);have HP:past.length%b.table.length<b.table.length:=Nat.mod_lt _ (by omega);refine RH 8 E I hH hC λa E=>?_;rw[oO]at E;refine RH 1 E I hH hC λa E=>?_;refine SS E (ae E (p7 (past.length%b.table.length) _ (lA HP))) λa E=>?_;refine RH 1 E I hH hC λa E=>?_;refine RT 0 E I ?_;exact⟨by rw[nM,aj (by omega)],I.sub⟩
 refine CL 3 E I (NX I hb eI kf (λw' hw=>hp w' hw.tail)) λa w E I=>?_;refine AL 0 E I λb5 a w E I=>?_;rw[rl]at I;refine SA 0 E I λa w E I=>?_;refine CL 2 E I (NY I eI (λw' hw=>hp w' hw.tail.tail)) λa w E I=>?_;refine RN 5 E I λa E=>?_;have HQ:=mA (iG past);refine aL (λμ a w=>∃ (i:Nat),(μ=256-i∧i≤256)∧Fr a 41 [(2,pt b2),(5,pt b5),(6,.int .u8 (mF (gR b past) (iG past).toNat i:Nat)),(27,.agg (ints .i64 256 (gR b past)).toArray),(28,.int .i64 i)]∧U W w (aa b5 320 (ints .i64 256 (gR b past))::aa b2 186 (dq b adT cT)::L)) (256) (⟨0,⟨rfl,by omega⟩,E.ab [2,5,6,27,28],I.sub⟩) ?_;clear E I;rintro μ a w ⟨i,⟨rfl,hi⟩,E,I⟩;refine IF 3 E I (λao a E=>?_) λao a E=>?_
 ·
  have oW:=Hf (w:=gR b past) HQ (i:=i) hi;have CS:i<256:=by omega
  refine RN 3 E I λa E=>?_;refine SS E (te E underlying320 fk rfl Ty.t3 (by omega) (ga _ CS)) λa E=>?_;refine RN 6 E I λa E=>?_;refine SS E (ae E (I.bC (ga _ oW))) λa E=>?_;refine IF 1 E I (λay a E=>?_) λay a E=>?_
  ·
   refine SX 1 E I (by rw[wrap_u8];omega) λa E=>?_;refine RN 3 E I λa E=>?_;exact⟨256-(i+1),by omega,i+1,⟨rfl,by omega⟩,by rw[show mF (gR b past) (iG past).toNat (i+1)=i from by rw[mF,aj (by omega)]];exact E.ab [2,5,6,27,28],I.sub⟩
  refine RN 2 E I λa E=>?_;exact⟨256-(i+1),by omega,i+1,⟨rfl,by omega⟩,by rw[show mF (gR b past) (iG past).toNat (i+1)=mF (gR b past) (iG past).toNat i from by rw[mF,ag (by omega)]];exact E.ab [2,5,6,27,28],I.sub⟩
 obtain rfl:i=256:=by omega
 have oW:=Hf (w:=gR b past) HQ (i:=256) (by omega);refine RT 3 E I ?_;exact⟨by rw[nM,ag (by omega),UInt8.toNat_ofNat',k9 (by omega)],I.sub⟩
theorem abb (I:U W w L)(eI:past.length≤4000)(hp:∀ w',U W w' L→aX w' ad past.length past) :
   Calls prog 329 #[.slice ad past.length c] w λe w'=>∃ av c',e=.returned (.slice av past.length c')∧U W w' (Sl 5 1 av past.length c' (bc past)::L):=by
 obtain⟨h1,h2,h3⟩:=hp _ I;cases p5:ad with
 | none =>
  have h0:=h2 p5;rw[hs (l:=past) h0];refine EN func329 ntmps329 rfl rfl λa E=>?_;refine RN 6 E I λa E=>?_;replace E:=E.ek 4;refine RT 3 E I ?_;exact⟨_,_,rfl,I.bQ _ _ _⟩
 | some a =>
  rw[← p5];refine EN func329 ntmps329 rfl rfl λa E=>?_;refine RN 6 E I λa E=>?_;rw[show ad.isNone=false from by rw[p5];rfl]at E;replace E:=E.aQ 4;refine RN 2 E I λa E=>?_;refine uZ E rfl I bj Ty.t5 rfl λb5 a w E I ho=>?_;clear ho;replace I:U W w (Sl 5 1 (some ⟨b5,0,none⟩) 0 0 []::L):=I.tail.bQ _ _ _;refine RN 1 E I λa E=>?_;refine hO E rfl I bj Ty.t5 rfl rfl (by decide) (λh0=>(hp _ I.tail).get h0) (by rw[dA];omega) (ez _) (by omega) λtt r4 a w E I=>?_;rw[nil_append,ei]at I;rw[ei]at E;refine RT 1 E I ?_;exact⟨_,_,rfl,I⟩
theorem abc {to:Int}(I:U W w L)(hb:c0 b)(eI:past.length≤1001)(kf:past.length≤c)(hn:m≤1000)(hp:∀ w',U W w' L→aX w' ad past.length past)(ht:∀ w',U W w' L→aX w' adT b.table.length b.table) :
   Calls prog 311 #[.agg (dq b adT cT).toArray,.slice ad past.length c,.int .i64 m] w λe w'=>∃ av c',e=.returned (.slice av m c')∧U W w' (Sl 5 1 av m c' (bc (kr b past m))::L):=by
 refine EN func311 ntmps311 rfl rfl λa E=>?_;refine BX 1 E I λb3 a w E I=>?_;change U W w (aa b3 186 (dq b adT cT)::_) at I;refine bg 4 E I (zY I) λr a w E ⟨hr,I⟩=>?_;rw[hr.2 hb]at E;refine RN 1 E I λa E=>?_;replace E:=E.aQ 10;refine aY 3 E I (abb I (by omega) (λw' hw=>hp w' hw.tail)) λl3 eW a w E I=>?_;refine RN 6 E I λa E=>?_;rw[show min (max (m:Int) 0) 1000=(m:Int) from by omega]at E;refine RN 1 E I λa E=>?_;refine aL (λμ a w=>∃ (i:Nat) (ad2:Option Addr) (c2:Nat),(μ=m-i∧i≤m)∧Fr a 29 [(1,.slice ad past.length c),(3,pt b3),(7,.slice ad2 (eo b past i).length c2),(15,.int .i64 m),(16,.int .i64 i)]∧U W w (Sl 5 1 ad2 (eo b past i).length c2 (bc (eo b past i))::aa b3 186 (dq b adT cT)::L)) (m) (⟨0,l3,eW,⟨rfl,by omega⟩,E.ab [1,3,7,15,16],I⟩) ?_;clear E I;rintro μ a w ⟨i,ad2,c2,⟨rfl,hi⟩,E,I⟩;refine IF 3 E I (λao a E=>?_) λao a E=>?_
 ·
  have cr:=iH b past i;have HR:=(I.sl ad2).2;refine CL 4 E I (NZ I hb (by omega) HR (λw' hw=>hw.cw ad2 (eo b past i) rfl rfl) (λw' hw=>ht w' hw.tail.tail)) λa w E I=>?_;refine RN 0 E I λa E=>?_;refine ct E rfl I bj Ty.t5 rfl rfl rfl rfl (by decide) (by decide) λvr a w E I ho=>?_;clear ho;refine RN 0 E I λa E=>?_;refine cR E rfl I bj Ty.t5 rfl rfl I.ai rfl (ez [nM b (eo b past i)]) (by decide) (by decide) (by omega) λgH gI a w E I=>?_;rw[show bc (eo b past i)++_=bc (eo b past (i+1)) from (fS _ [_]).symm,show (eo b past i).length+1=(eo b past (i+1)).length from by rw[iH,iH];omega]at I;rw[show (eo b past i).length+1=(eo b past (i+1)).length from by rw[iH,iH];omega]at E;refine RN 3 E I λa E=>?_;exact⟨m-(i+1),by omega,i+1,gH,gI,⟨rfl,by omega⟩,E.ab [1,3,7,15,16],I.sub⟩
 obtain rfl:i=m:=by omega
 have cr:=iH b past i;refine RT 6 E I ?_;have h1:=I.Ei ad2 past.length (eo b past i).length (by omega) (a7 _);rw[show (eo b past i).length-past.length=i from by omega,fB,fB,← aa8,gl (by rw[dA,c8];omega),show List.drop past.length (eo b past i)=kr b past i from rfl]at h1;refine⟨_,_,by rw[show (eo b past i).length-past.length=i from by omega],h1.sub⟩
end
end
end Go.Proofs.YteoldcfapaiobaaGreat
