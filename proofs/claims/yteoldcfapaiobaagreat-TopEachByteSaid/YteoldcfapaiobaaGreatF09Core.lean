/- What a player knows, in memory: core.May, New, Conf, Queue, Head, Closed, Press, note, hold, Mark, Marks, Events. -/
import Derived.Test.YteoldcfapaiobaaGreatF08Pkt4
import Derived.Test.YteoldcfapaiobaaGreatF05Vm
import Derived.Test.YteoldcfapaiobaaGreatF06Ref
import Derived.ChangeSame
import Derived.Test.YteoldcfapaiobaaGreatF01Row
namespace Go.Proofs.YteoldcfapaiobaaGreat
open Tryz
open List (length_range take_succ_cons nil_append ext_getElem set_set map_drop range_succ getElem?_set_ne getElem?_set_self replicate_succ' getLastD_eq_getLast?)
open Go.RowKit
set_option linter.unusedVariables false
set_option linter.unusedSimpArgs false
set_option maxRecDepth 10000
set_option synthInstance.maxSize 4000
set_option synthInstance.maxHeartbeats 400000
section
abbrev iQ (p:Pe):List Value:=[.int .i64 p.has,.int .i64 p.heard,.int .i64 p.frame,.int .u32 p.sum,.bool p.apart]
theorem jV (p:Pe):(iQ p).length=5:=rfl
theorem ZJ (p:Pe):∀ v∈iQ p,v.oneCell'=true:=by
 intro v hv;simp[iQ]at hv;rcases hv with rfl | rfl | rfl | rfl | rfl <;> rfl
def c3 (l:List Nat):List Value:=l.map λs:Nat=>Value.int .u32 (s:Int)
structure qd where
 cb:Nat
 qb:Nat
 aB:List Nat
 bp:Nat
 op:Nat
structure o7 where
 cP:Nat
 ck:Option Addr
 cM:Nat
 adE:Option Addr
 cE:Nat
abbrev iE (k:Ks)(B:qd)(A:o7):List Value:=[.int .i64 k.n,.int .i64 k.me,.int .i64 k.id,.int .i64 k.aK,.int .i64 k.br,.int .i64 k.bg,.int .i64 k.order,.int .i64 k.cw,.int .i64 k.workers,.int .i64 k.room,
 pt B.qb,.slice (some ⟨B.bp,B.op,none⟩) k.ps.length A.cP,.slice A.ck k.mr.length A.cM,.slice A.adE k.ev.length A.cE,.int .i64 k.now,.bool k.cl]
def az (B:qd)(k:Ks):SP:=λh=>∃ A:o7,cn [aa B.cb 257 (iE k B A),Sl 259 5 (some ⟨B.bp,B.op,none⟩) k.ps.length A.cP (rows iQ k.ps),Sl 100 1 A.ck k.mr.length A.cM (c3 k.mr),Sl 135 1 A.adE k.ev.length A.cE (k.ev.map cA),Qu B.qb B.aB k.ls] h
section
variable {W w:World}{L L' R:List SP}{n c cb qb i:Nat}{ad:Option Addr}{aB:List Nat}{k:Ks}{A:o7}{B:qd}{cf:Cf}{e:km}
theorem az.open (I:U W w (az B k::L)):∃ A:o7,U W w (aa B.cb 257 (iE k B A)::Sl 259 5 (some ⟨B.bp,B.op,none⟩) k.ps.length A.cP (rows iQ k.ps)::Sl 100 1 A.ck k.mr.length A.cM (c3 k.mr)::Sl 135 1 A.adE k.ev.length A.cE (k.ev.map cA)::Qu B.qb B.aB k.ls::L):=by
 obtain⟨A,_,I⟩:=I.jL (ι:=o7) (p:=λ_=>True) (B:=λA h=>cn [aa B.cb 257 (iE k B A),Sl 259 5 (some ⟨B.bp,B.op,none⟩) k.ps.length A.cP (rows iQ k.ps),Sl 100 1 A.ck k.mr.length A.cM (c3 k.mr),Sl 135 1 A.adE k.ev.length A.cE (k.ev.map cA),Qu B.qb B.aB k.ls] h) λ_ ⟨A,h⟩=>⟨A,trivial,h⟩;exact⟨A,I.open (M:=[_,_,_,_,_]) λ_ h=>h⟩
theorem az.close (I:U W w (aa B.cb 257 (iE k B A)::Sl 259 5 (some ⟨B.bp,B.op,none⟩) k.ps.length A.cP (rows iQ k.ps)::Sl 100 1 A.ck k.mr.length A.cM (c3 k.mr)::Sl 135 1 A.adE k.ev.length A.cE (k.ev.map cA)::Qu B.qb B.aB k.ls::L)):U W w (az B k::L) :=
 U.shut (M:=[_,_,_,_,_]) I λ_ h=>⟨A,h⟩
theorem az.mk' (I:U W w L)(A:o7)[kk:fJ L (aa B.cb 257 (iE k B A)::Sl 259 5 (some ⟨B.bp,B.op,none⟩) k.ps.length A.cP (rows iQ k.ps)::Sl 100 1 A.ck k.mr.length A.cM (c3 k.mr)::Sl 135 1 A.adE k.ev.length A.cE (k.ev.map cA)::Qu B.qb B.aB k.ls::L') R]:U W w (az B k::L'):=az.close (A:=A) I.sub
theorem az.fold (I:U W w L)(B:qd)(k:Ks)(A:o7)[kk:fJ L [aa B.cb 257 (iE k B A),Sl 259 5 (some ⟨B.bp,B.op,none⟩) k.ps.length A.cP (rows iQ k.ps),Sl 100 1 A.ck k.mr.length A.cM (c3 k.mr),Sl 135 1 A.adE k.ev.length A.cE (k.ev.map cA),Qu B.qb B.aB k.ls] R]:U W w (az B k::R):=az.close (A:=A) (I.perm kk.perm)
theorem o8 {x lo hi:Int}(I:U W w L):Calls prog 167 #[.int .i64 x,.int .i64 lo,.int .i64 hi] w λe w'=>∃ r:Bool,e=.returned (.bool r)∧(r=true↔fB x lo hi)∧U W w' L:=by
 refine EN func167 ntmps167 rfl rfl λa E=>?_;refine BY 7 E I (λbX a E=>?_) λbX a E=>?_
 ·
  refine RT 5 E I ?_;exact⟨_,rfl,⟨λh=>⟨bX,qB h⟩,λh=>dh h.2⟩,I⟩
 refine RT 5 E I ?_;exact⟨_,rfl,⟨λh=>(by cases h),λh=>by have:=h.1;omega⟩,I⟩
theorem L7 (I:U W w L):Calls prog 130 #[.agg (bV cf).toArray] w λe w'=>∃ r:Bool,e=.returned (.bool r)∧(r=true↔eW cf)∧U W w' L:=by
 refine EN func130 ntmps130 rfl rfl λa E=>?_;refine BX 1 E I λb1 a w E I=>?_;change U W w (aa b1 28 (bV cf)::_) at I;refine RN 1 E I λa E=>?_;refine cd (M:=λa w=>∃ z:Bool,(z=true↔(fB cf.n 2 8∧fB cf.me 0 (cf.n-1)∧fB cf.id 0 1099511627776))∧Fr a 73 [(1,pt b1),(3,.bool z)]∧U W w (aa b1 28 (bV cf)::L)) ?_ ?_
 ·
  refine bj 2 E I (o8 I) λr1 a w E ⟨fg,I⟩=>?_;refine BY 1 E I (λbX a E=>?_) λbX a E=>?_
  ·
   refine RN 4 E I λa E=>?_;refine SK (bm E (bQ E rfl (s:=8)) (z8 E) rfl ?_);clear E a;intro a E;have mn:IntKind.i64.wrap (cf.n-1)=cf.n-1:=fH (by have:=(fg.1 bX).1;omega) (by have:=(fg.1 bX).2;omega);rw[mn]at E;refine bj 0 E I (o8 I) λr2 a w E ⟨e5,I⟩=>?_;refine BY 2 E I (λla a E=>?_) λla a E=>?_
   ·
    refine BY 5 E I (λuV a E=>?_) λuV a E=>?_
    ·
     refine RN 5 E I λa E=>?_;exact⟨_,⟨λh=>⟨fg.1 bX,e5.1 la,uV,qB h⟩,λh=>dh h.2.2.2⟩,E.ab [1,3],I⟩
    refine RN 5 E I λa E=>?_;exact⟨_,⟨λh=>(by cases h),λh=>by have:=h.2.2.1;omega⟩,E.ab [1,3],I⟩
   refine RN 10 E I λa E=>?_;exact⟨_,⟨λh=>(by cases h),λh=>by have:=e5.2 h.2.1;rw[la]at this;cases this⟩,E.ab [1,3],I⟩
  refine RN 18 E I λa E=>?_;exact⟨_,⟨λh=>(by cases h),λh=>by have:=fg.2 h.1;rw[bX]at this;cases this⟩,E.ab [1,3],I⟩
 clear E;(try clear I);rintro a w ⟨z1,cV,E,I⟩;refine cd (M:=λa w=>∃ z:Bool,(z=true↔(fB cf.aK 0 8∧fB cf.br 1 16∧fB cf.bg 1 3∧fB cf.order 0 3))∧Fr a 73 [(1,pt b1),(3,.bool z1),(4,.bool z)]∧U W w (aa b1 28 (bV cf)::L)) ?_ ?_
 ·
  refine bj 2 E I (o8 I) λr1 a w E ⟨fg,I⟩=>?_;refine BY 1 E I (λbX a E=>?_) λbX a E=>?_
  ·
   refine bj 2 E I (o8 I) λr2 a w E ⟨e5,I⟩=>?_;refine BY 2 E I (λfj a E=>?_) λfj a E=>?_
   ·
    refine bj 2 E I (o8 I) λr3 a w E ⟨kg,I⟩=>?_;refine BY 2 E I (λnB a E=>?_) λnB a E=>?_
    ·
     refine bj 2 E I (o8 I) λXO a w E ⟨qU,I⟩=>?_;refine RN 2 E I λa E=>?_;exact⟨_,⟨λh=>⟨fg.1 bX,e5.1 fj,kg.1 nB,qU.1 h⟩,λh=>qU.2 h.2.2.2⟩,E.ab [1,3,4],I⟩
    refine RN 5 E I λa E=>?_;exact⟨_,⟨λh=>(by cases h),λh=>by have:=kg.2 h.2.2.1;rw[nB]at this;cases this⟩,E.ab [1,3,4],I⟩
   refine RN 10 E I λa E=>?_;exact⟨_,⟨λh=>(by cases h),λh=>by have:=e5.2 h.2.1;rw[fj]at this;cases this⟩,E.ab [1,3,4],I⟩
  refine RN 15 E I λa E=>?_;exact⟨_,⟨λh=>(by cases h),λh=>by have:=fg.2 h.1;rw[bX]at this;cases this⟩,E.ab [1,3,4],I⟩
 clear E;(try clear I);rintro a w ⟨z2,eQ,E,I⟩;refine BY 3 E I (λnq a E=>?_) λnq a E=>?_
 ·
  refine BY 3 E I (λdE a E=>?_) λdE a E=>?_
  ·
   refine BY 4 E I (λfj a E=>?_) λfj a E=>?_
   ·
    have F2:cf.order=0∨cf.bg=2:=.inl fj;refine bj 8 E I (o8 I) λr1 a w E ⟨fg,I⟩=>?_;refine BY 2 E I (λp8 a E=>?_) λp8 a E=>?_
    ·
     refine bj 2 E I (o8 I) λr2 a w E ⟨e5,I⟩=>?_;refine BY 2 E I (λve a E=>?_) λve a E=>?_
     ·
      refine bj 2 E I (o8 I) λr3 a w E ⟨kg,I⟩=>?_;refine RT 2 E I ?_;exact⟨_,rfl,⟨λh=>⟨cV.1 nq,eQ.1 dE,F2,fg.1 p8,e5.1 ve,kg.1 h⟩,λh=>kg.2 h.2.2.2.2.2⟩,I.sub⟩
     refine RT 5 E I ?_;exact⟨_,rfl,⟨λh=>(by cases h),λh=>by have:=e5.2 h.2.2.2.2.1;rw[ve]at this;cases this⟩,I.sub⟩
    refine RT 10 E I ?_;exact⟨_,rfl,⟨λh=>(by cases h),λh=>by have:=fg.2 h.2.2.2.1;rw[p8]at this;cases this⟩,I.sub⟩
   refine BY 6 E I (λk9 a E=>?_) λk9 a E=>?_
   ·
    have F2:cf.order=0∨cf.bg=2:=.inr k9;refine bj 2 E I (o8 I) λr1 a w E ⟨fg,I⟩=>?_;refine BY 2 E I (λp8 a E=>?_) λp8 a E=>?_
    ·
     refine bj 2 E I (o8 I) λr2 a w E ⟨e5,I⟩=>?_;refine BY 2 E I (λve a E=>?_) λve a E=>?_
     ·
      refine bj 2 E I (o8 I) λr3 a w E ⟨kg,I⟩=>?_;refine RT 2 E I ?_;exact⟨_,rfl,⟨λh=>⟨cV.1 nq,eQ.1 dE,F2,fg.1 p8,e5.1 ve,kg.1 h⟩,λh=>kg.2 h.2.2.2.2.2⟩,I.sub⟩
     refine RT 5 E I ?_;exact⟨_,rfl,⟨λh=>(by cases h),λh=>by have:=e5.2 h.2.2.2.2.1;rw[ve]at this;cases this⟩,I.sub⟩
    refine RT 10 E I ?_;exact⟨_,rfl,⟨λh=>(by cases h),λh=>by have:=fg.2 h.2.2.2.1;rw[p8]at this;cases this⟩,I.sub⟩
   refine RT 15 E I ?_;exact⟨_,rfl,⟨λh=>(by cases h),λh=>by have:=h.2.2.1;omega⟩,I.sub⟩
  refine RT 25 E I ?_;exact⟨_,rfl,⟨λh=>(by cases h),λh=>by have:=eQ.2 h.2.1;rw[dE]at this;cases this⟩,I.sub⟩
 refine RT 28 E I ?_;exact⟨_,rfl,⟨λh=>(by cases h),λh=>by have:=cV.2 h.1;rw[nq]at this;cases this⟩,I.sub⟩
theorem ZK (I:U W w L)(h:¬ eW cf):Calls prog 96 #[.agg (bV cf).toArray] w λe w'=>e=.returned (.tuple #[.pointer none,.int .i64 1])∧U W w' L:=by
 refine EN func96 ntmps96 rfl rfl λa E=>?_;refine BX 1 E I λb1 a w E I=>?_;change U W w (aa b1 28 (bV cf)::_) at I;refine bj 5 E I (L7 I) λr a w E ⟨hr,I⟩=>?_;rw[show r=false from by cases hh:r with | false=>rfl | true=>exact absurd (hr.1 hh) h]at E;refine RN 1 E I λa E=>?_;replace E:=E.ei 7;refine RT 4 E I ?_;exact⟨rfl,I.sub⟩
theorem L8 {n me aK br:Nat}{id bg order cw workers room:Int}(I:U W w L)(h:eW ⟨n,me,id,aK,br,bg,order,cw,workers,room⟩) :
   Calls prog 96 #[.agg (bV ⟨n,me,id,aK,br,bg,order,cw,workers,room⟩).toArray] w λe w'=>∃ B,e=.returned (.tuple #[pt B.cb,.int .i64 0])∧U W w' (az B (fm ⟨n,me,id,aK,br,bg,order,cw,workers,room⟩)::L):=by
 have hh:=h;obtain⟨⟨h1,h2,h3⟩,⟨h4,h5,h6,h7⟩,h8,h9,fh,lN⟩:=hh;simp only[fB] at *;refine EN func96 ntmps96 rfl rfl λa E=>?_;refine BX 1 E I λb1 a w E I=>?_;change U W w (aa b1 28 (bV ⟨n,me,id,aK,br,bg,order,cw,workers,room⟩)::_) at I;refine bj 5 E I (L7 I) λr a w E ⟨hr,I⟩=>?_;rw[hr.2 h]at E;refine RN 1 E I λa E=>?_;replace E:=E.aM 7;refine RN 1 E I λa E=>?_;refine cd (M:=λa w=>∃ cb qb aB,Fr a 34 [(1,pt b1),(4,pt cb)]∧U W w (aa cb 257 [.int .i64 n,.int .i64 me,.int .i64 id,.int .i64 aK,.int .i64 br,.int .i64 bg,.int .i64 order,.int .i64 cw,.int .i64 workers,.int .i64 room,pt qb,.slice none 0 0,.slice none 0 0,.slice none 0 0,.int .i64 0,.bool false]::Qu qb aB (List.replicate n (List.replicate aK 0))::aa b1 28 (bV ⟨n,me,id,aK,br,bg,order,cw,workers,room⟩)::L)) ?_ ?_
 ·
  refine aX 0 (λw0 w'=>Rd w' b1 0 (bV ⟨n,me,id,aK,br,bg,order,cw,workers,room⟩)) [2,4,5] [1,3,3000,3002,1004,1005,6,1007,8] E I λa w E I hH=>?_;have hC:=hH.at w I.ai;refine RH 2 E I hH hC λa E=>?_;refine QH E (λw hc=>bT E underlying28 rfl Ty.t28 (hc)) hC λa E=>?_;simp only[bV]at E;refine RH 0 E I hH hC λa E=>?_;refine QH E (λw hc=>ae E (hc 0 _ rfl)) hC λa E=>?_;refine RH 0 E I hH hC λa E=>?_;refine SS E (ae E (hC 3 _ rfl)) λa E=>?_;refine RH 0 E I hH hC λa E=>?_;refine aY 0 E I (Zu (n:=n) (d:=aK) I (by omega) (by omega)) λqb aB a w E I=>?_;replace hC:=hH.at w I.ai;refine RH 1 E I hH hC λa E=>?_;refine xQ E rfl I rfl λVK a w E I ho=>?_;clear ho;refine RN 1 E I λa E=>?_;exact⟨_,qb,aB,E.ab [1,4],I⟩
 clear E;(try clear I);rintro a w ⟨cb,qb,aB,E,I⟩;refine RN 5 E I λa E=>?_;replace I:=I.bN 259 5 none;refine aQ (λμ a w=>∃ (i:Nat) (ad:Option Addr) (c:Nat),(μ=n-i∧i≤n)∧Fr a 34 [(1,pt b1),(4,pt cb),(17,.int .i64 n),(18,.int .i64 i)]∧U W w (aa cb 257 [.int .i64 n,.int .i64 me,.int .i64 id,.int .i64 aK,.int .i64 br,.int .i64 bg,.int .i64 order,.int .i64 cw,.int .i64 workers,.int .i64 room,pt qb,.slice ad i c,.slice none 0 0,.slice none 0 0,.int .i64 0,.bool false]::Sl 259 5 ad i c (rows iQ (List.replicate i (fC aK)))::Qu qb aB (List.replicate n (List.replicate aK 0))::aa b1 28 (bV ⟨n,me,id,aK,br,bg,order,cw,workers,room⟩)::L)) (n) (⟨0,none,0,⟨rfl,by omega⟩,E.ab [1,4,17,18],(I.perm (cZ _ _ _):U W w (aa cb 257 _::Sl 259 5 none 0 0 []::_))⟩) ?_;clear E I;rintro μ a w ⟨i,ad,c,⟨rfl,hi⟩,E,I⟩;refine IF 3 E I (λao a E=>?_) λao a E=>?_
 ·
  refine bS 1 [6,7,8] [0,1,2,3,5,3004,1006,1007,1008,1009,10,11,1012] E I λa w E I hH hC=>?_;refine RH 8 E I hH hC λa E=>?_;refine cr E rfl I underlying255 Ty.t259 rfl rfl rfl rfl (by decide) (by decide) λI7 a w E I ho=>?_;replace hC:=hC.trans ho;clear ho;refine RH 0 E I hH hC λa E=>?_;refine cQ E rfl I underlying255 Ty.t259 rfl rfl I.ai rfl (ZJ (fC aK)) (by decide) (by decide) (by omega) λL9 Ma a w E I=>?_;rw[show rows iQ (List.replicate i (fC aK))++_=rows iQ (List.replicate (i+1) (fC aK)) from by rw[replicate_succ',kE];rfl]at I;refine ST 2 E I (λa w E I=>?_);refine RN 2 E I λa E=>?_;exact⟨n-(i+1),by omega,i+1,L9,Ma,⟨rfl,by omega⟩,E.ab [1,4,17,18],I.sub⟩
 obtain rfl:i=n:=by omega
 replace I:=I.bN 100 1 none;replace I:=I.bN 135 1 none;refine RT 4 E I ?_;obtain⟨bp,op,rfl,_⟩:=(I.pick (Sl 259 5 ad i c (rows iQ (List.replicate i (fC aK))))).bU ad (by omega);refine⟨⟨cb,qb,aB,bp,op⟩,rfl,?_⟩;refine az.close (A:=⟨c,none,0,none,0⟩) ?_;have hl:(fm ⟨i,me,id,aK,br,bg,order,cw,workers,room⟩).ps.length=i:=by simp[fm]
 rw[iE,hl];exact I.sub (M:=aa cb 257 [.int .i64 i,.int .i64 me,.int .i64 id,.int .i64 aK,.int .i64 br,.int .i64 bg,.int .i64 order,.int .i64 cw,.int .i64 workers,.int .i64 room,pt qb,.slice (some ⟨bp,op,none⟩) i c,.slice none 0 0,.slice none 0 0,.int .i64 0,.bool false]::Sl 259 5 (some ⟨bp,op,none⟩) i c (rows iQ (List.replicate i (fC aK)))::Sl 100 1 none 0 0 []::Sl 135 1 none 0 0 []::Qu qb aB (List.replicate i (List.replicate aK 0))::L)
theorem Mb (I:U W w (az B k::L)):Calls prog 292 #[pt B.cb] w λe w'=>e=.returned (.agg (bV (fl k)).toArray)∧U W w' (az B k::L):=by
 obtain⟨A,I⟩:=az.open I;refine EN func292 ntmps292 rfl rfl λa E=>?_;refine AL 1 E I λb2 a w E I=>?_;refine RN 4 E I λa E=>?_;replace E:=E.aM 4;refine SA 6 E I λa w E I=>?_;refine RT 0 E I ?_;exact⟨rfl,az.close I.tail⟩
theorem o9 (I:U W w (az B k::L)):Calls prog 134 #[pt B.cb] w λe w'=>e=.returned (pt B.qb)∧U W w' (az B k::L):=by
 obtain⟨A,I⟩:=az.open I;refine EN func134 ntmps134 rfl rfl λa E=>?_;refine RN 6 E I λa E=>?_;replace E:=E.aM 4;refine RT 7 E I ?_;exact⟨rfl,az.close I⟩
theorem az.F3 (I:U W w (az B k::L)):∃ D:SP,U W w (Qu B.qb B.aB k.ls::D::L)∧∀ (w':World) (L':List SP) (kV:List (List UInt8)),U W w' (Qu B.qb B.aB kV::D::L')→U W w' (az B { k with ls:=kV }::L'):=by
 obtain⟨A,I⟩:=az.open I;refine⟨λh=>cn [aa B.cb 257 (iE k B A),Sl 259 5 (some ⟨B.bp,B.op,none⟩) k.ps.length A.cP (rows iQ k.ps),Sl 100 1 A.ck k.mr.length A.cM (c3 k.mr),Sl 135 1 A.adE k.ev.length A.cE (k.ev.map cA)] h,?_,λw' L' kV I=>?_⟩
 ·refine U.perm (L:=(λh=>cn [aa B.cb 257 (iE k B A),Sl 259 5 (some ⟨B.bp,B.op,none⟩) k.ps.length A.cP (rows iQ k.ps),Sl 100 1 A.ck k.mr.length A.cM (c3 k.mr),Sl 135 1 A.adE k.ev.length A.cE (k.ev.map cA)] h)::Qu B.qb B.aB k.ls::L) ?_ (cZ _ _ _);exact U.shut (M:=[_,_,_,_]) I λ_ h=>h
 ·have h1:=(I.perm (cZ _ _ _)).open (M:=[_,_,_,_]) λ_ h=>h;exact az.close (k:={ k with ls:=kV }) (A:=A) h1
theorem az.qu (I:U W w (az B k::L)):∃ D:SP,U W w (Qu B.qb B.aB k.ls::D::L)∧∀ (w':World) (L':List SP),U W w' (Qu B.qb B.aB k.ls::D::L')→U W w' (az B k::L'):=by
 obtain⟨D,h1,h2⟩:=az.F3 I;exact⟨D,h1,λw' L' h=>h2 w' L' k.ls h⟩
theorem tI (I:U W w (az B k::L))(hk:WC k):Calls prog 275 #[pt B.cb] w λe w'=>e=.returned (.int .i64 (aG k))∧U W w' (az B k::L):=by
 have eB:k.me<k.ls.length:=by rw[hk.ls];exact hk.me
 refine EN func275 ntmps275 rfl rfl λa E=>?_;refine CL 4 E I (o9 I) λa w E I=>?_;refine CL 1 E I (Mb I) λa w E I=>?_;refine RN 0 E I λa E=>?_;refine SS E (IZ E underlying28 rfl underlying3 rfl rfl) λa E=>?_;obtain⟨D,I,hD⟩:=az.qu I;refine CL 0 E I (tG I eB) λa w E I=>?_;refine CL 0 E I (y4 I eB) λa w E I=>?_;refine RT 1 E I ?_;exact⟨rfl,hD _ _ I⟩
theorem y7 (I:U W w (az B k::L)):Calls prog 179 #[pt B.cb] w λe w'=>e=.returned (.bool k.cl)∧U W w' (az B k::L):=by
 obtain⟨A,I⟩:=az.open I;refine EN func179 ntmps179 rfl rfl λa E=>?_;refine RN 6 E I λa E=>?_;replace E:=E.aM 5;refine RT 6 E I ?_;exact⟨rfl,az.close I⟩
theorem Mc (I:U W w (az B k::L)):Calls prog 133 #[pt B.cb] w λe w'=>e=.returned (.int .i64 k.mr.length)∧U W w' (az B k::L):=by
 obtain⟨A,I⟩:=az.open I;refine EN func133 ntmps133 rfl rfl λa E=>?_;refine RN 6 E I λa E=>?_;replace E:=E.aM 4;refine RT 8 E I ?_;exact⟨rfl,az.close I⟩
theorem F4 (I:U W w (az B k::L))(he:tH e)(hl:k.ev.length≤100):Calls prog 204 #[pt B.cb,.agg (bW e).toArray] w λr w'=>r=.returned (.tuple #[])∧U W w' (az B { k with ev:=k.ev++[e] }::L):=by
 obtain⟨A,I⟩:=az.open I;refine EN func204 ntmps204 rfl rfl λa E=>?_;refine BX 1 E I λb3 a w E I=>?_;change U W w (aa b3 102 (bW e)::_) at I;refine CL 2 E I (ZE I he) λa w E I=>?_;refine AL 3 E I λb4 a w E I=>?_;refine SA 0 E I λa w E I=>?_;refine RN 3 E I λa E=>?_;replace E:=E.ei 11;refine bS 1 [5,6] [0,1,2,3,3004,1005,1006,1007,8,9,1010] E I λa w E I hH hC=>?_;refine RH 6 E I hH hC λa E=>?_;refine cr E rfl I underlying90 Ty.t135 rfl rfl rfl rfl (by decide) (by decide) λtu a w E I ho=>?_;replace hC:=hC.trans ho;clear ho;refine RH 0 E I hH hC λa E=>?_;refine cQ E rfl I underlying90 Ty.t135 rfl rfl I.ai rfl (by simpa using F0 e) (by decide) (by decide) (by omega) λA7 A8 a w E I=>?_;rw[show List.map cA k.ev++_=List.map cA (k.ev++[e]) from by rw[cW];rfl,show k.ev.length+1=(k.ev++[e]).length from by simp]at I;rw[show k.ev.length+1=(k.ev++[e]).length from by simp]at E;refine ST 2 E I (λa w E I=>?_);refine RT 0 E I ?_;exact⟨rfl,az.mk' (k:={ k with ev:=k.ev++[e] }) I { A with adE:=A7,cE:=A8 }⟩
structure sj (w:World)(B:qd)(k:Ks):Prop where
 cf:Rd w B.cb 0 [.int .i64 k.n,.int .i64 k.me,.int .i64 k.id,.int .i64 k.aK,.int .i64 k.br,.int .i64 k.bg,.int .i64 k.order,.int .i64 k.cw,.int .i64 k.workers,.int .i64 k.room,pt B.qb]
 now:w.cell? ⟨B.cb,14,none⟩=some (.int .i64 k.now)
 cl:w.cell? ⟨B.cb,15,none⟩=some (.bool k.cl)
 pe:∀ (i:Nat) (p:Pe),k.ps[i]?=some p→Rd w B.bp (B.op+i*5) (iQ p)
 af5:∃ ad c,w.cell? ⟨B.cb,12,none⟩=some (.slice ad k.mr.length c)
 pl:∃ c,w.cell? ⟨B.cb,11,none⟩=some (.slice (some ⟨B.bp,B.op,none⟩) k.ps.length c)
theorem jk {α:Type}{f:α→List Value}{sz:Nat}(hf:∀ x,(f x).length=sz){l:List α}{i:Nat}{x:α}{b o:Nat}(h:Rd w b o (rows f l))(hx:l[i]?=some x):Rd w b (o+i*sz) (f x):=by
 obtain⟨hi,rfl⟩:=a2.1 hx;have h1:=h.part (i*sz) sz
 rwa [vW hf l i hi]at h1
theorem az.rd (I:U W w (az B k::L)):sj w B k:=by
 obtain⟨A,I⟩:=az.open I;refine⟨I.qq 11,I.bz rfl,I.bz rfl,λi p hp=>?_,⟨_,_,I.bz rfl⟩,⟨_,I.bz rfl⟩⟩;have hi:=(a2.1 hp).1;exact jk jV (I.cK B.bp B.op (by omega)) hp
end
theorem BL {l:List Nat}{i:Nat}(h:i<l.length):(c3 l)[i]?=some (.int .u32 (l.getD i 0:Nat)):=by
 rw[c3,bn,aD h,bl,aD h];rfl
theorem vf {k:Ks}{i:Nat}(h:i<k.ps.length):k.ps[i]?=some (au k i):=by
 rw[au,bl,aD h];rfl
theorem Md {k:Ks}{i:Nat}(h:i<k.ps.length):k.ps[i]=au k i:=by
 rw[au,bl,aD h];rfl
section
variable {W w:World}{L L':List SP}{n c i:Nat}{ad:Option Addr}{k:Ks}{A:o7}{B:qd}{x:UInt8}
theorem Me (I:U W w (az B k::L))(hk:WC k):Calls prog 175 #[pt B.cb] w λr w'=>r=.returned (.tuple #[])∧U W w' (az B (lr k)::L):=by
 have eF:k.ps.length=k.n:=hk.ps;obtain⟨A0,I⟩:=az.open I;refine EN func175 ntmps175 rfl rfl λa E=>?_;refine RN 7 E I λa E=>?_;replace I:=az.close I;refine aQ (λμ a w=>∃ (i:Nat),(μ=k.ps.length-i∧i≤k.ps.length)∧Fr a 71 [(0,pt B.cb),(8,.int .i64 k.ps.length),(9,.int .i64 i)]∧U W w (az B (gv k i)::L)) (k.ps.length) (⟨0,⟨rfl,by omega⟩,E.ab [0,8,9],I⟩) ?_;clear E I;rintro μ a w ⟨i,⟨rfl,hi⟩,E,I⟩;refine IF 3 E I (λaj a E=>?_) λaj a E=>?_
 ·
  have aF:i<k.ps.length:=by omega
  have j5:=hk.gv (i:=i) (by omega);have dH:=BF k i;have eP:gv k (i+1)=lq (gv k i) i:=rfl;rw[lq]at eP;generalize gv k i=kk at I j5 dH eP;rw[← dH]at aF;have iC:=j5.qa (i:=i) (by rw[← j5.ps];exact aF);have e9:=vf aF;have K8:i<8:=by have:=j5.n;have:=j5.ps;omega
  obtain⟨A,I⟩:=az.open I;have fk:=jk jV (I.cK B.bp B.op (by omega)) e9;refine RN 14 E I λa E=>?_;have fk:Rd w.drew B.bp (B.op+i*5) (iQ (au kk i)):=fk;have jT:Rd w.drew B.cb 0 (iE kk B A):=I.drew.ai;refine rE 0 (Old w.drew) [13,14,31,35,36,37,38] [0,1,2,1003,4,5,6,7,8,10,11,12,3009,1013,1014,15,16,17,18,19,20,1021,22,23,24,25,26,28,29,30,32,33,34,3027,3031,1035,1036,1037,1038,39,40] E I λa E=>?_;replace I:=I.drew;have hH:=Hd.gD I;have hC:=Old.refl w.drew;generalize w.drew=w at I hH hC fk jT ⊢;refine RH 3 E I hH hC λa E=>?_;refine SS E (ae E (fk 2 _ rfl)) λa E=>?_;refine RH 2 E I hH hC λa E=>?_;refine E.by (s:=23) (λji E=>?_) (λji E=>?_)
  ·
   refine RH 35 E I hH hC λa E=>?_;refine RN 3 E I λa E=>?_;rw[ag (λh=>by have:=h.2.1;omega)]at eP;exact⟨k.ps.length-(i+1),by omega,i+1,⟨rfl,by omega⟩,E.ab [0,8,9],by rw[eP];exact az.close I⟩
  refine RH 6 E I hH hC λa E=>?_;refine QH E (λw hc=>ae E (hc.cell (fk 2 _ rfl))) hC λa E=>?_;refine RH 0 E I hH hC λa E=>?_;refine bm E (bQ E rfl (s:=23)) (ae E (jT 12 _ rfl)) rfl λa E=>?_;refine RH 4 E I hH hC λa E=>?_;refine E.by (s:=35) (λZL E=>?_) (λZL E=>?_)
  ·
   refine RH 23 E I hH hC λa E=>?_;refine RN 3 E I λa E=>?_;rw[ag (λh=>by have:=h.2.2.1;omega)]at eP;exact⟨k.ps.length-(i+1),by omega,i+1,⟨rfl,by omega⟩,E.ab [0,8,9],by rw[eP];exact az.close I⟩
  refine RH 3 E I hH hC λa E=>?_;refine bm E (bQ E rfl (s:=35)) (ae E (fk 4 _ rfl)) rfl λa E=>?_;refine RH 2 E I hH hC λa E=>?_;refine E.by (s:=41) (λmQ E=>?_) (λmQ E=>?_)
  ·
   refine RH 17 E I hH hC λa E=>?_;refine RN 3 E I λa E=>?_;rw[ag (λh=>by have:=h.1;rw[mQ]at this;cases this)]at eP;exact⟨k.ps.length-(i+1),by omega,i+1,⟨rfl,by omega⟩,E.ab [0,8,9],by rw[eP];exact az.close I⟩
  have mE:(au kk i).frame-1<kk.mr.length:=by omega
  obtain⟨F5,F6,eB,lY⟩:=I.bU A.ck (by omega);have y8:=jT 12 _ rfl;rw[eB]at y8;refine RH 9 E I hH hC λa E=>?_;refine QH E (λw hc=>ae E (hc.cell (fk 3 _ rfl))) hC λa E=>?_;refine QH E (λw hc=>ae E (hc.cell (y8))) hC λa E=>?_;refine RH 0 E I hH hC λa E=>?_;refine bm E (bQ E rfl (s:=41)) (ae E (fk 2 _ rfl)) rfl λa E=>?_;refine RH 1 E I hH hC λa E=>?_;rw[show (((au kk i).frame:Nat):Int)-1=(((au kk i).frame-1:Nat):Int) from by omega]at E;refine RH 1 E I hH hC λa E=>?_;refine bm E (bQ E rfl (s:=41)) (ae E (lY ((au kk i).frame-1) _ (BL mE))) rfl λa E=>?_;refine RH 2 E I hH hC λa E=>?_;refine IF 0 E I (λao a E=>?_) λao a E=>?_
  ·
   refine RN 2 E I λa E=>?_;rw[ag (λh=>by have:=h.2.2.2;omega)]at eP;exact⟨k.ps.length-(i+1),by omega,i+1,⟨rfl,by omega⟩,E.ab [0,8,9],by rw[eP];exact az.close I⟩
  refine RN 1 E I λa E=>?_;rw[ak ⟨mQ,by omega,by omega,by omega⟩]at eP;refine RN 3 E I λa E=>?_;refine mB (off:=B.op) (k:=i*5+4) E rfl I Ty.t4 rfl (by omega) (by rw[jv jV];omega) λa w E I=>?_;rw[qD jV kk.ps { au kk i with apart:=true } aF (by decide) (by rw[Md aF];rfl)]at I;have hs:(kk.ps.set i { au kk i with apart:=true }).length=kk.ps.length:=bw;rw[show iE kk B A=iE { kk with ps:=kk.ps.set i { au kk i with apart:=true } } B A from by simp only[iE,hs],← hs]at I;replace I:=az.mk' (L':=L) (B:=B) (k:={ kk with ps:=kk.ps.set i { au kk i with apart:=true } }) I A;refine RN 5 E I λa E=>?_;refine SS E (ae E (((az.rd I).pe i { au kk i with apart:=true } (by rw[getElem?_set_self aF])) 2 _ rfl)) λa E=>?_;refine CL 1 E I (F4 (e:=(3,i,(au kk i).frame)) I ⟨by simp,by simp,by have:=j5.n;have:=j5.ps;show i<8;omega,iC.2.2.1,.inl rfl⟩ (by have:=j5.kT;show kk.ev.length≤100;omega)) λa w E I=>?_;refine RN 2 E I λa E=>?_;exact⟨k.ps.length-(i+1),by omega,i+1,⟨rfl,by omega⟩,E.ab [0,8,9],by rw[eP];exact I⟩
 refine RT 0 E I ?_;obtain rfl:i=k.ps.length:=by omega
 exact⟨rfl,I⟩
theorem ZM {s:Nat}(I:U W w (az B k::L))(hk:WC k)(hl:k.mr.length<1000)(yw:s<4294967296):Calls prog 138 #[pt B.cb,.int .u32 s] w λr w'=>r=.returned (.tuple #[])∧U W w' (az B (lU k s)::L):=by
 have y9 : WC { k with mr := k.mr ++ [s] } := { hk with
     mr:=by show (k.mr++[s]).length≤1000;rw[aI,jD];omega
     sf:=λx hx=>by
      rcases eS.1 hx with hx | hx
      ·exact hk.sf x hx
      ·rw[iH]at hx;rw[hx];exact yw }
 obtain⟨A,I⟩:=az.open I;refine EN func138 ntmps138 rfl rfl λa E=>?_;refine RN 5 E I λa E=>?_;replace E:=E.aM 6;refine RN 7 E I λa E=>?_;rw[bo (by omega)]at E;refine RN 8 E I λa E=>?_;refine cr E rfl I underlying69 Ty.t100 rfl rfl rfl rfl (by decide) (by decide) λJS a w E I ho=>?_;clear ho;refine RN 0 E I λa E=>?_;refine cQ E rfl I underlying69 Ty.t100 rfl rfl I.ai rfl (by simp[Value.oneCell']) (by decide) (by decide) (by omega) λrK rL a w E I=>?_;rw[show c3 k.mr++_=c3 (k.mr++[s]) from by rw[c3,c3,cW];rfl,show k.mr.length+1=(k.mr++[s]).length from by simp]at I;rw[show k.mr.length+1=(k.mr++[s]).length from by simp]at E;refine ST 2 E I (λa w E I=>?_);refine RN 0 E I λa E=>?_;replace I:=az.mk' (B:=B) (L':=L) (k:={ k with mr:=k.mr++[s] }) I { A with ck:=rK,cM:=rL };refine CL 1 E I (Me I y9) λa w E I=>?_;refine RT 0 E I ?_;exact⟨rfl,by rw[lU,ak hl];exact I⟩
theorem ZN (I:U W w (az B k::L)):Calls prog 296 #[pt B.cb] w λr w'=>∃ ad c,r=.returned (.slice ad k.ev.length c)∧U W w' (Sl 135 1 ad k.ev.length c (k.ev.map cA)::az B { k with ev:=[] }::L):=by
 obtain⟨A,I⟩:=az.open I;refine EN func296 ntmps296 rfl rfl λa E=>?_;refine RN 6 E I λa E=>?_;replace E:=E.aM 5;refine ST 11 E I (λa w E I=>?_);refine RT 3 E I ?_;refine⟨A.adE,A.cE,rfl,?_⟩;replace I:=I.bN 135 1 none;refine U.perm (L:=az B { k with ev:=[] }::Sl 135 1 A.adE k.ev.length A.cE (k.ev.map cA)::L) ?_ (cZ _ _ _);refine az.close (A:=⟨A.cP,A.ck,A.cM,none,0⟩) ?_;exact I.sub (M:=aa B.cb 257 [.int .i64 k.n,.int .i64 k.me,.int .i64 k.id,.int .i64 k.aK,.int .i64 k.br,.int .i64 k.bg,.int .i64 k.order,.int .i64 k.cw,.int .i64 k.workers,.int .i64 k.room,pt B.qb,.slice (some ⟨B.bp,B.op,none⟩) k.ps.length A.cP,.slice A.ck k.mr.length A.cM,.slice none 0 0,.int .i64 k.now,.bool k.cl]::Sl 259 5 (some ⟨B.bp,B.op,none⟩) k.ps.length A.cP (rows iQ k.ps)::Sl 100 1 A.ck k.mr.length A.cM (c3 k.mr)::Sl 135 1 none 0 0 []::Qu B.qb B.aB k.ls::Sl 135 1 A.adE k.ev.length A.cE (k.ev.map cA)::L)
theorem ZO (I:U W w (az B k::L))(hk:WC k):Calls prog 297 #[pt B.cb,.int .u8 (x.toNat:Nat)] w λr w'=>r=.returned (.int .i64 (c1 x k).1)∧U W w' (az B (c1 x k).2::L):=by
 have eB:k.me<k.ls.length:=by rw[hk.ls];exact hk.me
 have gW:=hk.lV;have fw:aU k.ls≤aG k:=hk.nF;refine EN func297 ntmps297 rfl rfl λa E=>?_;refine CL 5 E I (y7 I) λa w E I=>?_;refine IF 1 E I (λaj a E=>?_) λaj a E=>?_
 ·
  refine RT 2 E I ?_;exact⟨by rw[c1,ak aj],by rw[c1,ak aj];exact I⟩
 have cp:¬ k.cl=true:=by rw[aj];decide
 refine CL 2 E I (tI I hk) λa w E I=>?_;refine IF 2 E I (λao a E=>?_) λao a E=>?_
 ·
  refine RT 2 E I ?_;exact⟨by rw[c1,ag cp,ak (by omega)],by rw[c1,ag cp,ak (by omega)];exact I⟩
 refine aX 1 (λw0 w'=>sj w' B k) [1,6,7,12] [0,2,3,4,8,9,10,11,3005,3012,1001,1006,1007,13,14] E I λa w E I hH=>?_;have hC:=hH.at w (az.rd I);refine RH 8 E I hH hC λa E=>?_;refine QH E (λw hc=>ae E (hc.cf 10 _ rfl)) hC λa E=>?_;refine QH E (λw hc=>ae E (hc.cf 4 _ rfl)) hC λa E=>?_;refine RH 0 E I hH hC λa E=>?_;refine CL 0 E I (tI I hk) λa w E I=>?_;replace hC:=hH.at w (az.rd I);obtain⟨D,I,hD⟩:=az.qu I;refine RH 0 E I hH hC λa E=>?_;refine CL 0 E I (se I hk.lu (by rw[hk.ls];exact hk.n.2)) λa w E I=>?_;replace hC:=hH.at w (az.rd (hD _ _ I));replace I:=hD _ _ I;refine RH 3 E I hH hC λa E=>?_;refine IF 0 E I (λay a E=>?_) λay a E=>?_
 ·
  refine RT 2 E I ?_;exact⟨by rw[c1,ag cp,ag (by omega),ak (by rw[aw];omega)],by rw[c1,ag cp,ag (by omega),ak (by rw[aw];omega)];exact I⟩
 refine aX 1 (λw0 w'=>sj w' B k) [8] [0,1,2,4,5,6,7,10,3003,1008,1009,1011,12] E I λa w E I hH=>?_;have hC:=hH.at w (az.rd I);refine RH 8 E I hH hC λa E=>?_;refine QH E (λw hc=>ae E (hc.cf 10 _ rfl)) hC λa E=>?_;refine RH 0 E I hH hC λa E=>?_;refine SS E (ae E (hC.cf 1 _ rfl)) λa E=>?_;obtain⟨D,I,hD⟩:=az.F3 I;refine RH 0 E I hH hC λa E=>?_;refine CL 0 E I (tG I eB) λa w E I=>?_;refine CL 0 E I (Zo I eB (by simp only[aG]at ao;omega)) λa w E I=>?_;refine RN 1 E I λa E=>?_;refine RT 0 E I ?_;have vg:c1 x k=(0,{ k with ls:=k.ls.set k.me (k.ls.getD k.me []++[x]) }):=by rw[c1,ag cp,ag (by omega),ag (by rw[aw];omega)]
 rw[vg];exact⟨rfl,hD _ _ _ I⟩
end
def mV (l:List Nat):List Value:=l.map λi:Nat=>Value.int .i64 (i:Int)
theorem F7 {l:List Nat}{i j:Nat}(h:l[i]?=some j):(mV l)[i]?=some (.int .i64 (j:Int)):=by rw[mV,bn,h];rfl
def lv (k:Ks)(i:Nat):List Nat:=(List.range i).filter (·≠k.me)
theorem F8 (k:Ks)(i:Nat):lv k (i+1)=if i=k.me then lv k i else lv k i++[i]:=by
 rw[lv,range_succ,yl];by_cases h:i=k.me
 ·rw[ak h];simp[h,lv]
 ·rw[ag h];simp[h,lv]
theorem Mf (k:Ks):∀ i,(lv k i).length≤i:=λi=>by
 have:=pO (λx=>decide (x≠k.me)) (List.range i);rw[length_range]at this;exact this
abbrev Mx:=Option Addr×Nat×Ml
abbrev b7 (x:Mx):List Value:=[.int .i64 x.2.2.1,.int .i64 x.2.2.2.1,.slice x.1 x.2.2.2.2.length x.2.1]
theorem oc (x:Mx):(b7 x).length=3:=rfl
theorem ZP (x:Mx):∀ v∈b7 x,v.oneCell'=true:=by
 intro v hv;simp[b7]at hv;rcases hv with rfl | rfl | rfl <;> rfl
def cc (x:Mx):SP:=Sl 5 1 x.1 x.2.2.2.2.length x.2.1 (bc x.2.2.2.2)
def cg (e:TypeId)(ad:Option Addr)(n c:Nat)(ms:List Ml):SP:=λh=>∃ xs:List Mx,(xs.map (·.2.2)=ms∧ms.length=n)∧cn [Sl e 3 ad n c (rows b7 xs),ah cc xs] h
section
variable {W w:World}{L L':List SP}{n c i e to:Nat}{ad adP:Option Addr}{k:Ks}{A:o7}{B:qd}{x:UInt8}{ms:List Ml}{p:Pk}
theorem cg.open (I:U W w (cg e ad n c ms::L)):∃ xs:List Mx,xs.map (·.2.2)=ms∧ms.length=n∧U W w (Sl e 3 ad n c (rows b7 xs)::ah cc xs::L):=by
 obtain⟨xs,⟨h1,h2⟩,I⟩:=I.jL (ι:=List Mx) (p:=λxs=>xs.map (·.2.2)=ms∧ms.length=n) (B:=λxs h=>cn [Sl e 3 ad n c (rows b7 xs),ah cc xs] h) λ_ ⟨xs,h1,h2⟩=>⟨xs,h1,h2⟩;exact⟨xs,h1,h2,I.open (M:=[_,_]) λ_ h=>h⟩
theorem cg.close {xs:List Mx}(I:U W w (Sl e 3 ad n c (rows b7 xs)::ah cc xs::L))(h1:xs.map (·.2.2)=ms)(h2:ms.length=n):U W w (cg e ad n c ms::L) :=
 U.shut (M:=[_,_]) I λ_ h=>⟨xs,⟨h1,h2⟩,h⟩
theorem cg.nil (I:U W w L):U W w (cg e none 0 0 []::L):=cg.close (xs:=[]) (U.bN (U.iY I) e 3 none) rfl rfl
theorem F9 (I:U W w (az B k::L))(hk:WC k):Calls prog 315 #[pt B.cb] w λr w'=>∃ ad c,r=.returned (.slice ad (bG k).length c)∧U W w' (Sl 3 1 ad (bG k).length c (mV (bG k))::az B k::L):=by
 have gH:=hk.ps;have hn:=hk.n;obtain⟨A,I⟩:=az.open I;refine EN func315 ntmps315 rfl rfl λa E=>?_;refine RN 12 E I λa E=>?_;rw[gH]at E;replace I:=az.close I;replace I:=I.bN 3 1 none;refine aQ (λμ a w=>∃ (i:Nat) (ad:Option Addr) (c:Nat),(μ=k.n-i∧i≤k.n)∧Fr a 26 [(0,pt B.cb),(3,.slice ad (lv k i).length c),(9,.int .i64 k.n),(10,.int .i64 i)]∧U W w (Sl 3 1 ad (lv k i).length c (mV (lv k i))::az B k::L)) (k.n) (⟨0,none,0,⟨rfl,by omega⟩,E.ab [0,3,9,10],I⟩) ?_;clear E I;rintro μ a w ⟨i,ad,c,⟨rfl,hi⟩,E,I⟩;refine IF 3 E I (λaj a E=>?_) λaj a E=>?_
 ·
  have dY:=Mf k i;have lZ:=F8 k i;refine RN 10 E I λa E=>?_;refine SS E (ae E (((az.rd I.tail).cf 1 _ rfl))) λa E=>?_;refine IF 1 E I (λao a E=>?_) λao a E=>?_
  ·
   rw[ag (by omega)]at lZ;refine RN 2 E I λa E=>?_;refine cr E rfl I underlying53 Ty.t3 rfl rfl rfl rfl (by decide) (by decide) λuW a w E I ho=>?_;clear ho;refine RN 0 E I λa E=>?_;refine cQ E rfl I underlying53 Ty.t3 rfl rfl I.ai rfl (by simp[Value.oneCell']) (by decide) (by decide) (by omega) λgw gx a w E I=>?_;rw[show mV (lv k i)++_=mV (lv k (i+1)) from by rw[lZ,mV,mV,cW];rfl,show (lv k i).length+1=(lv k (i+1)).length from by rw[lZ,aI];rfl]at I;rw[show (lv k i).length+1=(lv k (i+1)).length from by rw[lZ,aI];rfl]at E;refine RN 3 E I λa E=>?_;exact⟨k.n-(i+1),by omega,i+1,gw,gx,⟨rfl,by omega⟩,E.ab [0,3,9,10],I.sub⟩
  rw[ak (by omega)]at lZ;refine RN 2 E I λa E=>?_;exact⟨k.n-(i+1),by omega,i+1,ad,c,⟨rfl,by omega⟩,by rw[lZ];exact E.ab [0,3,9,10],by rw[lZ];exact I⟩
 refine RT 3 E I ?_;obtain rfl:i=k.n:=by omega
 exact⟨ad,c,rfl,I⟩
def tJ (k:Ks)(to:Nat)(p:Pk):Pk:={ p with aV:=k.me,to:=to,id:=k.id }
theorem Mg (I:U W w (az B k::L))(mm:p.sum<4294967296)(hp:∀ w',U W w' (az B k::L)→aW w' adP p.al.length p.al) :
   Calls prog 316 #[pt B.cb,.agg (dN p adP c).toArray,.int .i64 to] w λr w'=>∃ av c',r=.returned (.agg (b7 (av,c',(k.me,to,aS (tJ k to p)))).toArray)∧U W w' (cc (av,c',(k.me,to,aS (tJ k to p)))::az B k::L):=by
 refine EN func316 ntmps316 rfl rfl λa E=>?_;refine BX 1 E I λb4 a w E I=>?_;simp only[dN]at I;refine AL 0 E I λcI a w E I=>?_;refine aX 1 (λw0 w'=>sj w' B k) [10,12,13,14] [0,1,2,3,5,6,7,8,9,3004,11,3010,1012,1013,1014,15,1016] E I λa w E I hH=>?_;have hC:=hH.at w (az.rd (I.pick (az B k)));refine RH 9 E I hH hC λa E=>?_;refine QH E (λw hc=>ae E (hc.cf 1 _ rfl)) hC λa E=>?_;refine RH 1 E I hH hC λa E=>?_;refine QH E (λw hc=>ae E (hc.cf 2 _ rfl)) hC λa E=>?_;refine RH 0 E I hH hC λa E=>?_;refine ST 0 E I (λa w E I=>?_);replace hC:=hH.at w (az.rd (I.pick (az B k)));refine RH 1 E I hH hC λa E=>?_;refine ST 0 E I (λa w E I=>?_);replace hC:=hH.at w (az.rd (I.pick (az B k)));refine RH 1 E I hH hC λa E=>?_;refine ST 0 E I (λa w E I=>?_);refine aX 1 (λw0 w'=>Rd w' b4 0 (dN (tJ k to p) adP c)) [3,4,5] [0,2,3001,3003,1004,1005,6,1007] E I λa w E I hH=>?_;have hC:=hH.at w (I.ai (b:=b4));refine RH 2 E I hH hC λa E=>?_;refine QH E (λw hc=>ae E (hc 1 _ rfl)) hC λa E=>?_;refine QH E (λw hc=>ae E (hc 2 _ rfl)) hC λa E=>?_;refine RH 0 E I hH hC λa E=>?_;refine SS E (bT E underlying203 rfl Ty.t203 (hC)) λa E=>?_;refine RH 0 E I hH hC λa E=>?_;refine aY 0 E I (Li (p:=tJ k to p) (ad:=adP) (c:=c) I mm (λw' hw=>hp w' hw.sub)) λad2 c2 a w E I=>?_;replace hC:=hH.at w (I.ai (b:=b4));refine RH 1 E I hH hC λa E=>?_;refine SA 0 E I λa w E I=>?_;refine RT 0 E I ?_;exact⟨ad2,c2,rfl,I.sub (M:=Sl 5 1 ad2 (aS (tJ k to p)).length c2 (bc (aS (tJ k to p)))::az B k::L)⟩
theorem Mh {l:List Nat}(h:0<l.length):l.getD (l.length-1) 0=l.getLastD 0:=by
 rw[getLastD_eq_getLast?,List.getLast?_eq_getElem?,bl]
theorem ZQ (k:Ks)(to:Nat):tJ k to ⟨1,0,0,0,(au k to).has,(k.ls.getD to []).length,k.mr.length,k.mr.getLastD 0,((k.ls.getD k.me []).drop (au k to).has).take 32⟩=dO k to:=rfl
set_option maxHeartbeats 1000000 in
theorem ZR (I:U W w (az B k::L))(hk:WC k)(tK:to<k.n):Calls prog 319 #[pt B.cb,.int .i64 to] w λr w'=>∃ av c',r=.returned (.agg (b7 (av,c',(k.me,to,aS (dO k to)))).toArray)∧U W w' (cc (av,c',(k.me,to,aS (dO k to)))::az B k::L):=by
 have eB:k.me<k.ls.length:=by rw[hk.ls];exact hk.me
 have eM:to<k.ls.length:=by rw[hk.ls];exact tK
 have ZS:to<k.ps.length:=by rw[hk.ps];exact tK
 have iC:=hk.qa tK;have mE:=hk.mq hk.me;have e9:=vf ZS;have hn:=hk.n;have Mi:=hk.mr;obtain⟨A,I⟩:=az.open I;refine EN func319 ntmps319 rfl rfl λa E=>?_;refine AL 1 E I λb4 a w E I=>?_;refine RN 0 E I λa E=>?_;refine cd (M:=λa w=>∃ b5:Nat,Fr a 62 [(0,pt B.cb),(1,.int .i64 to),(4,pt b4),(5,pt b5)]∧U W w (aa b5 203 [.int .i64 1,.int .i64 0,.int .i64 0,.int .i64 0,.int .i64 (au k to).has,.slice none 0 0,.int .i64 (k.ls.getD to []).length,.int .i64 k.mr.length,.int .u32 0]::aa b4 124 [.int .i64 0,.int .i64 0,.slice none 0 0]::aa B.cb 257 (iE k B A)::Sl 259 5 (some ⟨B.bp,B.op,none⟩) k.ps.length A.cP (rows iQ k.ps)::Sl 100 1 A.ck k.mr.length A.cM (c3 k.mr)::Sl 135 1 A.adE k.ev.length A.cE (k.ev.map cA)::Qu B.qb B.aB k.ls::L)) ?_ ?_
 ·
  refine aX 0 (λw0 w'=>Rd w' B.cb 0 (iE k B A)∧Rd w' B.bp (B.op+to*5) (iQ (au k to))) [11,13,14,18,19,21] [0,1,2,4,8,9,10,12,15,16,17,3003,5,6,3007,3011,3018,3019,2013,2014,20,1021,1022] E I λa w E I hH=>?_;have hC:=hH.at w ⟨I.ai (b:=B.cb),jk jV (I.cK B.bp B.op (by omega)) e9⟩;refine RH 11 E I hH hC λa E=>?_;refine QH E (λw hc=>ae E (hc.1 11 _ rfl)) hC λa E=>?_;refine RH 2 E I hH hC λa E=>?_;refine QH E (λw hc=>ae E (hc.2 0 _ rfl)) hC λa E=>?_;refine QH E (λw hc=>ae E (hc.1 10 _ rfl)) hC λa E=>?_;refine QH E (λw hc=>ae E (hc.1 12 _ rfl)) hC λa E=>?_;refine RH 1 E I hH hC λa E=>?_;refine DN [(13,[2014,20,1021,1022]),(21,[1013,1014,20,1022])] (by kernel_rfl) rfl ⟨⟨_,rfl,?_⟩,⟨_,rfl,?_⟩,trivial⟩
  ·
   refine RH 0 E I hH hC λa E=>?_;refine CL 0 E I (tG (I.pick (Qu B.qb B.aB k.ls)) eM) λa w E I=>?_;replace hC:=hH.at w ⟨I.ai (b:=B.cb),jk jV (I.cK B.bp B.op (by omega)) e9⟩;refine RH 0 E I hH hC λa E=>?_;refine DN [(14,[20,1021,1022]),(21,[1014,20,1022])] (by kernel_rfl) rfl ⟨⟨_,rfl,?_⟩,⟨_,rfl,?_⟩,trivial⟩
   ·
    refine RH 0 E I hH hC λa E=>?_;refine CL 0 E I (y4 (I.pick (Qu B.qb B.aB k.ls)) eM) λa w E I=>?_;replace hC:=hH.at w ⟨I.ai (b:=B.cb),jk jV (I.cK B.bp B.op (by omega)) e9⟩;refine RH 1 E I hH hC λa E=>?_;refine e0 E rfl I Ty.t203 rfl λb5 a w E I ho=>?_;clear ho;replace hC:=hH.at w ⟨I.ai (b:=B.cb),jk jV (I.cK B.bp B.op (by omega)) e9⟩;refine RH 0 E I hH hC λa E=>?_;refine SA 0 E I λa w E I=>?_;refine RN 0 E I λa E=>?_;exact⟨_,E.ab [0,1,4,5],I.sub⟩
   refine RH 0 E I hH hC λa E=>?_;refine e0 E rfl I Ty.t203 rfl λb5 a w E I ho=>?_;clear ho;replace hC:=hH.at w ⟨I.ai (b:=B.cb),jk jV (I.cK B.bp B.op (by omega)) e9⟩;refine RH 0 E I hH hC λa E=>?_;refine CL 0 E I (y4 (I.pick (Qu B.qb B.aB k.ls)) eM) λa w E I=>?_;replace hC:=hH.at w ⟨I.ai (b:=B.cb),jk jV (I.cK B.bp B.op (by omega)) e9⟩;refine RH 1 E I hH hC λa E=>?_;refine SA 0 E I λa w E I=>?_;refine RN 0 E I λa E=>?_;exact⟨_,E.ab [0,1,4,5],I.sub⟩
  refine RH 0 E I hH hC λa E=>?_;refine e0 E rfl I Ty.t203 rfl λb5 a w E I ho=>?_;clear ho;replace hC:=hH.at w ⟨I.ai (b:=B.cb),jk jV (I.cK B.bp B.op (by omega)) e9⟩;refine RH 0 E I hH hC λa E=>?_;refine CL 0 E I (tG (I.pick (Qu B.qb B.aB k.ls)) eM) λa w E I=>?_;replace hC:=hH.at w ⟨I.ai (b:=B.cb),jk jV (I.cK B.bp B.op (by omega)) e9⟩;refine RH 0 E I hH hC λa E=>?_;refine CL 0 E I (y4 (I.pick (Qu B.qb B.aB k.ls)) eM) λa w E I=>?_;replace hC:=hH.at w ⟨I.ai (b:=B.cb),jk jV (I.cK B.bp B.op (by omega)) e9⟩;refine RH 1 E I hH hC λa E=>?_;refine SA 0 E I λa w E I=>?_;refine RN 0 E I λa E=>?_;exact⟨_,E.ab [0,1,4,5],I.sub⟩
 clear E;(try clear I);rintro a w ⟨b5,E,I⟩;refine cd (M:=λa w=>∃ (c0:Option Addr) (dS:Nat),Fr a 62 [(0,pt B.cb),(1,.int .i64 to),(4,pt b4),(5,pt b5)]∧U W w (aa b5 203 [.int .i64 1,.int .i64 0,.int .i64 0,.int .i64 0,.int .i64 (au k to).has,.slice c0 (((k.ls.getD k.me []).drop (au k to).has).take 32).length dS,.int .i64 (k.ls.getD to []).length,.int .i64 k.mr.length,.int .u32 0]::Sl 5 1 c0 (((k.ls.getD k.me []).drop (au k to).has).take 32).length dS (bc (((k.ls.getD k.me []).drop (au k to).has).take 32))::aa b4 124 [.int .i64 0,.int .i64 0,.slice none 0 0]::aa B.cb 257 (iE k B A)::Sl 259 5 (some ⟨B.bp,B.op,none⟩) k.ps.length A.cP (rows iQ k.ps)::Sl 100 1 A.ck k.mr.length A.cM (c3 k.mr)::Sl 135 1 A.adE k.ev.length A.cE (k.ev.map cA)::Qu B.qb B.aB k.ls::L)) ?_ ?_
 ·
  refine aX 0 (λw0 w'=>Rd w' B.cb 0 (iE k B A)∧Rd w' b5 0 [.int .i64 1,.int .i64 0,.int .i64 0,.int .i64 0,.int .i64 (au k to).has,.slice none 0 0,.int .i64 (k.ls.getD to []).length,.int .i64 k.mr.length,.int .u32 0]) [8,9,11] [0,1,2,4,5,6,7,10,3003,3008,3011,1009,1012,13,1014] E I λa w E I hH=>?_;have hC:=hH.at w ⟨I.ai (b:=B.cb),I.ai (b:=b5)⟩;refine RH 8 E I hH hC λa E=>?_;refine QH E (λw hc=>ae E (hc.1 10 _ rfl)) hC λa E=>?_;refine QH E (λw hc=>ae E (hc.1 1 _ rfl)) hC λa E=>?_;refine QH E (λw hc=>ae E (hc.2 4 _ rfl)) hC λa E=>?_;refine RH 0 E I hH hC λa E=>?_;refine CL 0 E I (tG (I.pick (Qu B.qb B.aB k.ls)) eB) λa w E I=>?_;replace hC:=hH.at w ⟨I.ai (b:=B.cb),I.ai (b:=b5)⟩;refine RH 0 E I hH hC λa E=>?_;refine aY 0 E I (Zr (k:=32) (I.pick (Qu B.qb B.aB k.ls)) eB mE iC.1 (by decide)) λc0 dS a w E I=>?_;refine ST 1 E I (λa w E I=>?_);refine RN 0 E I λa E=>?_;exact⟨c0,dS,E.ab [0,1,4,5],I.sub⟩
 clear E;(try clear I);rintro a w ⟨c0,dS,E,I⟩;refine cd (M:=λa w=>Fr a 62 [(0,pt B.cb),(1,.int .i64 to),(4,pt b4),(5,pt b5)]∧U W w (aa b5 203 [.int .i64 1,.int .i64 0,.int .i64 0,.int .i64 0,.int .i64 (au k to).has,.slice c0 (((k.ls.getD k.me []).drop (au k to).has).take 32).length dS,.int .i64 (k.ls.getD to []).length,.int .i64 k.mr.length,.int .u32 (k.mr.getLastD 0:Nat)]::Sl 5 1 c0 (((k.ls.getD k.me []).drop (au k to).has).take 32).length dS (bc (((k.ls.getD k.me []).drop (au k to).has).take 32))::aa b4 124 [.int .i64 0,.int .i64 0,.slice none 0 0]::az B k::L)) ?_ ?_
 ·
  refine IF 10 E I (λaj a E=>?_) λaj a E=>?_
  ·
   obtain⟨F5,F6,Ga,lY⟩:=(I.pick (Sl 100 1 A.ck k.mr.length A.cM (c3 k.mr))).bU A.ck (by omega);refine RN 4 E I λa E=>?_;rw[Ga]at E;refine RN 2 E I λa E=>?_;rw[show ((k.mr.length:Nat):Int)-1=((k.mr.length-1:Nat):Int) from by omega]at E;refine RN 1 E I λa E=>?_;refine SS E (ae E (lY (k.mr.length-1) _ (BL (by omega)))) λa E=>?_;refine ST 1 E I (λa w E I=>?_);refine RN 0 E I λa E=>?_;rw[Mh (by omega)]at I;exact⟨E.ab [0,1,4,5],(az.fold I B k A).sub⟩
  refine RN 0 E I λa E=>?_;have h0:k.mr.getLastD 0=0:=by rw[g4 (l:=k.mr) (by omega)];rfl
  exact⟨E.ab [0,1,4,5],by rw[h0];exact (az.fold I B k A).sub⟩
 clear E;(try clear I);rintro a w ⟨E,I⟩;refine aY 4 E I (Mg (p:=⟨1,0,0,0,(au k to).has,(k.ls.getD to []).length,k.mr.length,k.mr.getLastD 0,((k.ls.getD k.me []).drop (au k to).has).take 32⟩) (adP:=c0) (c:=dS) (I.pick (az B k)) (by
  show k.mr.getLastD 0<4294967296;rw[getLastD_eq_getLast?];cases hl:k.mr.getLast? with
  | none=>decide
  | some s=>exact hk.sf s (List.mem_of_getLast? hl)) (λw' hw=>(hw.pick (Sl 5 1 c0 (((k.ls.getD k.me []).drop (au k to).has).take 32).length dS (bc (((k.ls.getD k.me []).drop (au k to).has).take 32)))).cv c0 _ rfl rfl)) λad2 c2 a w E I=>?_
 rw[ZQ]at E I;refine SA 0 E I λa w E I=>?_;refine RT 0 E I ?_;exact⟨ad2,c2,rfl,I.sub⟩
def BM (k:Ks)(j:Nat):List Ml:=((bG k).take j).map λi=>(k.me,i,aS (dO k i))
def BN (k:Ks)(j:Nat):List Ml:=((bG k).take j).map λi=>(k.me,i,aS (iB k i))
theorem Mj (k:Ks):(bG k).length≤k.n:=Mf k k.n
theorem ZT (I:U W w (az B k::L))(hk:WC k):Calls prog 298 #[pt B.cb] w λr w'=>∃ ad c,r=.returned (.slice ad (cy k).1.length c)∧U W w' (cg 124 ad (cy k).1.length c (cy k).1::az B (cy k).2::L):=by
 have hn:=hk.n;have dY:=Mj k;refine EN func298 ntmps298 rfl rfl λa E=>?_;refine CL 5 E I (y7 I) λa w E I=>?_;refine IF 0 E I (λaj a E=>?_) λaj a E=>?_
 ·
  refine RT 2 E I ?_;exact⟨none,0,by rw[cy,ak aj];rfl,by rw[cy,ak aj];exact cg.nil I⟩
 have hq:cy k=((bG k).map λi=>(k.me,i,aS (iB k i)),{ k with cl:=true }):=by rw[cy,ag (by rw[aj];decide)]
 obtain⟨A,I⟩:=az.open I;refine ST 4 E I (λa w E I=>?_);refine RN 0 E I λa E=>?_;replace I:=az.mk' (B:=B) (L':=L) (k:={ k with cl:=true }) I A;refine aY 5 E I (F9 I (by exact (hk.o5).1 |> λh=>by rw[hq]at h;exact h)) λmW co a w E I=>?_;refine RN 2 E I λa E=>?_;replace I:=U.bN (U.iY (f:=cc) I) 124 3 none;replace E:Fr a 27 ((14,.int .i64 (0:Nat))::(13,.int .i64 (bG k).length)::(12,.slice mW (bG k).length co)::(3,.slice none 0 0)::(0,pt B.cb)::[]):=E.ab [14,13,12,3,0];refine aQ (λμ a w=>∃ (j:Nat) (xs:List Mx) (ad:Option Addr) (c:Nat),(μ=(bG k).length-j∧j≤(bG k).length∧xs.map (·.2.2)=BN k j∧xs.length=j)∧Fr a 27 [(0,pt B.cb),(3,.slice ad j c),(12,.slice mW (bG k).length co),(13,.int .i64 (bG k).length),(14,.int .i64 j)]∧U W w (Sl 124 3 ad j c (rows b7 xs)::ah cc xs::Sl 3 1 mW (bG k).length co (mV (bG k))::az B { k with cl:=true }::L)) ((bG k).length) (⟨0,[],none,0,⟨rfl,by omega,rfl,rfl⟩,E.ab [0,3,12,13,14],I⟩) ?_;clear E I;rintro μ a w ⟨j,xs,ad,c,⟨rfl,hj,eG,ca⟩,E,I⟩;refine IF 3 E I (λao a E=>?_) λao a E=>?_
 ·
  obtain⟨i,hi⟩:∃ i,(bG k)[j]?=some i:=⟨_,aD (by omega)⟩;obtain⟨k0,oo,rfl,gI⟩:=(I.pick (Sl 3 1 mW (bG k).length co (mV (bG k)))).bU mW (by omega);refine RN 3 E I λa E=>?_;refine SS E (ae E (gI j _ (F7 hi))) λa E=>?_;refine aY 5 E I (Mg (k:={ k with cl:=true }) (to:=i) (p:=⟨2,0,0,0,0,0,0,0,[]⟩) (adP:=none) (c:=0) (I.pick (az B { k with cl:=true })) (by decide) (λw' hw=>aW.nil)) λad2 c2 a w E I=>?_;rw[show tJ { k with cl:=true } i ⟨2,0,0,0,0,0,0,0,[]⟩=iB k i from rfl]at E I;refine RN 0 E I λa E=>?_;refine cr E rfl I underlying108 Ty.t124 rfl rfl rfl rfl (by decide) (by decide) λyD a w E I ho=>?_;clear ho;refine RN 0 E I λa E=>?_;refine cQ E rfl I underlying108 Ty.t124 rfl rfl I.ai rfl (by simp[Value.oneCell']) (by decide) (by decide) (by omega) λMk Mm a w E I=>?_;rw[show rows b7 xs++_=rows b7 (xs++[(ad2,c2,(k.me,i,aS (iB k i)))]) from by rw[kE];rfl]at I;refine RN 3 E I λa E=>?_;have dz:=U.j0 (f:=cc) (x:=(ad2,c2,(k.me,i,aS (iB k i)))) (I.sub (M:=cc (ad2,c2,(k.me,i,aS (iB k i)))::ah cc xs::Sl 124 3 Mk (j+1) Mm (rows b7 (xs++[(ad2,c2,(k.me,i,aS (iB k i)))]))::Sl 3 1 (some ⟨k0,oo,none⟩) (bG k).length co (mV (bG k))::az B { k with cl:=true }::L));exact⟨(bG k).length-(j+1),by omega,j+1,xs++[(ad2,c2,(k.me,i,aS (iB k i)))],Mk,Mm,⟨rfl,by omega,by
   have eT:j<(bG k).length:=by omega
   rw[cW,eG,BN,BN,jw eT,cW,(a2.1 hi).2];rfl,by rw[aI,ca];rfl⟩,E.ab [0,3,12,13,14],dz.sub⟩
 refine RT 3 E I ?_;obtain rfl:j=(bG k).length:=by omega
 rw[BN,k4]at eG;have hs:((bG k).map λi=>(k.me,i,aS (iB k i))).length=(bG k).length:=a8 _;rw[hq];refine⟨ad,c,by rw[hs],?_⟩;rw[hs];exact cg.close (xs:=xs) I.sub eG hs
end
theorem Mn {α:Type}{p:α→Bool}:∀ {l:List α} {j:Nat} {x:α},(∀ y∈l.take j,p y=false)→l[j]?=some x→p x=true→l.find? p=some x
 | [],j,x,_,h,_=>by simp at h
 | y::l,0,x,_,h,hp=>by
  obtain rfl:y=x:=by simpa using h
  rw[List.find?_cons,hp]
 | y::l,j+1,x,E,h,hp=>by
  rw[List.find?_cons,E y (by simp)];exact Mn (j:=j) (λz hz=>E z (by rw[take_succ_cons];exact gP _ hz)) (by simpa using h) hp
theorem Mo {α:Type}{p:α→Bool}{l:List α}(h:∀ y∈l,p y=false):l.find? p=none:=by
 rw[List.find?_eq_none];intro y hy hp;rw[h y hy]at hp;cases hp
section
variable {W w:World}{L L' R:List SP}{n c i e to:Nat}{ad adP:Option Addr}{k:Ks}{A:o7}{B:qd}{x:UInt8}{p:Pk}{bs:List UInt8}
theorem ZU (I:U W w (az B k::L))(hk:WC k)(pD:k.now≤1000000):Calls prog 300 #[pt B.cb] w λr w'=>∃ ad c,r=.returned (.slice ad (bt k).1.length c)∧U W w' (cg 124 ad (bt k).1.length c (bt k).1::az B (bt k).2::L):=by
 have hn:=hk.n;refine EN func300 ntmps300 rfl rfl λa E=>?_;refine CL 5 E I (y7 I) λa w E I=>?_;refine IF 0 E I (λaj a E=>?_) λaj a E=>?_
 ·
  refine RT 2 E I ?_;exact⟨none,0,by rw[bt,ak aj];rfl,by rw[bt,ak aj];exact cg.nil I⟩
 have hq:bt k=(match (bG { k with now:=k.now+1 }).find? (λi=>decide (jE { k with now:=k.now+1 } i)) with
  | some i=>([],{ k with now:=k.now+1,ev:=k.ev++[(2,i,0)],cl:=true })
  | none=>((bG { k with now:=k.now+1 }).map λi=>(k.me,i,aS (dO { k with now:=k.now+1 } i)),{ k with now:=k.now+1 })):=by rw[bt,ag (by rw[aj];decide)];rfl
 obtain⟨A,I⟩:=az.open I;refine RN 6 E I λa E=>?_;rw[show ((k.now:Nat):Int)+1=((k.now+1:Nat):Int) from by omega]at E;refine ST 2 E I (λa w E I=>?_);refine RN 0 E I λa E=>?_;replace I:=az.fold I B { k with now:=k.now+1 } A;have e4:WC { k with now:=k.now+1 }:=hk.BH;have qe:=hk.kT;have Gb:({ k with now:=k.now+1 }:Ks).now≤1000001:=by show k.now+1≤_;omega
 have Gc:({ k with now:=k.now+1 }:Ks).ev.length≤9:=qe;have iw:bt k=(match (bG { k with now:=k.now+1 }).find? (λi=>decide (jE { k with now:=k.now+1 } i)) with
  | some i=>([],{ ({ k with now:=k.now+1 }:Ks) with ev:=({ k with now:=k.now+1 }:Ks).ev++[(2,i,0)],cl:=true })
  | none=>((bG { k with now:=k.now+1 }).map λi=>(({ k with now:=k.now+1 }:Ks).me,i,aS (dO { k with now:=k.now+1 } i)),{ k with now:=k.now+1 })):=hq
 clear hq;have Ge:2≤({ k with now:=k.now+1 }:Ks).n∧({ k with now:=k.now+1 }:Ks).n≤8:=hn;generalize ({ k with now:=k.now+1 }:Ks)=k1 at I e4 iw Gb Gc Ge;have dY:=Mj k1;refine aY 5 E I (F9 I e4) λmW co a w E I=>?_;refine RN 2 E I λa E=>?_;replace E:Fr a 61 ((20,.int .i64 (0:Nat))::(19,.int .i64 (bG k1).length)::(18,.slice mW (bG k1).length co)::(3,.slice none 0 0)::(0,pt B.cb)::[]):=E.ab [20,19,18,3,0];refine aQ (λμ a w=>∃ (j:Nat),(μ=(bG k1).length-j∧j≤(bG k1).length∧∀ y∈(bG k1).take j,decide (jE k1 y)=false)∧Fr a 61 [(0,pt B.cb),(3,.slice none 0 0),(18,.slice mW (bG k1).length co),(19,.int .i64 (bG k1).length),(20,.int .i64 j)]∧U W w (Sl 3 1 mW (bG k1).length co (mV (bG k1))::az B k1::L)) ((bG k1).length) (⟨0,⟨rfl,by omega,λy hy=>by simp at hy⟩,E.ab [0,3,18,19,20],I⟩) ?_;clear E I;rintro μ a w ⟨j,⟨rfl,hj,bR⟩,E,I⟩;refine IF 3 E I (λao a E=>?_) λao a E=>?_
 ·
  have eT:j<(bG k1).length:=by omega
  obtain⟨i,hi⟩:∃ i,(bG k1)[j]?=some i:=⟨_,aD eT⟩;obtain⟨k0,oo,rfl,gI⟩:=I.bU mW (by omega);have cC:=(xc.1 (bH hi)).1;have iC:=e4.qa cC;have aF:i<k1.ps.length:=by rw[e4.ps];exact cC
  have rT:=az.rd (I.tail);obtain⟨cP,eF⟩:=rT.pl;refine RN 3 E I λa E=>?_;refine SS E (ae E (gI j _ (F7 hi))) λa E=>?_;refine RN 2 E I λa E=>?_;have oe:sj w.drew B k1:=az.rd (I.drew.tail);have uJ:w.drew.cell? ⟨B.cb,11,none⟩=some (.slice (some ⟨B.bp,B.op,none⟩) k1.ps.length cP):=eF;refine rE 0 (Old w.drew) [7,9,10,11] [0,1,2,4,5,6,8,3003,1007,1009,1010,1011,12,13] E I λa E=>?_;replace I:=I.drew;have hH:=Hd.gD I;have hC:=Old.refl w.drew;generalize w.drew=w at I hH hC oe uJ ⊢;refine RH 7 E I hH hC λa E=>?_;refine QH E (λw hc=>ae E (hc.cell (oe.now))) hC λa E=>?_;refine RH 0 E I hH hC λa E=>?_;refine SS E (ae E (uJ)) λa E=>?_;refine RH 2 E I hH hC λa E=>?_;refine SS E (ae E (oe.pe i _ (vf aF) 1 _ rfl)) λa E=>?_;refine RH 2 E I hH hC λa E=>?_;refine IF 0 E I (λay a E=>?_) λay a E=>?_
  ·
   have hlt:jE k1 i:=by rw[jE];omega
   rw[Mn bR hi (dh hlt)]at iw;refine CL 4 E I (F4 (e:=(2,i,0)) (I.pick (az B k1)) ⟨by simp,by simp,by show i<8;omega,by simp,.inr rfl⟩ (by omega)) λa w E I=>?_;refine RN 1 E I λa E=>?_;obtain⟨A2,I⟩:=az.open I;refine ST 3 E I (λa w E I=>?_);refine RN 0 E I λa E=>?_;replace I:=az.fold I B { k1 with ev:=k1.ev++[(2,i,0)],cl:=true } A2;refine RT 2 E I ?_;rw[iw];exact⟨none,0,rfl,cg.nil I.sub⟩
  have hlt:¬ jE k1 i:=by rw[jE];omega
  refine RN 2 E I λa E=>?_;exact⟨(bG k1).length-(j+1),by omega,j+1,⟨rfl,by omega,λy hy=>by
   rw[jw eT,eS,iH]at hy;rcases hy with hy | rfl
   ·exact bR y hy
   ·rw[(a2.1 hi).2];exact bo hlt⟩,E.ab [0,3,18,19,20],I⟩
 obtain rfl:j=(bG k1).length:=by omega
 rw[k4]at bR;rw[Mo bR]at iw;clear bR;refine aY 3 E I (F9 (I.tail) e4) λza zb a w E I=>?_;refine RN 2 E I λa E=>?_;replace I:=U.bN (U.iY (f:=cc) I) 124 3 none;replace E:Fr a 61 ((49,.int .i64 (0:Nat))::(48,.int .i64 (bG k1).length)::(47,.slice za (bG k1).length zb)::(3,.slice none 0 0)::(0,pt B.cb)::[]):=E.ab [49,48,47,3,0];refine aQ (λμ a w=>∃ (j:Nat) (xs:List Mx) (ad:Option Addr) (c:Nat),(μ=(bG k1).length-j∧j≤(bG k1).length∧xs.map (·.2.2)=BM k1 j∧xs.length=j)∧Fr a 61 [(0,pt B.cb),(3,.slice ad j c),(47,.slice za (bG k1).length zb),(48,.int .i64 (bG k1).length),(49,.int .i64 j)]∧U W w (Sl 124 3 ad j c (rows b7 xs)::ah cc xs::Sl 3 1 za (bG k1).length zb (mV (bG k1))::az B k1::L)) ((bG k1).length) (⟨0,[],none,0,⟨rfl,by omega,rfl,rfl⟩,E.ab [0,3,47,48,49],I⟩) ?_;clear E I;rintro μ a w ⟨j,xs,ad,c,⟨rfl,hj,eG,ca⟩,E,I⟩;refine IF 3 E I (λbd a E=>?_) λbd a E=>?_
 ·
  obtain⟨i,hi⟩:∃ i,(bG k1)[j]?=some i:=⟨_,aD (by omega)⟩;obtain⟨k0,oo,rfl,gI⟩:=(I.pick (Sl 3 1 za (bG k1).length zb (mV (bG k1)))).bU za (by omega);have cC:=(xc.1 (bH hi)).1;refine RN 3 E I λa E=>?_;refine SS E (ae E (gI j _ (F7 hi))) λa E=>?_;refine aY 4 E I (ZR (to:=i) (I.pick (az B k1)) e4 cC) λad2 c2 a w E I=>?_;refine RN 0 E I λa E=>?_;refine cr E rfl I underlying108 Ty.t124 rfl rfl rfl rfl (by decide) (by decide) λb57 a w E I ho=>?_;clear ho;refine RN 0 E I λa E=>?_;refine cQ E rfl I underlying108 Ty.t124 rfl rfl I.ai rfl (by simp[Value.oneCell']) (by decide) (by decide) (by omega) λMp Mq a w E I=>?_;rw[show rows b7 xs++_=rows b7 (xs++[(ad2,c2,(k1.me,i,aS (dO k1 i)))]) from by rw[kE];rfl]at I;refine RN 3 E I λa E=>?_;have dz:=U.j0 (f:=cc) (x:=(ad2,c2,(k1.me,i,aS (dO k1 i)))) (I.sub (M:=cc (ad2,c2,(k1.me,i,aS (dO k1 i)))::ah cc xs::Sl 124 3 Mp (j+1) Mq (rows b7 (xs++[(ad2,c2,(k1.me,i,aS (dO k1 i)))]))::Sl 3 1 (some ⟨k0,oo,none⟩) (bG k1).length zb (mV (bG k1))::az B k1::L));exact⟨(bG k1).length-(j+1),by omega,j+1,xs++[(ad2,c2,(k1.me,i,aS (dO k1 i)))],Mp,Mq,⟨rfl,by omega,by
   have eT:j<(bG k1).length:=by omega
   rw[cW,eG,BM,BM,jw eT,cW,(a2.1 hi).2];rfl,by rw[aI,ca];rfl⟩,E.ab [0,3,47,48,49],dz.sub⟩
 refine RT 3 E I ?_;obtain rfl:j=(bG k1).length:=by omega
 rw[BM,k4]at eG;have hs:((bG k1).map λi=>(k1.me,i,aS (dO k1 i))).length=(bG k1).length:=a8 _;rw[iw];refine⟨ad,c,by rw[hs],?_⟩;rw[hs];exact cg.close (xs:=xs) I.sub eG hs
theorem WC.peer (h:WC k){q:Pe}(hi:i<k.n)(hq:q.has≤1000∧q.frame≤1000∧q.sum<4294967296)(hh:q.heard≤k.now)(E:q.apart=(au k i).apart):WC { k with ps:=k.ps.set i q } :=
 h.BE (ev:=k.ev) (cl:=k.cl) hq hh h.bx (by rw[FP (by rw[h.ps];exact hi) E];exact h.o4)
theorem WC.line (h:WC k){l:List UInt8}(hl:l.length≤1000):WC { k with ls:=k.ls.set i l } :=
 { h with
  ls:=by show (k.ls.set i l).length=_;rw[bw];exact h.ls
  nE:=λy hy=>by
   rcases mem_set hy with hy | rfl
   ·exact h.nE y hy
   ·exact hl }
theorem Mr {ls:List (List UInt8)}{i j:Nat}{l:List UInt8}(h:i≠j):(ls.set i l).getD j []=ls.getD j []:=by
 rw[bl,getElem?_set_ne h,← bl]
theorem az.Ms (I:U W w L)(B:qd)(k:Ks)(A:o7)(q1 q2:Pe)[kk:fJ L [aa B.cb 257 (iE { k with ps:=k.ps.set i q1 } B A),Sl 259 5 (some ⟨B.bp,B.op,none⟩) (k.ps.set i q1).length A.cP (rows iQ (k.ps.set i q2)),Sl 100 1 A.ck k.mr.length A.cM (c3 k.mr),Sl 135 1 A.adE k.ev.length A.cE (k.ev.map cA),Qu B.qb B.aB k.ls] R]:U W w (az B { k with ps:=k.ps.set i q2 }::R):=by
 have h1:=I.perm kk.perm;rw[show iE { k with ps:=k.ps.set i q1 } B A=iE { k with ps:=k.ps.set i q2 } B A from by simp only[iE,bw],show (k.ps.set i q1).length=(k.ps.set i q2).length from by simp only[bw]]at h1;exact az.close (A:=A) h1
theorem az.ZV (I:U W w L)(B:qd)(k:Ks)(A:o7)(q2:Pe)[kk:fJ L [aa B.cb 257 (iE k B A),Sl 259 5 (some ⟨B.bp,B.op,none⟩) k.ps.length A.cP (rows iQ (k.ps.set i q2)),Sl 100 1 A.ck k.mr.length A.cM (c3 k.mr),Sl 135 1 A.adE k.ev.length A.cE (k.ev.map cA),Qu B.qb B.aB k.ls] R]:U W w (az B { k with ps:=k.ps.set i q2 }::R):=by
 have h1:=I.perm kk.perm;rw[show iE k B A=iE { k with ps:=k.ps.set i q2 } B A from by simp only[iE,bw],show k.ps.length=(k.ps.set i q2).length from by simp only[bw]]at h1;exact az.close (A:=A) h1
theorem BO (h:k.cl=true):dm bs k=(6,k):=by rw[dm,ak h]
theorem Gf (h:k.cl=false)(hd:ea bs=none):dm bs k=(1,k):=by rw[dm,ag (by rw[h];decide),hd]
theorem xf (h:k.cl=false)(hd:ea bs=some p)(hx:p.to≠k.me∨(k.n:Int)≤p.aV∨p.id≠k.id):dm bs k=(1,k):=by
 rw[dm,ag (by rw[h];decide),hd];show (if _ then _ else _)=_;rw[ak hx]
theorem Mt (h:k.cl=false)(hd:ea bs=some p)(hx:¬ (p.to≠k.me∨(k.n:Int)≤p.aV∨p.id≠k.id)):dm bs k=(0,fX k p):=by
 rw[dm,ag (by rw[h];decide),hd];show (if _ then _ else _)=_;rw[ag hx]
set_option maxHeartbeats 2000000 in
theorem ZW (I:U W w (az B k::L))(hk:WC k)(hb:bs.length≤65536)(hc:bs.length≤c)(hp:∀ w',U W w' L→aW w' ad bs.length bs) :
   Calls prog 299 #[pt B.cb,.slice ad bs.length c] w λr w'=>r=.returned (.int .i64 (dm bs k).1)∧U W w' (az B (dm bs k).2::L):=by
 have hn:=hk.n;refine EN func299 ntmps299 rfl rfl λa E=>?_;refine CL 5 E I (y7 I) λa w E I=>?_;refine IF 0 E I (λaj a E=>?_) λaj a E=>?_
 ·
  refine RT 2 E I ?_;exact⟨by rw[BO aj],by rw[BO aj];exact I⟩
 refine j3 2 E I (Y3 I hb hc (λw' hw=>hp w' hw.tail)) ?_;clear E I;rintro e w ⟨p,adP,cP,ok,rfl,hd,I⟩;refine⟨_,rfl,λa E=>?_⟩;refine AL 3 E I λb5 a w E I=>?_;refine SA 0 E I λa w E I=>?_;refine RN 3 E I λa E=>?_;obtain⟨A,I⟩:=az.open (I.pick (az B k));refine bS 0 [9,19,29] [0,1,2,3,5,6,7,8,3004,1009,10,11,12,13,15,16,17,18,3014,1019,20,21,22,23,25,26,27,28,3024,1029,30,31] E I λa w E I hH hC=>?_;refine RH 3 E I hH hC λa E=>?_;refine E.by (s:=17) (λbA E=>?_) (λbA E=>?_)
 ·
  have dr:ok=false:=by cases ok with | false=>rfl | true=>exact absurd rfl bA
  have c9:ea bs=none:=by
   rcases hd with ⟨h,_⟩ | ⟨_,h,_⟩
   ·rw[dr]at h;cases h
   ·exact h
  refine RH 29 E I hH hC λa E=>?_;refine RT 3 E I ?_;rw[Gf aj c9];exact⟨rfl,(az.fold I B k A).sub⟩
 have dr:ok=true:=by cases ok with | true=>rfl | false=>exact absurd bA (by decide)
 have qf:ea bs=some p:=by
  rcases hd with ⟨_,h⟩ | ⟨h,_⟩
  ·exact h
  ·rw[dr]at h;cases h
 obtain⟨tL,gH,_⟩:=Fi qf;have Gg:=tL.1;refine RH 10 E I hH hC λa E=>?_;refine E.by (s:=27) (λil E=>?_) (λil E=>?_)
 ·
  refine RH 19 E I hH hC λa E=>?_;refine RT 3 E I ?_;rw[xf aj qf (.inl il)];exact⟨rfl,(az.fold I B k A).sub⟩
 refine RH 10 E I hH hC λa E=>?_;refine E.by (s:=37) (λp6 E=>?_) (λp6 E=>?_)
 ·
  refine RH 9 E I hH hC λa E=>?_;refine RT 3 E I ?_;rw[xf aj qf (.inr (.inl p6))];exact⟨rfl,(az.fold I B k A).sub⟩
 refine RH 9 E I hH hC λa E=>?_;refine IF 0 E I (λao a E=>?_) λao a E=>?_
 ·
  refine RT 2 E I ?_;rw[xf aj qf (.inr (.inr ao))];exact⟨rfl,(az.fold I B k A).sub⟩
 have bR:¬ (p.to≠k.me∨(k.n:Int)≤p.aV∨p.id≠k.id):=by
  rintro (h | h | h)
  ·exact h il
  ·omega
  ·exact h ao
 rw[Mt aj qf bR];clear hd dr;obtain⟨fr,fw⟩:=sk Gg.1;have hJ:fr<k.n:=by omega
 have ed:fr<k.ls.length:=by rw[hk.ls];exact hJ
 have nG:fr<k.ps.length:=by rw[hk.ps];exact hJ
 have Gh:fr≠k.me:=by have:=tL.2.2.1;omega
 have iC:=hk.qa hJ;have jU:p.aV.toNat=fr:=by omega
 refine bS 1 [5] [0,1,2,4,3003,1005,6,7] E I λa w E I hH hC=>?_;refine RH 6 E I hH hC λa E=>?_;rw[fw]at E;refine RH 2 E I hH hC λa E=>?_;refine RN 8 E I λa E=>?_;refine mB (off:=B.op) (k:=fr*5+1) E rfl I Ty.t3 rfl (by omega) (by rw[jv jV];omega) λa w E I=>?_;rw[qD jV k.ps { au k fr with heard:=k.now } nG (by decide) (by rw[Md nG];rfl)]at I;have b9:=hk.peer (q:={ au k fr with heard:=k.now }) hJ ⟨iC.1,iC.2.2⟩ (bf _) rfl;replace I:=az.ZV (i:=fr) I B k A { au k fr with heard:=k.now };refine IF 5 E I (λay a E=>?_) λay a E=>?_
 ·
  refine RN 4 E I λa E=>?_;rw[fw]at E;refine CL 1 E I (F4 (e:=(1,fr,0)) I ⟨by simp,by simp,by show fr<8;omega,by simp,.inr rfl⟩ (by have:=hk.kT;show k.ev.length≤100;omega)) λa w E I=>?_;refine RN 1 E I λa E=>?_;obtain⟨A2,I⟩:=az.open I;refine ST 3 E I (λa w E I=>?_);refine RN 0 E I λa E=>?_;replace I:=az.fold I B { k with ps:=k.ps.set fr { au k fr with heard:=k.now },ev:=k.ev++[(1,fr,0)],cl:=true } A2;refine RT 2 E I ?_;refine⟨rfl,?_⟩;rw[fX,ak ay,jU];exact I.sub
 refine RN 1 E I λa E=>?_;have g8:eK p.first∧eK p.da∧eK p.frame∧p.al.length≤32:=by
  rcases tL.2.2.2.2 with h | h
  ·exact h.2
  ·exact absurd h.1 ay
 simp only[eK]at g8;obtain⟨fi,xg⟩:=sk g8.1.1;obtain⟨jF,BQ⟩:=sk g8.2.1.1;obtain⟨ko,Gi⟩:=sk g8.2.2.1.1;obtain⟨D,I,hD⟩:=az.F3 I;have Mv:∀ w' L',U W w' (Qu B.qb B.aB k.ls::D::L')→sj w' B { k with ps:=k.ps.set fr { au k fr with heard:=k.now } }:=λw' L' h=>az.rd (hD w' L' _ h);refine aX 0 (λw0 w'=>Rd w' b5 0 (dN p adP cP)∧sj w' B { k with ps:=k.ps.set fr { au k fr with heard:=k.now } }) [5,6,8,10] [0,1,2,4,7,9,3003,3005,3008,3010,1006,1011] E I λa w E I hH=>?_;have hC:=hH.at w ⟨I.ai (b:=b5),Mv _ _ I⟩;refine RH 6 E I hH hC λa E=>?_;refine QH E (λw hc=>ae E (hc.2.cf 10 _ rfl)) hC λa E=>?_;refine QH E (λw hc=>ae E (hc.1 1 _ rfl)) hC λa E=>?_;rw[fw]at E;refine RH 0 E I hH hC λa E=>?_;refine QH E (λw hc=>ae E (hc.1 4 _ rfl)) hC λa E=>?_;rw[xg]at E;refine RH 0 E I hH hC λa E=>?_;refine QH E (λw hc=>ae E (hc.1 5 _ rfl)) hC λa E=>?_;refine RH 0 E I hH hC λa E=>?_;refine CL 0 E I (tG I ed) λa w E I=>?_;replace hC:=hH.at w ⟨I.ai (b:=b5),Mv _ _ I⟩;refine RH 0 E I hH hC λa E=>?_;refine aY 0 E I (Zq (fr:=fi) (bs:=p.al) I ed (hk.mq hJ) (by omega) (λw' hw=>(hw.pick (Sl 5 1 adP p.al.length cP (bc p.al))).cv adP p.al rfl rfl)) λMw er a w E I=>?_;refine RN 0 E I λa E=>?_;replace I:=hD _ _ _ I;have kI:=b9.line (i:=fr) (l:=du (k.ls.getD fr []) fi p.al) (sd (hk.mq hJ)).2;have gW:aG ({ k with ls:=k.ls.set fr (du (k.ls.getD fr []) fi p.al),ps:=k.ps.set fr { au k fr with heard:=k.now } }:Ks)=aG k:=by
  show ((k.ls.set fr _).getD k.me []).length=_;rw[Mr Gh];rfl
 have xh:(k.ps.set fr { au k fr with heard:=k.now })[fr]?=some { au k fr with heard:=k.now }:=getElem?_set_self nG;refine cd (M:=λa w=>∃ hh:Nat,hh=(if (au k fr).has<jF∧jF≤aG k then jF else (au k fr).has)∧Fr a 127 [(0,pt B.cb),(5,pt b5),(7,.pointer (some ⟨B.bp,B.op+fr*5,none⟩))]∧U W w (az B { k with ls:=k.ls.set fr (du (k.ls.getD fr []) fi p.al),ps:=k.ps.set fr { au k fr with heard:=k.now,has:=hh } }::aa b5 203 (dN p adP cP)::L)) ?_ ?_
 ·
  refine aX 1 (λw0 w'=>Rd w' b5 0 (dN p adP cP)∧sj w' B { k with ls:=k.ls.set fr (du (k.ls.getD fr []) fi p.al),ps:=k.ps.set fr { au k fr with heard:=k.now } }) [5,11] [0,2,3,4,3001,1005,6,7,8,10,3009,1011,12,13] E I λa w E I hH=>?_;have hC:=hH.at w ⟨I.ai (b:=b5),az.rd I⟩;refine RH 4 E I hH hC λa E=>?_;refine QH E (λw hc=>ae E (hc.1 6 _ rfl)) hC λa E=>?_;refine RH 0 E I hH hC λa E=>?_;refine SS E (ae E (hC.2.pe fr _ xh 0 (.int .i64 (au k fr).has) rfl)) λa E=>?_;refine RH 2 E I hH hC λa E=>?_;refine E.by (s:=91) (λjS E=>?_) (λjS E=>?_)
  ·
   refine RH 2 E I hH hC λa E=>?_;refine QH E (λw hc=>ae E (hc.1 6 _ rfl)) hC λa E=>?_;refine RH 0 E I hH hC λa E=>?_;refine CL 0 E I (tI I kI) λa w E I=>?_;replace hC:=hH.at w ⟨I.ai (b:=b5),az.rd I⟩;rw[gW]at E;refine RH 2 E I hH hC λa E=>?_;refine IF 0 E I (λbd a E=>?_) λbd a E=>?_
   ·
    obtain⟨A2,I⟩:=az.open I;refine RN 3 E I λa E=>?_;rw[BQ]at E;refine RN 2 E I λa E=>?_;refine mB (off:=B.op) (k:=fr*5+0) E rfl I Ty.t3 rfl (by omega) (by rw[jv jV,bw];omega) λa w E I=>?_;rw[qD jV (k.ps.set fr { au k fr with heard:=k.now }) { au k fr with heard:=k.now,has:=jF } (by rw[bw];exact nG) (by decide) (by rw[oG];rfl),set_set]at I;replace I:=az.Ms (i:=fr) I B { k with ls:=k.ls.set fr (du (k.ls.getD fr []) fi p.al) } A2 { au k fr with heard:=k.now } { au k fr with heard:=k.now,has:=jF };refine RN 0 E I λa E=>?_;exact⟨jF,by rw[ak ⟨by omega,by omega⟩],E.ab [0,5,7],I.sub⟩
   refine RN 0 E I λa E=>?_;exact⟨_,by rw[ag (by omega)],E.ab [0,5,7],I.sub⟩
  refine RH 6 E I hH hC λa E=>?_;refine RN 1 E I λa E=>?_;exact⟨_,by rw[ag (by omega)],E.ab [0,5,7],I.sub⟩
 clear E;(try clear I);rintro a w ⟨hh,zc,E,I⟩;refine cd (M:=λa w=>∃ q:Pe,(q=fW k.now (aG k) p (au k fr)∧WC { k with ls:=k.ls.set fr (du (k.ls.getD fr []) fi p.al),ps:=k.ps.set fr q })∧Fr a 127 [(0,pt B.cb)]∧U W w (az B { k with ls:=k.ls.set fr (du (k.ls.getD fr []) fi p.al),ps:=k.ps.set fr q }::aa b5 203 (dN p adP cP)::L)) ?_ ?_
 ·
  refine bS 1 [9] [0,1001,2,3,4,6,7,8,3005,1009,10,11] E I λa w E I hH hC=>?_;have xi:(k.ps.set fr { au k fr with heard:=k.now,has:=hh })[fr]?=some { au k fr with heard:=k.now,has:=hh }:=getElem?_set_self nG;have rT:sj w B { k with ls:=k.ls.set fr (du (k.ls.getD fr []) fi p.al),ps:=k.ps.set fr { au k fr with heard:=k.now,has:=hh } }:=az.rd I;have Gj:p.da.toNat=jF:=by omega
  have Gk:p.frame.toNat=ko:=by omega
  have hP:fW k.now (aG k) p (au k fr)=(if 0<p.frame∧((au k fr).frame:Int)≤p.frame then { au k fr with heard:=k.now,has:=hh,frame:=ko,sum:=p.sum } else { au k fr with heard:=k.now,has:=hh }):=by
   rw[fW,Gj,Gk,zc]
  have vh:hh≤1000:=by rw[zc];split <;> omega
  refine RH 4 E I hH hC λa E=>?_;refine E.by (s:=106) (λbX E=>?_) (λbX E=>?_)
  ·
   refine RH 5 E I hH hC λa E=>?_;refine bm E (bQ E rfl (s:=106)) (ae E (rT.pe fr _ xi 2 (.int .i64 (au k fr).frame) rfl)) rfl λa E=>?_;refine RH 2 E I hH hC λa E=>?_;refine IF 0 E I (λbF a E=>?_) λbF a E=>?_
   ·
    refine RN 0 E I λa E=>?_;obtain⟨A3,I⟩:=az.open I;refine aX 0 (λw0 w'=>Rd w' b5 0 (dN p adP cP)) [5,8] [0,1,2,4,3003,6,7,3005,1008,9,10,1011] E I λa w E I hH=>?_;have hC:=hH.at w (I.ai (b:=b5));refine RH 4 E I hH hC λa E=>?_;refine QH E (λw hc=>ae E (hc 7 _ rfl)) hC λa E=>?_;rw[Gi]at E;refine RH 2 E I hH hC λa E=>?_;refine QH E (λw hc=>ae E (hc 8 _ rfl)) hC λa E=>?_;refine RH 0 E I hH hC λa E=>?_;refine mB (off:=B.op) (k:=fr*5+2) E rfl I Ty.t3 rfl (by omega) (by rw[jv jV,bw];omega) λa w E I=>?_;replace hC:=hH.at w (I.ai (b:=b5));rw[qD jV (k.ps.set fr { au k fr with heard:=k.now,has:=hh }) { au k fr with heard:=k.now,has:=hh,frame:=ko } (by rw[bw];exact nG) (by decide) (by rw[oG];rfl),set_set]at I;refine RH 2 E I hH hC λa E=>?_;refine mB (off:=B.op) (k:=fr*5+3) E rfl I Ty.t100 rfl (by omega) (by rw[jv jV,bw];omega) λa w E I=>?_;rw[qD jV (k.ps.set fr { au k fr with heard:=k.now,has:=hh,frame:=ko }) { au k fr with heard:=k.now,has:=hh,frame:=ko,sum:=p.sum } (by rw[bw];exact nG) (by decide) (by rw[oG];rfl),set_set]at I;replace I:=az.Ms (i:=fr) I B { k with ls:=k.ls.set fr (du (k.ls.getD fr []) fi p.al) } A3 { au k fr with heard:=k.now,has:=hh } { au k fr with heard:=k.now,has:=hh,frame:=ko,sum:=p.sum };refine RN 0 E I λa E=>?_;exact⟨_,⟨by rw[hP,ak (by omega)],(hk.peer (q:={ au k fr with heard:=k.now,has:=hh,frame:=ko,sum:=p.sum }) hJ ⟨vh,by show ko≤1000;omega,gH⟩ (bf _) rfl).line (sd (hk.mq hJ)).2⟩,E.ab [0],I.sub⟩
   refine RN 0 E I λa E=>?_;exact⟨_,⟨by rw[hP,ag (by omega)],(hk.peer (q:={ au k fr with heard:=k.now,has:=hh }) hJ ⟨vh,iC.2.2⟩ (bf _) rfl).line (sd (hk.mq hJ)).2⟩,E.ab [0],I⟩
  refine RH 8 E I hH hC λa E=>?_;refine RN 1 E I λa E=>?_;exact⟨_,⟨by rw[hP,ag (by omega)],(hk.peer (q:={ au k fr with heard:=k.now,has:=hh }) hJ ⟨vh,iC.2.2⟩ (bf _) rfl).line (sd (hk.mq hJ)).2⟩,E.ab [0],I⟩
 clear E;(try clear I);rintro a w ⟨q,⟨ZX,mS⟩,E,I⟩;refine CL 2 E I (Me I mS) λa w E I=>?_;refine RT 2 E I ?_;refine⟨rfl,?_⟩;have zd:p.first.toNat=fi:=by omega
 rw[fX,ag ay,jU,zd,← ZX];exact I.sub
end
end
section
section
variable {W w:World}{L:List SP}{c cO cP q:Nat}{aq adP:Option Addr}{b:List UInt8}{g:Nat→Int}{p:Pr}{fr:Int}{bad:Bool}
def Jv (q:Nat)(g:Nat→Int)(bad:Bool):SP:=λh=>(dR g∧bad=false)∧aa q 296 (ints .i32 32 g) h
theorem Jv.open (I:U W w (Jv q g bad::L)):(dR g∧bad=false)∧U W w (aa q 296 (ints .i32 32 g)::L):=by
 obtain⟨_,h1,h2⟩:=I.jL (ι:=Unit) (p:=λ_=>dR g∧bad=false) (B:=λ_=>aa q 296 (ints .i32 32 g)) (λh ⟨h1,h2⟩=>⟨(),h1,h2⟩);exact⟨h1,h2⟩
theorem Jv.close (I:U W w (aa q 296 (ints .i32 32 g)::L))(h1:dR g):U W w (Jv q g false::L) :=
 U.shut (M:=[_]) I (λ_ ⟨_,_,_,a,b,x,_⟩=>⟨⟨h1,rfl⟩,a _ _ x⟩)
theorem ZY {c:Nat}(hc:c<32)(I:U W w (Jv q g bad::L)):Calls prog 351 (List.toArray [pt q,.int .i64 c]) w λe w'=>e=.returned (.int .i32 (g c))∧U W w' (Jv q g bad::L):=by
 have hj:=Jv.open I;clear I;obtain⟨⟨h1,rfl⟩,I⟩:=hj;refine EN func351 ntmps351 rfl rfl λa E=>?_;refine RN 8 E I λa E=>?_;refine SS E (ae E (I.bz (fT _ hc))) λa E=>?_;refine RT 1 E I ?_;exact⟨rfl,Jv.close I h1⟩
theorem ZZ {c:Nat}{v:Int}(hc:c<32)(hv:ds v)(I:U W w (Jv q g bad::L)):Calls prog 352 (List.toArray [pt q,.int .i64 c,.int .i32 v]) w λe w' =>
   ∃ (g':Nat→Int) (fv:Bool),e=.returned (.tuple #[])∧((fv=true∧g'=g)∨(fv=false∧bad=false∧g'=cm g c v))∧U W w' (Jv q g' fv::L):=by
 have hj:=Jv.open I;clear I;obtain⟨⟨h1,rfl⟩,I⟩:=hj;refine EN func352 ntmps352 rfl rfl λa E=>?_;refine ST 6 E I (λa w E I=>?_) (hlt:=(by rw[dg];exact hc));rw[ints_set]at I;refine RT 0 E I ?_;exact⟨cm g c v,false,rfl,.inr ⟨rfl,rfl,rfl⟩,Jv.close I (n2 h1 hv)⟩
theorem Z0:yz W 294 ⟨q,0,none⟩ 351 352 (Jv q) where
 oU:=λad w=>by kernel_rfl
 oV:=(by kernel_rfl)
 AV:=λad w=>by kernel_rfl
 wi:=(by kernel_rfl)
 ok:=λw L g bad h=>(Jv.open h).1.1
 get:=λw L g bad c hc h=>ZY hc h
 set:=λw L g bad c v hc hv h=>ZZ hc hv h
theorem My (I:U W w (aA W p aq cO::L))(a6:dk p)(aH:p.title.size≤1000000000)(hg:dR g)(hb:b.length≤1099511627776)(hp:∀ w',U W w' L→aW w' adP b.length b) :
   Calls prog 137 #[.agg (bP p aq cO).toArray,.agg (ints .i32 32 g).toArray,.int .i64 fr,.slice adP b.length cP] w λe w'=>e=.returned (.agg (ints .i32 32 (e8 p fr b g)).toArray)∧U W w' (aA W p aq cO::L):=by
 refine EN func137 ntmps137 rfl rfl λa E=>?_;refine BX 1 E I λb4 a w E I=>?_;change U W w (aa b4 45 (bP p aq cO)::_) at I;refine BX 0 E I λb5 a w E I=>?_;refine AL 0 E I λb8 a w E I=>?_;change U W w (aa b8 183 (ints .i32 32 (λ_=>0))::_) at I;refine RN 2 E I λa E=>?_;refine SK (bm E rfl (IN E Ty.Sd Ty.t296 (cs:=ints .i32 32 g) rfl) rfl ?_);clear E a;intro a E;refine BX 0 E I λGl a w E I=>?_;refine RN 7 E I λa E=>?_;replace I:=Jv.close (I.jX Gl) hg;refine j2 0 E I (Kt (M:=Z0 (q:=Gl)) (L:=aa b8 183 (ints .i32 32 (λ_=>0))::L) (I.sub (M:=Jv Gl g false::aA W p aq cO::aa b8 183 (ints .i32 32 (λ_=>0))::L)) a6 aH hb (λw' hw=>hp w' hw.tail)) λg' fv Mw a w E ⟨oY,I⟩=>?_;refine RN 1 E I λa E=>?_;have hj:=Jv.open I;clear I;obtain⟨⟨hg',rfl⟩,I⟩:=hj;obtain⟨_,rfl⟩:=oY rfl;refine SA 4 E I λa w E I=>?_;refine RT 0 E I ?_;exact⟨rfl,I.sub⟩
theorem Mz {P:List (List UInt8)}{zs:List ec}(I:U W w (aA W p aq cO::L))(a6:dk p)(aH:p.title.size≤1000000000)(hg:dR g)(hP:P.length≤65536∧∀ b∈P,b.length≤1099511627776)(hf:-1099511627776≤fr∧fr≤1099511627776)(hz:zs.map (·.2.2)=P)(hp:∀ w',U W w' L→iK w' adP zs) :
   Calls prog 280 #[.agg (bP p aq cO).toArray,.agg (ints .i32 32 g).toArray,.int .i64 fr,.slice adP P.length cP] w λe w'=>e=.returned (.agg (ints .i32 32 (foldI p fr g P)).toArray)∧U W w' (aA W p aq cO::L):=by
 have iI:zs.length=P.length:=by rw[← hz,a8]
 have tv:=hP.1;refine EN func280 ntmps280 rfl rfl λa E=>?_;refine BX 1 E I λb4 a w E I=>?_;change U W w (aa b4 45 (bP p aq cO)::_) at I;refine BX 0 E I λb5 a w E I=>?_;refine AL 0 E I λb8 a w E I=>?_;change U W w (aa b8 183 (ints .i32 32 (λ_=>0))::_) at I;refine RN 5 E I λa E=>?_;refine aQ (λμ a w=>∃ (i:Nat) (g':Nat→Int),(μ=P.length-i∧i≤P.length∧dR g'∧foldI p fr g P=foldI p (fr+i) g' (P.drop i))∧Fr a 27 [(2,.int .i64 fr),(4,pt b4),(5,pt b5),(8,pt b8),(11,.slice adP P.length cP),(12,.int .i64 P.length),(13,.int .i64 i)]∧U W w (aa b5 183 (ints .i32 32 g')::aa b4 45 (bP p aq cO)::aa b8 183 (ints .i32 32 (λ_=>0))::aA W p aq cO::L)) (P.length) (⟨0,g,⟨by simp,by simp,hg,by simp⟩,E.ab [2,4,5,8,11,12,13],I.sub⟩) ?_;clear E I;rintro μ a w ⟨i,g',⟨rfl,hi,eI,ma⟩,E,I⟩;refine IF 3 E I (λaj a E=>?_) λaj a E=>?_
 ·
  obtain⟨z,kP⟩:∃ z,zs[i]?=some z:=⟨_,aD (by omega)⟩;have qJ:P[i]?=some z.2.2:=by rw[← hz,bn,kP];rfl
  obtain⟨bp,op,rfl,c7⟩:=(hp _ (I.sub (M:=L))).1 (by omega);have Gm:=c7 i (aL z) (by rw[bn,kP];rfl);have qg:=hP.2 _ (bH qJ);have EY:foldI p fr g P=foldI p (fr+(i+1:Nat)) (e8 p (fr+i) z.2.2 g') (P.drop (i+1)):=by
   rw[ma,kF (by omega),foldI];have:P[i]'(by omega)=z.2.2:=by rw[aD (by omega)]at qJ;exact p0 qJ
   rw[this]
   congr 1
   omega
  refine RN 4 E I λa E=>?_;refine SS E (ae E (Gm)) λa E=>?_;rw[aL]at E;refine CL 8 E I (My (I.pick (aA W p aq cO)) a6 aH eI qg (λw' hw=>(hp w' hw.sub).2 z (bH kP))) λa w E I=>?_;refine SA 0 E I λa w E I=>?_;refine RN 2 E I λa E=>?_;exact⟨P.length-(i+1),by omega,i+1,_,⟨rfl,by omega,LY a6 eI,EY⟩,E.ab [2,4,5,8,11,12,13],I.sub⟩
 refine RN 1 E I λa E=>?_;obtain rfl:i=P.length:=by omega
 rw[List.drop_length,foldI]at ma;refine SA 1 E I λa w E I=>?_;refine RT 0 E I ?_;exact⟨by rw[ma],I.sub⟩
end
end
section
theorem q3 (k:IntKind)(m:Nat)(x:Int):List.replicate m (Value.int k x)=ints k m (λ_=>x):=by
 apply ext_getElem (by simp[ints,fn]);intro i h1 h2;simp[ints,fn]
abbrev dp (b:Gs)(adT:Option Addr)(cT:Nat):List Value:=[.int .i64 b.kind,.int .i64 b.order,.slice adT b.table.length cT]
theorem Z1 (l:List UInt8)(k:Nat):bc (l.drop k)=(bc l).drop k:=by rw[bc,bc,map_drop]
section
variable {W w:World}{L:List SP}{n c m cT:Nat}{ad adT:Option Addr}{past:List UInt8}{b:Gs}
theorem ze (I:U W w L):Calls prog 98 #[.agg (dp b adT cT).toArray] w λe w'=>∃ r:Bool,e=.returned (.bool r)∧(r=true↔cY b)∧U W w' L:=by
 refine EN func98 ntmps98 rfl rfl λa E=>?_;refine BX 1 E I λb1 a w E I=>?_;change U W w (aa b1 186 (dp b adT cT)::_) at I;refine IF 8 E I (λaj a E=>?_) λaj a E=>?_
 ·
  refine BY 5 E I (λbX a E=>?_) λbX a E=>?_
  ·
   refine RT 6 E I ?_;exact⟨_,rfl,(by rw[ct,cY];omega),I.sub⟩
  refine RT 6 E I ?_;exact⟨_,rfl,⟨λh=>(by cases h),λh=>by rw[cY]at h;exfalso;omega⟩,I.sub⟩
 refine IF 3 E I (λao a E=>?_) λao a E=>?_
 ·
  refine BY 5 E I (λbX a E=>?_) λbX a E=>?_
  ·
   refine BY 5 E I (λfj a E=>?_) λfj a E=>?_
   ·
    refine RT 6 E I ?_;exact⟨_,rfl,(by rw[ct,cY];omega),I.sub⟩
   refine RT 6 E I ?_;exact⟨_,rfl,⟨λh=>(by cases h),λh=>by rw[cY]at h;exfalso;omega⟩,I.sub⟩
  refine RT 11 E I ?_;exact⟨_,rfl,⟨λh=>(by cases h),λh=>by rw[cY]at h;exfalso;omega⟩,I.sub⟩
 refine IF 3 E I (λay a E=>?_) λay a E=>?_
 ·
  refine BY 5 E I (λbX a E=>?_) λbX a E=>?_
  ·
   refine BY 6 E I (λu1 a E=>?_) λu1 a E=>?_
   ·
    refine RT 6 E I ?_;exact⟨_,rfl,(by rw[ct,cY];omega),I.sub⟩
   refine RT 6 E I ?_;exact⟨_,rfl,⟨λh=>(by cases h),λh=>by rw[cY]at h;exfalso;omega⟩,I.sub⟩
  refine RT 12 E I ?_;exact⟨_,rfl,⟨λh=>(by cases h),λh=>by rw[cY]at h;exfalso;omega⟩,I.sub⟩
 refine RT 2 E I ?_;exact⟨_,rfl,⟨λh=>(by cases h),λh=>by rw[cY]at h;exfalso;omega⟩,I.sub⟩
theorem MA (I:U W w L)(hb:cY b)(eF:past.length≤4000)(j8:past.length≤c)(hp:∀ w',U W w' L→aW w' ad past.length past) :
   Calls prog 324 #[.agg (dp b adT cT).toArray,.slice ad past.length c] w λe w'=>e=.returned (.agg (ints .i64 256 (gK b past)).toArray)∧U W w' L:=by
 simp only[cY]at hb;refine EN func324 ntmps324 rfl rfl λa E=>?_;refine BX 1 E I λb2 a w E I=>?_;change U W w (aa b2 186 (dp b adT cT)::_) at I;refine AL 0 E I λb4 a w E I=>?_;rw[q3]at I;refine AL 1 E I λb5 a w E I=>?_;rw[q3]at I;refine BY 6 E I (λbX a E=>?_) λbX a E=>?_
 ·
  refine SA 9 E I λa w E I=>?_;refine RT 0 E I ?_;exact⟨by rw[gK,ag (by omega)],I.sub⟩
 refine IF 6 E I (λaj a E=>?_) λaj a E=>?_
 ·
  refine SA 2 E I λa w E I=>?_;refine RT 0 E I ?_;exact⟨by rw[gK,ak (by omega),y1 (by omega)],I.sub⟩
 refine RN 1 E I λa E=>?_;have b9:b.kind=2:=by omega
 obtain⟨o,ho⟩:∃ o:Nat,b.order=(o:Int):=⟨b.order.toNat,by omega⟩;rw[dp,ho]at I;have dY:o≤past.length:=by omega
 have lj:gK b past=hE o past past.length:=by rw[gK,ak b9,ho,c6]
 refine RN 6 E I λa E=>?_;rw[show ((past.length:Nat):Int)-(o:Int)=((past.length-o:Nat):Int) from by omega]at E;refine RN 7 E I λa E=>?_;rw[show past.length-(past.length-o)=o from by omega]at E;have Z2:o≤3:=by omega
 refine aQ (λμ a w=>∃ (i:Nat),(μ=past.length-i∧o≤i∧i≤past.length)∧Fr a 52 [(1,.slice ad past.length c),(2,pt b2),(4,pt b4),(5,pt b5),(6,.slice (ft ad (past.length-o) c 1) o (c-(past.length-o))),(7,.int .i64 i)]∧U W w (aa b5 320 (ints .i64 256 (hE o past i))::aa b4 320 (ints .i64 256 (λ_=>0))::aa b2 186 [.int .i64 b.kind,.int .i64 o,.slice adT b.table.length cT]::L)) (past.length-o) (⟨o,⟨rfl,bf _,dY⟩,E.ab [1,2,4,5,6,7],by rw[y1 (bf _)];exact I.sub⟩) ?_;clear E I;rintro μ a w ⟨i,⟨rfl,Gn,hi⟩,E,I⟩;refine IF 6 E I (λao a E=>?_) λao a E=>?_
 ·
  have aF:i<past.length:=by omega
  have nT:=BB o past i past[i].toNat;have qV:=lk past[i];refine RN 7 E I λa E=>?_;rw[show ((i:Nat):Int)-(o:Int)=((i-o:Nat):Int) from by omega]at E;refine RN 2 E I λa E=>?_;rw[show i-(i-o)=o from by omega]at E;refine CL 1 E I (Ls I ((hp _ I.tail.tail.tail).y2 (lo:=i-o) (n:=o) (by omega) j8) (by have:=(hp _ I.tail.tail.tail).y2 (lo:=past.length-o) (n:=o) (by omega) j8;exact this)) λa w E I=>?_;refine IF 0 E I (λay a E=>?_) λay a E=>?_
  ·
   obtain⟨bb,oo,rfl,hr⟩:=(hp _ I.tail.tail.tail).get (by omega);refine RN 3 E I λa E=>?_;refine SS E (ae E (hr i _ (dT aF))) λa E=>?_;refine RN 1 E I λa E=>?_;refine SS E (ae E (I.bz (fT _ qV))) λa E=>?_;refine ST 2 E I (λa w E I=>?_) (hlt:=(by rw[dg];omega));rw[ints_set]at I;refine RN 3 E I λa E=>?_;exact⟨past.length-(i+1),by omega,i+1,⟨rfl,by omega,by omega⟩,E.ab [1,2,4,5,6,7],by
    rw[show hE o past (i+1)=λj=>if j=past[i].toNat then hE o past i past[i].toNat+1 else hE o past i j from by
     rw[hE,ak ⟨Gn,by rw[y0,← ay,gg (l:=past.drop (past.length-o)) (by rw[c5];omega)]⟩,bl,aD aF];rfl]
    exact I.sub⟩
  refine RN 3 E I λa E=>?_;exact⟨past.length-(i+1),by omega,i+1,⟨rfl,by omega,by omega⟩,E.ab [1,2,4,5,6,7],by
   rw[show hE o past (i+1)=hE o past i from by
    rw[hE,ag (λh=>by
     have h2:=h.2;rw[y0,← gg (l:=past.drop (past.length-o)) (i:=o) (by rw[c5];omega)]at h2;rw[h2]at ay;cases ay)]]
   exact I.sub⟩
 obtain rfl:i=past.length:=by omega
 refine SA 2 E I λa w E I=>?_;refine RT 0 E I ?_;exact⟨by rw[lj],I.sub⟩
theorem MB (I:U W w L)(eF:past.length≤4000)(hp:∀ w',U W w' L→aW w' ad past.length past) :
   Calls prog 326 #[.slice ad past.length c] w λe w'=>e=.returned (.int .u8 ((iz past).toNat:Nat))∧U W w' L:=by
 refine EN func326 ntmps326 rfl rfl λa E=>?_;refine IF 7 E I (λaj a E=>?_) λaj a E=>?_
 ·
  refine RT 2 E I ?_;exact⟨by rw[iz,g4 (l:=past) (by omega)];rfl,I⟩
 refine RN 1 E I λa E=>?_;obtain⟨bb,oo,rfl,hr⟩:=(hp _ I).get (by omega);refine RN 4 E I λa E=>?_;rw[show ((past.length:Nat):Int)-1=((past.length-1:Nat):Int) from by omega]at E;refine RN 1 E I λa E=>?_;refine SS E (ae E (hr (past.length-1) _ (dT (by omega)))) λa E=>?_;refine RT 1 E I ?_;refine⟨?_,I⟩;have h0:past≠[]:=λh=>by rw[h]at aj;simp at aj
 rw[iz,getLastD_eq_getLast?,List.getLast?_eq_getElem?,aD (by omega)];rfl
theorem MC (I:U W w L)(hb:cY b)(eF:past.length≤4000)(j8:past.length≤c)(hp:∀ w',U W w' L→aW w' ad past.length past)(ht:∀ w',U W w' L→aW w' adT b.table.length b.table) :
   Calls prog 325 #[.agg (dp b adT cT).toArray,.slice ad past.length c] w λe w'=>e=.returned (.int .u8 ((nD b past).toNat:Nat))∧U W w' L:=by
 have lJ:=hb;simp only[cY]at lJ;refine EN func325 ntmps325 rfl rfl λa E=>?_;refine BX 1 E I λb2 a w E I=>?_;change U W w (aa b2 186 (dp b adT cT)::_) at I;refine IF 6 E I (λaj a E=>?_) λaj a E=>?_
 ·
  refine bS 1 [5,6,7] [0,2,3,4,3001,1005,1006,1007,8,1009,10] E I λa w E I hH hC=>?_;obtain⟨Z3,Z4,rfl,pU⟩:=(ht _ I.tail).get (by omega);have Gp:past.length%b.table.length<b.table.length:=Nat.mod_lt _ (by omega);refine RH 8 E I hH hC λa E=>?_;rw[oD]at E;refine RH 1 E I hH hC λa E=>?_;refine SS E (ae E (pU (past.length%b.table.length) _ (ln Gp))) λa E=>?_;refine RH 1 E I hH hC λa E=>?_;refine RT 0 E I ?_;exact⟨by rw[nD,ak (by omega)],I.sub⟩
 refine CL 3 E I (MA I hb eF j8 (λw' hw=>hp w' hw.tail)) λa w E I=>?_;refine AL 0 E I λb5 a w E I=>?_;rw[q3]at I;refine SA 0 E I λa w E I=>?_;refine CL 2 E I (MB I eF (λw' hw=>hp w' hw.tail.tail)) λa w E I=>?_;refine RN 5 E I λa E=>?_;have Gq:=lk (iz past);refine aQ (λμ a w=>∃ (i:Nat),(μ=256-i∧i≤256)∧Fr a 41 [(2,pt b2),(5,pt b5),(6,.int .u8 (mo (gK b past) (iz past).toNat i:Nat)),(27,.agg (ints .i64 256 (gK b past)).toArray),(28,.int .i64 i)]∧U W w (aa b5 320 (ints .i64 256 (gK b past))::aa b2 186 (dp b adT cT)::L)) (256) (⟨0,⟨rfl,by omega⟩,E.ab [2,5,6,27,28],I.sub⟩) ?_;clear E I;rintro μ a w ⟨i,⟨rfl,hi⟩,E,I⟩;refine IF 3 E I (λao a E=>?_) λao a E=>?_
 ·
  have oM:=FM (w:=gK b past) Gq (i:=i) hi;have BR:i<256:=by omega
  refine RN 3 E I λa E=>?_;refine SS E (sR E underlying320 underlying3 rfl Ty.t3 (by omega) (fT _ BR)) λa E=>?_;refine RN 6 E I λa E=>?_;refine SS E (ae E (I.bz (fT _ oM))) λa E=>?_;refine IF 1 E I (λay a E=>?_) λay a E=>?_
  ·
   refine SX 1 E I (by rw[wrap_u8];omega) λa E=>?_;refine RN 3 E I λa E=>?_;exact⟨256-(i+1),by omega,i+1,⟨rfl,by omega⟩,by rw[show mo (gK b past) (iz past).toNat (i+1)=i from by rw[mo,ak (by omega)]];exact E.ab [2,5,6,27,28],I.sub⟩
  refine RN 2 E I λa E=>?_;exact⟨256-(i+1),by omega,i+1,⟨rfl,by omega⟩,by rw[show mo (gK b past) (iz past).toNat (i+1)=mo (gK b past) (iz past).toNat i from by rw[mo,ag (by omega)]];exact E.ab [2,5,6,27,28],I.sub⟩
 obtain rfl:i=256:=by omega
 have oM:=FM (w:=gK b past) Gq (i:=256) (by omega);refine RT 3 E I ?_;exact⟨by rw[nD,ag (by omega),UInt8.toNat_ofNat',kY (by omega)],I.sub⟩
theorem Z5 (I:U W w L)(eF:past.length≤4000)(hp:∀ w',U W w' L→aW w' ad past.length past) :
   Calls prog 329 #[.slice ad past.length c] w λe w'=>∃ av c',e=.returned (.slice av past.length c')∧U W w' (Sl 5 1 av past.length c' (bc past)::L):=by
 obtain⟨h1,h2,h3⟩:=hp _ I;cases pS:ad with
 | none =>
  have h0:=h2 pS;rw[g4 (l:=past) h0];refine EN func329 ntmps329 rfl rfl λa E=>?_;refine RN 6 E I λa E=>?_;replace E:=E.ei 4;refine RT 3 E I ?_;exact⟨_,_,rfl,I.bN _ _ _⟩
 | some a =>
  rw[← pS];refine EN func329 ntmps329 rfl rfl λa E=>?_;refine RN 6 E I λa E=>?_;rw[show ad.isNone=false from by rw[pS];rfl]at E;replace E:=E.aM 4;refine RN 2 E I λa E=>?_;refine ux E rfl I underlying22 Ty.t5 rfl λb5 a w E I ho=>?_;clear ho;replace I:U W w (Sl 5 1 (some ⟨b5,0,none⟩) 0 0 []::L):=I.tail.bN _ _ _;refine RN 1 E I λa E=>?_;refine g9 E rfl I underlying22 Ty.t5 rfl rfl (by decide) (λh0=>(hp _ I.tail).get h0) (by rw[dy];omega) (ep _) (by omega) λsZ rH a w E I=>?_;rw[nil_append,eE]at I;rw[eE]at E;refine RT 1 E I ?_;exact⟨_,_,rfl,I⟩
theorem Z6 {to:Int}(I:U W w L)(hb:cY b)(eF:past.length≤1001)(j8:past.length≤c)(hn:m≤1000)(hp:∀ w',U W w' L→aW w' ad past.length past)(ht:∀ w',U W w' L→aW w' adT b.table.length b.table) :
   Calls prog 311 #[.agg (dp b adT cT).toArray,.slice ad past.length c,.int .i64 m] w λe w'=>∃ av c',e=.returned (.slice av m c')∧U W w' (Sl 5 1 av m c' (bc (kj b past m))::L):=by
 refine EN func311 ntmps311 rfl rfl λa E=>?_;refine BX 1 E I λb3 a w E I=>?_;change U W w (aa b3 186 (dp b adT cT)::_) at I;refine bj 4 E I (ze I) λr a w E ⟨hr,I⟩=>?_;rw[hr.2 hb]at E;refine RN 1 E I λa E=>?_;replace E:=E.aM 10;refine aY 3 E I (Z5 I (by omega) (λw' hw=>hp w' hw.tail)) λlT eu a w E I=>?_;refine RN 6 E I λa E=>?_;rw[show min (max (m:Int) 0) 1000=(m:Int) from by omega]at E;refine RN 1 E I λa E=>?_;refine aQ (λμ a w=>∃ (i:Nat) (ad2:Option Addr) (c2:Nat),(μ=m-i∧i≤m)∧Fr a 29 [(1,.slice ad past.length c),(3,pt b3),(7,.slice ad2 (ej b past i).length c2),(15,.int .i64 m),(16,.int .i64 i)]∧U W w (Sl 5 1 ad2 (ej b past i).length c2 (bc (ej b past i))::aa b3 186 (dp b adT cT)::L)) (m) (⟨0,lT,eu,⟨rfl,by omega⟩,E.ab [1,3,7,15,16],I⟩) ?_;clear E I;rintro μ a w ⟨i,ad2,c2,⟨rfl,hi⟩,E,I⟩;refine IF 3 E I (λao a E=>?_) λao a E=>?_
 ·
  have cp:=iA b past i;have Gr:=(I.sl ad2).2;refine CL 4 E I (MC I hb (by omega) Gr (λw' hw=>hw.cv ad2 (ej b past i) rfl rfl) (λw' hw=>ht w' hw.tail.tail)) λa w E I=>?_;refine RN 0 E I λa E=>?_;refine cr E rfl I underlying22 Ty.t5 rfl rfl rfl rfl (by decide) (by decide) λuW a w E I ho=>?_;clear ho;refine RN 0 E I λa E=>?_;refine cQ E rfl I underlying22 Ty.t5 rfl rfl I.ai rfl (ep [nD b (ej b past i)]) (by decide) (by decide) (by omega) λgw gx a w E I=>?_;rw[show bc (ej b past i)++_=bc (ej b past (i+1)) from (fM _ [_]).symm,show (ej b past i).length+1=(ej b past (i+1)).length from by rw[iA,iA];omega]at I;rw[show (ej b past i).length+1=(ej b past (i+1)).length from by rw[iA,iA];omega]at E;refine RN 3 E I λa E=>?_;exact⟨m-(i+1),by omega,i+1,gw,gx,⟨rfl,by omega⟩,E.ab [1,3,7,15,16],I.sub⟩
 obtain rfl:i=m:=by omega
 have cp:=iA b past i;refine RT 6 E I ?_;have h1:=I.Dd ad2 past.length (ej b past i).length (by omega) (bf _);rw[show (ej b past i).length-past.length=i from by omega,fU,fU,← Z1,gg (by rw[dy,c5];omega),show List.drop past.length (ej b past i)=kj b past i from rfl]at h1;refine⟨_,_,by rw[show (ej b past i).length-past.length=i from by omega],h1.sub⟩
end
end
end Go.Proofs.YteoldcfapaiobaaGreat
