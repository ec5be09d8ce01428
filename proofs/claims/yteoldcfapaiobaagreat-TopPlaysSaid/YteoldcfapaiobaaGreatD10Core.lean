/- What a player knows, in memory: core.May, New, Conf, Queue, Head, Closed, Press, note, hold, Mark, Marks, Events. -/
import Derived.Test.YteoldcfapaiobaaGreatD08Pkt3
import Derived.Test.YteoldcfapaiobaaGreatD09CoQ
import Derived.Test.YteoldcfapaiobaaGreatD05Vm
import Derived.Test.YteoldcfapaiobaaGreatD06Ref
import Derived.ChangeSame
import Derived.Test.YteoldcfapaiobaaGreatD01Row
namespace Go.Proofs.YteoldcfapaiobaaGreat
open Tryz
open List (length_range take_succ_cons nil_append ext_getElem getElem_set_self take_length set_set map_drop mem_singleton range_succ getElem?_set_ne getElem?_set_self length_filter_le replicate_succ' getLastD_eq_getLast?)
open Go.RowKit
set_option linter.unusedVariables false
set_option linter.unusedSimpArgs false
set_option maxRecDepth 10000
set_option synthInstance.maxSize 4000
set_option synthInstance.maxHeartbeats 400000
section
abbrev iD (p:Pe):List Value:=[.int .i64 p.has,.int .i64 p.heard,.int .i64 p.frame,.int .u32 p.sum,.bool p.apart]
theorem jF (p:Pe):(iD p).length=5:=rfl
theorem YL (p:Pe):∀ v∈iD p,v.oneCell'=true:=by
 intro v hv;simp[iD]at hv;rcases hv with rfl | rfl | rfl | rfl | rfl <;> rfl
def c0 (l:List Nat):List Value:=l.map λs:Nat=>Value.int .u32 (s:Int)
structure pE where
 cb:Nat
 qb:Nat
 aB:List Nat
 bp:Nat
 op:Nat
structure oz where
 cP:Nat
 cd:Option Addr
 cM:Nat
 adE:Option Addr
 cE:Nat
abbrev iv (k:Ks)(B:pE)(A:oz):List Value:=[.int .i64 k.n,.int .i64 k.me,.int .i64 k.id,.int .i64 k.aJ,.int .i64 k.br,.int .i64 k.bf,.int .i64 k.order,.int .i64 k.ct,.int .i64 k.workers,.int .i64 k.room,
 pt B.qb,.slice (some ⟨B.bp,B.op,none⟩) k.ps.length A.cP,.slice A.cd k.mr.length A.cM,.slice A.adE k.ev.length A.cE,.int .i64 k.now,.bool k.cl]
def az (B:pE)(k:Ks):SP:=λh=>∃ A:oz,cj [aa B.cb 257 (iv k B A),Sl 259 5 (some ⟨B.bp,B.op,none⟩) k.ps.length A.cP (rows iD k.ps),Sl 100 1 A.cd k.mr.length A.cM (c0 k.mr),Sl 135 1 A.adE k.ev.length A.cE (k.ev.map cA),Qu B.qb B.aB k.ls] h
section
variable {W w:World}{L L' R:List SP}{n c cb qb i:Nat}{ad:Option Addr}{aB:List Nat}{k:Ks}{A:oz}{B:pE}{cf:Cf}{e:j5}
theorem az.open (I:U W w (az B k::L)):∃ A:oz,U W w (aa B.cb 257 (iv k B A)::Sl 259 5 (some ⟨B.bp,B.op,none⟩) k.ps.length A.cP (rows iD k.ps)::Sl 100 1 A.cd k.mr.length A.cM (c0 k.mr)::Sl 135 1 A.adE k.ev.length A.cE (k.ev.map cA)::Qu B.qb B.aB k.ls::L):=by
 obtain⟨A,_,I⟩:=I.jv (ι:=oz) (p:=λ_=>True) (B:=λA h=>cj [aa B.cb 257 (iv k B A),Sl 259 5 (some ⟨B.bp,B.op,none⟩) k.ps.length A.cP (rows iD k.ps),Sl 100 1 A.cd k.mr.length A.cM (c0 k.mr),Sl 135 1 A.adE k.ev.length A.cE (k.ev.map cA),Qu B.qb B.aB k.ls] h) λ_ ⟨A,h⟩=>⟨A,trivial,h⟩;exact⟨A,I.open (M:=[_,_,_,_,_]) λ_ h=>h⟩
theorem az.close (I:U W w (aa B.cb 257 (iv k B A)::Sl 259 5 (some ⟨B.bp,B.op,none⟩) k.ps.length A.cP (rows iD k.ps)::Sl 100 1 A.cd k.mr.length A.cM (c0 k.mr)::Sl 135 1 A.adE k.ev.length A.cE (k.ev.map cA)::Qu B.qb B.aB k.ls::L)):U W w (az B k::L) :=
 U.shut (M:=[_,_,_,_,_]) I λ_ h=>⟨A,h⟩
theorem az.mk' (I:U W w L)(A:oz)[kk:fC L (aa B.cb 257 (iv k B A)::Sl 259 5 (some ⟨B.bp,B.op,none⟩) k.ps.length A.cP (rows iD k.ps)::Sl 100 1 A.cd k.mr.length A.cM (c0 k.mr)::Sl 135 1 A.adE k.ev.length A.cE (k.ev.map cA)::Qu B.qb B.aB k.ls::L') R]:U W w (az B k::L'):=az.close (A:=A) I.sub
theorem az.fold (I:U W w L)(B:pE)(k:Ks)(A:oz)[kk:fC L [aa B.cb 257 (iv k B A),Sl 259 5 (some ⟨B.bp,B.op,none⟩) k.ps.length A.cP (rows iD k.ps),Sl 100 1 A.cd k.mr.length A.cM (c0 k.mr),Sl 135 1 A.adE k.ev.length A.cE (k.ev.map cA),Qu B.qb B.aB k.ls] R]:U W w (az B k::R):=az.close (A:=A) (I.perm kk.perm)
theorem oA {x lo hi:Int}(I:U W w L):Calls prog 167 #[.int .i64 x,.int .i64 lo,.int .i64 hi] w λe w'=>∃ r:Bool,e=.returned (.bool r)∧(r=true↔fv x lo hi)∧U W w' L:=by
 refine EN func167 ntmps167 rfl rfl λa E=>?_;refine BY 7 E I (λbW a E=>?_) λbW a E=>?_
 ·
  refine RT 5 E I ?_;exact⟨_,rfl,⟨λh=>⟨bW,of_decide_eq_true h⟩,λh=>dh h.2⟩,I⟩
 refine RT 5 E I ?_;exact⟨_,rfl,⟨λh=>(by cases h),λh=>by have:=h.1;omega⟩,I⟩
theorem K3 (I:U W w L):Calls prog 130 #[.agg (bS cf).toArray] w λe w'=>∃ r:Bool,e=.returned (.bool r)∧(r=true↔eQ cf)∧U W w' L:=by
 refine EN func130 ntmps130 rfl rfl λa E=>?_;refine BX 1 E I λb1 a w E I=>?_;change U W w (aa b1 28 (bS cf)::_) at I;refine RN 1 E I λa E=>?_;refine b7 (M:=λa w=>∃ z:Bool,(z=true↔(fv cf.n 2 8∧fv cf.me 0 (cf.n-1)∧fv cf.id 0 1099511627776))∧Fr a 73 [(1,pt b1),(3,.bool z)]∧U W w (aa b1 28 (bS cf)::L)) ?_ ?_
 ·
  refine bh 2 E I (oA I) λr1 a w E ⟨e8,I⟩=>?_;refine BY 1 E I (λbW a E=>?_) λbW a E=>?_
  ·
   refine RN 4 E I λa E=>?_;refine SK (bt E (cm E rfl (s:=8)) (za E) rfl ?_);clear E a;intro a E;have m2:IntKind.i64.wrap (cf.n-1)=cf.n-1:=fY (by have:=(e8.1 bW).1;omega) (by have:=(e8.1 bW).2;omega);rw[m2]at E;refine bh 0 E I (oA I) λr2 a w E ⟨eW,I⟩=>?_;refine BY 2 E I (λkO a E=>?_) λkO a E=>?_
   ·
    refine BY 5 E I (λue a E=>?_) λue a E=>?_
    ·
     refine RN 5 E I λa E=>?_;exact⟨_,⟨λh=>⟨e8.1 bW,eW.1 kO,ue,of_decide_eq_true h⟩,λh=>dh h.2.2.2⟩,E.ab [1,3],I⟩
    refine RN 5 E I λa E=>?_;exact⟨_,⟨λh=>(by cases h),λh=>by have:=h.2.2.1;omega⟩,E.ab [1,3],I⟩
   refine RN 10 E I λa E=>?_;exact⟨_,⟨λh=>(by cases h),λh=>by have:=eW.2 h.2.1;rw[kO]at this;cases this⟩,E.ab [1,3],I⟩
  refine RN 18 E I λa E=>?_;exact⟨_,⟨λh=>(by cases h),λh=>by have:=e8.2 h.1;rw[bW]at this;cases this⟩,E.ab [1,3],I⟩
 clear E;(try clear I);rintro a w ⟨z1,cU,E,I⟩;refine b7 (M:=λa w=>∃ z:Bool,(z=true↔(fv cf.aJ 0 8∧fv cf.br 1 16∧fv cf.bf 1 3∧fv cf.order 0 3))∧Fr a 73 [(1,pt b1),(3,.bool z1),(4,.bool z)]∧U W w (aa b1 28 (bS cf)::L)) ?_ ?_
 ·
  refine bh 2 E I (oA I) λr1 a w E ⟨e8,I⟩=>?_;refine BY 1 E I (λbW a E=>?_) λbW a E=>?_
  ·
   refine bh 2 E I (oA I) λr2 a w E ⟨eW,I⟩=>?_;refine BY 2 E I (λfa a E=>?_) λfa a E=>?_
   ·
    refine bh 2 E I (oA I) λr3 a w E ⟨j0,I⟩=>?_;refine BY 2 E I (λm1 a E=>?_) λm1 a E=>?_
    ·
     refine bh 2 E I (oA I) λWG a w E ⟨qj,I⟩=>?_;refine RN 2 E I λa E=>?_;exact⟨_,⟨λh=>⟨e8.1 bW,eW.1 fa,j0.1 m1,qj.1 h⟩,λh=>qj.2 h.2.2.2⟩,E.ab [1,3,4],I⟩
    refine RN 5 E I λa E=>?_;exact⟨_,⟨λh=>(by cases h),λh=>by have:=j0.2 h.2.2.1;rw[m1]at this;cases this⟩,E.ab [1,3,4],I⟩
   refine RN 10 E I λa E=>?_;exact⟨_,⟨λh=>(by cases h),λh=>by have:=eW.2 h.2.1;rw[fa]at this;cases this⟩,E.ab [1,3,4],I⟩
  refine RN 15 E I λa E=>?_;exact⟨_,⟨λh=>(by cases h),λh=>by have:=e8.2 h.1;rw[bW]at this;cases this⟩,E.ab [1,3,4],I⟩
 clear E;(try clear I);rintro a w ⟨z2,eK,E,I⟩;refine BY 3 E I (λmT a E=>?_) λmT a E=>?_
 ·
  refine BY 3 E I (λdA a E=>?_) λdA a E=>?_
  ·
   refine BY 4 E I (λfa a E=>?_) λfa a E=>?_
   ·
    have E8:cf.order=0∨cf.bf=2:=.inl fa;refine bh 8 E I (oA I) λr1 a w E ⟨e8,I⟩=>?_;refine BY 2 E I (λpA a E=>?_) λpA a E=>?_
    ·
     refine bh 2 E I (oA I) λr2 a w E ⟨eW,I⟩=>?_;refine BY 2 E I (λuB a E=>?_) λuB a E=>?_
     ·
      refine bh 2 E I (oA I) λr3 a w E ⟨j0,I⟩=>?_;refine RT 2 E I ?_;exact⟨_,rfl,⟨λh=>⟨cU.1 mT,eK.1 dA,E8,e8.1 pA,eW.1 uB,j0.1 h⟩,λh=>j0.2 h.2.2.2.2.2⟩,I.sub⟩
     refine RT 5 E I ?_;exact⟨_,rfl,⟨λh=>(by cases h),λh=>by have:=eW.2 h.2.2.2.2.1;rw[uB]at this;cases this⟩,I.sub⟩
    refine RT 10 E I ?_;exact⟨_,rfl,⟨λh=>(by cases h),λh=>by have:=e8.2 h.2.2.2.1;rw[pA]at this;cases this⟩,I.sub⟩
   refine BY 6 E I (λkN a E=>?_) λkN a E=>?_
   ·
    have E8:cf.order=0∨cf.bf=2:=.inr kN;refine bh 2 E I (oA I) λr1 a w E ⟨e8,I⟩=>?_;refine BY 2 E I (λpA a E=>?_) λpA a E=>?_
    ·
     refine bh 2 E I (oA I) λr2 a w E ⟨eW,I⟩=>?_;refine BY 2 E I (λuB a E=>?_) λuB a E=>?_
     ·
      refine bh 2 E I (oA I) λr3 a w E ⟨j0,I⟩=>?_;refine RT 2 E I ?_;exact⟨_,rfl,⟨λh=>⟨cU.1 mT,eK.1 dA,E8,e8.1 pA,eW.1 uB,j0.1 h⟩,λh=>j0.2 h.2.2.2.2.2⟩,I.sub⟩
     refine RT 5 E I ?_;exact⟨_,rfl,⟨λh=>(by cases h),λh=>by have:=eW.2 h.2.2.2.2.1;rw[uB]at this;cases this⟩,I.sub⟩
    refine RT 10 E I ?_;exact⟨_,rfl,⟨λh=>(by cases h),λh=>by have:=e8.2 h.2.2.2.1;rw[pA]at this;cases this⟩,I.sub⟩
   refine RT 15 E I ?_;exact⟨_,rfl,⟨λh=>(by cases h),λh=>by have:=h.2.2.1;omega⟩,I.sub⟩
  refine RT 25 E I ?_;exact⟨_,rfl,⟨λh=>(by cases h),λh=>by have:=eK.2 h.2.1;rw[dA]at this;cases this⟩,I.sub⟩
 refine RT 28 E I ?_;exact⟨_,rfl,⟨λh=>(by cases h),λh=>by have:=cU.2 h.1;rw[mT]at this;cases this⟩,I.sub⟩
theorem YM (I:U W w L)(h:¬ eQ cf):Calls prog 96 #[.agg (bS cf).toArray] w λe w'=>e=.returned (.tuple #[.pointer none,.int .i64 1])∧U W w' L:=by
 refine EN func96 ntmps96 rfl rfl λa E=>?_;refine BX 1 E I λb1 a w E I=>?_;change U W w (aa b1 28 (bS cf)::_) at I;refine bh 5 E I (K3 I) λr a w E ⟨hr,I⟩=>?_;rw[show r=false from by cases hh:r with | false=>rfl | true=>exact absurd (hr.1 hh) h]at E;refine RN 1 E I λa E=>?_;replace E:=E.eg 7;refine RT 4 E I ?_;exact⟨rfl,I.sub⟩
theorem K4 {n me aJ br:Nat}{id bf order ct workers room:Int}(I:U W w L)(h:eQ ⟨n,me,id,aJ,br,bf,order,ct,workers,room⟩) :
   Calls prog 96 #[.agg (bS ⟨n,me,id,aJ,br,bf,order,ct,workers,room⟩).toArray] w λe w'=>∃ B,e=.returned (.tuple #[pt B.cb,.int .i64 0])∧U W w' (az B (ff ⟨n,me,id,aJ,br,bf,order,ct,workers,room⟩)::L):=by
 have hh:=h;obtain⟨⟨h1,h2,h3⟩,⟨h4,h5,h6,h7⟩,h8,h9,e9,lk⟩:=hh;simp only[fv] at *;refine EN func96 ntmps96 rfl rfl λa E=>?_;refine BX 1 E I λb1 a w E I=>?_;change U W w (aa b1 28 (bS ⟨n,me,id,aJ,br,bf,order,ct,workers,room⟩)::_) at I;refine bh 5 E I (K3 I) λr a w E ⟨hr,I⟩=>?_;rw[hr.2 h]at E;refine RN 1 E I λa E=>?_;replace E:=E.aM 7;refine RN 1 E I λa E=>?_;refine b7 (M:=λa w=>∃ cb qb aB,Fr a 34 [(1,pt b1),(4,pt cb)]∧U W w (aa cb 257 [.int .i64 n,.int .i64 me,.int .i64 id,.int .i64 aJ,.int .i64 br,.int .i64 bf,.int .i64 order,.int .i64 ct,.int .i64 workers,.int .i64 room,pt qb,.slice none 0 0,.slice none 0 0,.slice none 0 0,.int .i64 0,.bool false]::Qu qb aB (List.replicate n (List.replicate aJ 0))::aa b1 28 (bS ⟨n,me,id,aJ,br,bf,order,ct,workers,room⟩)::L)) ?_ ?_
 ·
  refine aX 0 (λw0 w'=>Rd w' b1 0 (bS ⟨n,me,id,aJ,br,bf,order,ct,workers,room⟩)) [2,4,5] [1,3,3000,3002,1004,1005,6,1007,8] E I λa w E I hH=>?_;have hC:=hH.at w I.ai;refine RH 2 E I hH hC λa E=>?_;refine QH E (λw hc=>bR E underlying28 rfl Ty.t28 (hc)) hC λa E=>?_;simp only[bS]at E;refine RH 0 E I hH hC λa E=>?_;refine QH E (λw hc=>ae E (hc 0 _ rfl)) hC λa E=>?_;refine RH 0 E I hH hC λa E=>?_;refine SS E (ae E (hC 3 _ rfl)) λa E=>?_;refine RH 0 E I hH hC λa E=>?_;refine aY 0 E I (Yw (n:=n) (d:=aJ) I (by omega) (by omega)) λqb aB a w E I=>?_;replace hC:=hH.at w I.ai;refine RH 1 E I hH hC λa E=>?_;refine w9 E rfl I rfl λUy a w E I ho=>?_;clear ho;refine RN 1 E I λa E=>?_;exact⟨_,qb,aB,E.ab [1,4],I⟩
 clear E;(try clear I);rintro a w ⟨cb,qb,aB,E,I⟩;refine RN 5 E I λa E=>?_;replace I:=I.bN 259 5 none;refine aO (λμ a w=>∃ (i:Nat) (ad:Option Addr) (c:Nat),(μ=n-i∧i≤n)∧Fr a 34 [(1,pt b1),(4,pt cb),(17,.int .i64 n),(18,.int .i64 i)]∧U W w (aa cb 257 [.int .i64 n,.int .i64 me,.int .i64 id,.int .i64 aJ,.int .i64 br,.int .i64 bf,.int .i64 order,.int .i64 ct,.int .i64 workers,.int .i64 room,pt qb,.slice ad i c,.slice none 0 0,.slice none 0 0,.int .i64 0,.bool false]::Sl 259 5 ad i c (rows iD (List.replicate i (fw aJ)))::Qu qb aB (List.replicate n (List.replicate aJ 0))::aa b1 28 (bS ⟨n,me,id,aJ,br,bf,order,ct,workers,room⟩)::L)) (n) (⟨0,none,0,⟨rfl,by omega⟩,E.ab [1,4,17,18],(I.perm (List.Perm.swap _ _ _):U W w (aa cb 257 _::Sl 259 5 none 0 0 []::_))⟩) ?_;clear E I;rintro μ a w ⟨i,ad,c,⟨rfl,hi⟩,E,I⟩;refine IF 3 E I (λao a E=>?_) λao a E=>?_
 ·
  refine bP 1 [6,7,8] [0,1,2,3,5,3004,1006,1007,1008,1009,10,11,1012] E I λa w E I hH hC=>?_;refine RH 8 E I hH hC λa E=>?_;refine cn E rfl I underlying255 Ty.t259 rfl rfl rfl rfl (by decide) (by decide) λH7 a w E I ho=>?_;replace hC:=hC.trans ho;clear ho;refine RH 0 E I hH hC λa E=>?_;refine cK E rfl I underlying255 Ty.t259 rfl rfl I.ai rfl (YL (fw aJ)) (by decide) (by decide) (by omega) λK5 K6 a w E I=>?_;rw[show rows iD (List.replicate i (fw aJ))++_=rows iD (List.replicate (i+1) (fw aJ)) from by rw[replicate_succ',kh];rfl]at I;refine ST 2 E I (λa w E I=>?_);refine RN 2 E I λa E=>?_;exact⟨n-(i+1),by omega,i+1,K5,K6,⟨rfl,by omega⟩,E.ab [1,4,17,18],I.sub⟩
 obtain rfl:i=n:=by omega
 replace I:=I.bN 100 1 none;replace I:=I.bN 135 1 none;refine RT 4 E I ?_;obtain⟨bp,op,rfl,_⟩:=(I.pick (Sl 259 5 ad i c (rows iD (List.replicate i (fw aJ))))).bU ad (by omega);refine⟨⟨cb,qb,aB,bp,op⟩,rfl,?_⟩;refine az.close (A:=⟨c,none,0,none,0⟩) ?_;have hl:(ff ⟨i,me,id,aJ,br,bf,order,ct,workers,room⟩).ps.length=i:=by simp[ff]
 rw[iv,hl];exact I.sub (M:=aa cb 257 [.int .i64 i,.int .i64 me,.int .i64 id,.int .i64 aJ,.int .i64 br,.int .i64 bf,.int .i64 order,.int .i64 ct,.int .i64 workers,.int .i64 room,pt qb,.slice (some ⟨bp,op,none⟩) i c,.slice none 0 0,.slice none 0 0,.int .i64 0,.bool false]::Sl 259 5 (some ⟨bp,op,none⟩) i c (rows iD (List.replicate i (fw aJ)))::Sl 100 1 none 0 0 []::Sl 135 1 none 0 0 []::Qu qb aB (List.replicate i (List.replicate aJ 0))::L)
theorem K7 (I:U W w (az B k::L)):Calls prog 292 #[pt B.cb] w λe w'=>e=.returned (.agg (bS (fe k)).toArray)∧U W w' (az B k::L):=by
 obtain⟨A,I⟩:=az.open I;refine EN func292 ntmps292 rfl rfl λa E=>?_;refine AL 1 E I λb2 a w E I=>?_;refine RN 4 E I λa E=>?_;replace E:=E.aM 4;refine SA 6 E I λa w E I=>?_;refine RT 0 E I ?_;exact⟨rfl,az.close I.tail⟩
theorem oB (I:U W w (az B k::L)):Calls prog 134 #[pt B.cb] w λe w'=>e=.returned (pt B.qb)∧U W w' (az B k::L):=by
 obtain⟨A,I⟩:=az.open I;refine EN func134 ntmps134 rfl rfl λa E=>?_;refine RN 6 E I λa E=>?_;replace E:=E.aM 4;refine RT 7 E I ?_;exact⟨rfl,az.close I⟩
theorem az.E9 (I:U W w (az B k::L)):∃ D:SP,U W w (Qu B.qb B.aB k.ls::D::L)∧∀ (w':World) (L':List SP) (kC:List (List UInt8)),U W w' (Qu B.qb B.aB kC::D::L')→U W w' (az B { k with ls:=kC }::L'):=by
 obtain⟨A,I⟩:=az.open I;refine⟨λh=>cj [aa B.cb 257 (iv k B A),Sl 259 5 (some ⟨B.bp,B.op,none⟩) k.ps.length A.cP (rows iD k.ps),Sl 100 1 A.cd k.mr.length A.cM (c0 k.mr),Sl 135 1 A.adE k.ev.length A.cE (k.ev.map cA)] h,?_,λw' L' kC I=>?_⟩
 ·refine U.perm (L:=(λh=>cj [aa B.cb 257 (iv k B A),Sl 259 5 (some ⟨B.bp,B.op,none⟩) k.ps.length A.cP (rows iD k.ps),Sl 100 1 A.cd k.mr.length A.cM (c0 k.mr),Sl 135 1 A.adE k.ev.length A.cE (k.ev.map cA)] h)::Qu B.qb B.aB k.ls::L) ?_ (List.Perm.swap _ _ _);exact U.shut (M:=[_,_,_,_]) I λ_ h=>h
 ·have h1:=(I.perm (List.Perm.swap _ _ _)).open (M:=[_,_,_,_]) λ_ h=>h;exact az.close (k:={ k with ls:=kC }) (A:=A) h1
theorem az.qu (I:U W w (az B k::L)):∃ D:SP,U W w (Qu B.qb B.aB k.ls::D::L)∧∀ (w':World) (L':List SP),U W w' (Qu B.qb B.aB k.ls::D::L')→U W w' (az B k::L'):=by
 obtain⟨D,h1,h2⟩:=az.E9 I;exact⟨D,h1,λw' L' h=>h2 w' L' k.ls h⟩
theorem s3 (I:U W w (az B k::L))(hk:WC k):Calls prog 275 #[pt B.cb] w λe w'=>e=.returned (.int .i64 (aE k))∧U W w' (az B k::L):=by
 have ej:k.me<k.ls.length:=by rw[hk.ls];exact hk.me
 refine EN func275 ntmps275 rfl rfl λa E=>?_;refine CL 4 E I (oB I) λa w E I=>?_;refine CL 1 E I (K7 I) λa w E I=>?_;refine RN 0 E I λa E=>?_;refine SS E (HZ E underlying28 rfl underlying3 rfl rfl) λa E=>?_;obtain⟨D,I,hD⟩:=az.qu I;refine CL 0 E I (sZ I ej) λa w E I=>?_;refine CL 0 E I (ym I ej) λa w E I=>?_;refine RT 1 E I ?_;exact⟨rfl,hD _ _ I⟩
theorem yp (I:U W w (az B k::L)):Calls prog 179 #[pt B.cb] w λe w'=>e=.returned (.bool k.cl)∧U W w' (az B k::L):=by
 obtain⟨A,I⟩:=az.open I;refine EN func179 ntmps179 rfl rfl λa E=>?_;refine RN 6 E I λa E=>?_;replace E:=E.aM 5;refine RT 6 E I ?_;exact⟨rfl,az.close I⟩
theorem K8 (I:U W w (az B k::L)):Calls prog 133 #[pt B.cb] w λe w'=>e=.returned (.int .i64 k.mr.length)∧U W w' (az B k::L):=by
 obtain⟨A,I⟩:=az.open I;refine EN func133 ntmps133 rfl rfl λa E=>?_;refine RN 6 E I λa E=>?_;replace E:=E.aM 4;refine RT 8 E I ?_;exact⟨rfl,az.close I⟩
theorem Fa (I:U W w (az B k::L))(he:s0 e)(hl:k.ev.length≤100):Calls prog 204 #[pt B.cb,.agg (bT e).toArray] w λr w'=>r=.returned (.tuple #[])∧U W w' (az B { k with ev:=k.ev++[e] }::L):=by
 obtain⟨A,I⟩:=az.open I;refine EN func204 ntmps204 rfl rfl λa E=>?_;refine BX 1 E I λb3 a w E I=>?_;change U W w (aa b3 102 (bT e)::_) at I;refine CL 2 E I (YG I he) λa w E I=>?_;refine AL 3 E I λb4 a w E I=>?_;refine SA 0 E I λa w E I=>?_;refine RN 3 E I λa E=>?_;replace E:=E.eg 11;refine bP 1 [5,6] [0,1,2,3,3004,1005,1006,1007,8,9,1010] E I λa w E I hH hC=>?_;refine RH 6 E I hH hC λa E=>?_;refine cn E rfl I underlying90 Ty.t135 rfl rfl rfl rfl (by decide) (by decide) λsN a w E I ho=>?_;replace hC:=hC.trans ho;clear ho;refine RH 0 E I hH hC λa E=>?_;refine cK E rfl I underlying90 Ty.t135 rfl rfl I.ai rfl (by simpa using E6 e) (by decide) (by decide) (by omega) λAc Ad a w E I=>?_;rw[show List.map cA k.ev++_=List.map cA (k.ev++[e]) from by rw[cW];rfl,show k.ev.length+1=(k.ev++[e]).length from by simp]at I;rw[show k.ev.length+1=(k.ev++[e]).length from by simp]at E;refine ST 2 E I (λa w E I=>?_);refine RT 0 E I ?_;exact⟨rfl,az.mk' (k:={ k with ev:=k.ev++[e] }) I { A with adE:=Ac,cE:=Ad }⟩
structure rE (w:World)(B:pE)(k:Ks):Prop where
 cf:Rd w B.cb 0 [.int .i64 k.n,.int .i64 k.me,.int .i64 k.id,.int .i64 k.aJ,.int .i64 k.br,.int .i64 k.bf,.int .i64 k.order,.int .i64 k.ct,.int .i64 k.workers,.int .i64 k.room,pt B.qb]
 now:w.cell? ⟨B.cb,14,none⟩=some (.int .i64 k.now)
 cl:w.cell? ⟨B.cb,15,none⟩=some (.bool k.cl)
 pe:∀ (i:Nat) (p:Pe),k.ps[i]?=some p→Rd w B.bp (B.op+i*5) (iD p)
 afi:∃ ad c,w.cell? ⟨B.cb,12,none⟩=some (.slice ad k.mr.length c)
 pl:∃ c,w.cell? ⟨B.cb,11,none⟩=some (.slice (some ⟨B.bp,B.op,none⟩) k.ps.length c)
theorem jl {α:Type}{f:α→List Value}{sz:Nat}(hf:∀ x,(f x).length=sz){l:List α}{i:Nat}{x:α}{b o:Nat}(h:Rd w b o (rows f l))(hx:l[i]?=some x):Rd w b (o+i*sz) (f x):=by
 obtain⟨hi,rfl⟩:=a2.1 hx;have h1:=h.part (i*sz) sz
 rwa [vp hf l i hi]at h1
theorem az.rd (I:U W w (az B k::L)):rE w B k:=by
 obtain⟨A,I⟩:=az.open I;refine⟨I.pT 11,I.bz rfl,I.bz rfl,λi p hp=>?_,⟨_,_,I.bz rfl⟩,⟨_,I.bz rfl⟩⟩;have hi:=(a2.1 hp).1;exact jl jF (I.cJ B.bp B.op (by omega)) hp
end
theorem AS {l:List Nat}{i:Nat}(h:i<l.length):(c0 l)[i]?=some (.int .u32 (l.getD i 0:Nat)):=by
 rw[c0,bm,aD h,bl,aD h];rfl
theorem uC {k:Ks}{i:Nat}(h:i<k.ps.length):k.ps[i]?=some (au k i):=by
 rw[au,bl,aD h];rfl
theorem K9 {k:Ks}{i:Nat}(h:i<k.ps.length):k.ps[i]=au k i:=by
 rw[au,bl,aD h];rfl
section
variable {W w:World}{L L':List SP}{n c i:Nat}{ad:Option Addr}{k:Ks}{A:oz}{B:pE}{x:UInt8}
theorem La (I:U W w (az B k::L))(hk:WC k):Calls prog 175 #[pt B.cb] w λr w'=>r=.returned (.tuple #[])∧U W w' (az B (kX k)::L):=by
 have ez:k.ps.length=k.n:=hk.ps;obtain⟨A0,I⟩:=az.open I;refine EN func175 ntmps175 rfl rfl λa E=>?_;refine RN 7 E I λa E=>?_;replace I:=az.close I;refine aO (λμ a w=>∃ (i:Nat),(μ=k.ps.length-i∧i≤k.ps.length)∧Fr a 71 [(0,pt B.cb),(8,.int .i64 k.ps.length),(9,.int .i64 i)]∧U W w (az B (gn k i)::L)) (k.ps.length) (⟨0,⟨rfl,by omega⟩,E.ab [0,8,9],I⟩) ?_;clear E I;rintro μ a w ⟨i,⟨rfl,hi⟩,E,I⟩;refine IF 3 E I (λaj a E=>?_) λaj a E=>?_
 ·
  have aH:i<k.ps.length:=by omega
  have jQ:=hk.gn (i:=i) (by omega);have dM:=AM k i;have eJ:gn k (i+1)=kW (gn k i) i:=rfl;rw[kW]at eJ;generalize gn k i=kk at I jQ dM eJ;rw[← dM]at aH;have iq:=jQ.pC (i:=i) (by rw[← jQ.ps];exact aH);have e0:=uC aH;have Kb:i<8:=by have:=jQ.n;have:=jQ.ps;omega
  obtain⟨A,I⟩:=az.open I;have fb:=jl jF (I.cJ B.bp B.op (by omega)) e0;refine RN 14 E I λa E=>?_;have fb:Rd w.drew B.bp (B.op+i*5) (iD (au kk i)):=fb;have jD:Rd w.drew B.cb 0 (iv kk B A):=I.drew.ai;refine qT 0 (Old w.drew) [13,14,31,35,36,37,38] [0,1,2,1003,4,5,6,7,8,10,11,12,3009,1013,1014,15,16,17,18,19,20,1021,22,23,24,25,26,28,29,30,32,33,34,3027,3031,1035,1036,1037,1038,39,40] E I λa E=>?_;replace I:=I.drew;have hH:=Hd.fX I;have hC:=Old.refl w.drew;generalize w.drew=w at I hH hC fb jD ⊢;refine RH 3 E I hH hC λa E=>?_;refine SS E (ae E (fb 2 _ rfl)) λa E=>?_;refine RH 2 E I hH hC λa E=>?_;refine E.by (s:=23) (λiP E=>?_) (λiP E=>?_)
  ·
   refine RH 35 E I hH hC λa E=>?_;refine RN 3 E I λa E=>?_;rw[ag (λh=>by have:=h.2.1;omega)]at eJ;exact⟨k.ps.length-(i+1),by omega,i+1,⟨rfl,by omega⟩,E.ab [0,8,9],by rw[eJ];exact az.close I⟩
  refine RH 6 E I hH hC λa E=>?_;refine QH E (λw hc=>ae E (hc.cell (fb 2 _ rfl))) hC λa E=>?_;refine RH 0 E I hH hC λa E=>?_;refine bt E (cm E rfl (s:=23)) (ae E (jD 12 _ rfl)) rfl λa E=>?_;refine RH 4 E I hH hC λa E=>?_;refine E.by (s:=35) (λYN E=>?_) (λYN E=>?_)
  ·
   refine RH 23 E I hH hC λa E=>?_;refine RN 3 E I λa E=>?_;rw[ag (λh=>by have:=h.2.2.1;omega)]at eJ;exact⟨k.ps.length-(i+1),by omega,i+1,⟨rfl,by omega⟩,E.ab [0,8,9],by rw[eJ];exact az.close I⟩
  refine RH 3 E I hH hC λa E=>?_;refine bt E (cm E rfl (s:=35)) (ae E (fb 4 _ rfl)) rfl λa E=>?_;refine RH 2 E I hH hC λa E=>?_;refine E.by (s:=41) (λmm E=>?_) (λmm E=>?_)
  ·
   refine RH 17 E I hH hC λa E=>?_;refine RN 3 E I λa E=>?_;rw[ag (λh=>by have:=h.1;rw[mm]at this;cases this)]at eJ;exact⟨k.ps.length-(i+1),by omega,i+1,⟨rfl,by omega⟩,E.ab [0,8,9],by rw[eJ];exact az.close I⟩
  have l6:(au kk i).frame-1<kk.mr.length:=by omega
  obtain⟨Fb,Fc,ej,lz⟩:=I.bU A.cd (by omega);have yq:=jD 12 _ rfl;rw[ej]at yq;refine RH 9 E I hH hC λa E=>?_;refine QH E (λw hc=>ae E (hc.cell (fb 3 _ rfl))) hC λa E=>?_;refine QH E (λw hc=>ae E (hc.cell (yq))) hC λa E=>?_;refine RH 0 E I hH hC λa E=>?_;refine bt E (cm E rfl (s:=41)) (ae E (fb 2 _ rfl)) rfl λa E=>?_;refine RH 1 E I hH hC λa E=>?_;rw[show (((au kk i).frame:Nat):Int)-1=(((au kk i).frame-1:Nat):Int) from by omega]at E;refine RH 1 E I hH hC λa E=>?_;refine bt E (cm E rfl (s:=41)) (ae E (lz ((au kk i).frame-1) _ (AS l6))) rfl λa E=>?_;refine RH 2 E I hH hC λa E=>?_;refine IF 0 E I (λao a E=>?_) λao a E=>?_
  ·
   refine RN 2 E I λa E=>?_;rw[ag (λh=>by have:=h.2.2.2;omega)]at eJ;exact⟨k.ps.length-(i+1),by omega,i+1,⟨rfl,by omega⟩,E.ab [0,8,9],by rw[eJ];exact az.close I⟩
  refine RN 1 E I λa E=>?_;rw[ak ⟨mm,by omega,by omega,by omega⟩]at eJ;refine RN 3 E I λa E=>?_;refine l3 (off:=B.op) (k:=i*5+4) E rfl I Ty.t4 rfl (by omega) (by rw[iY jF];omega) λa w E I=>?_;rw[p3 jF kk.ps { au kk i with apart:=true } aH (by decide) (by rw[K9 aH];rfl)]at I;have gD:(kk.ps.set i { au kk i with apart:=true }).length=kk.ps.length:=bu;rw[show iv kk B A=iv { kk with ps:=kk.ps.set i { au kk i with apart:=true } } B A from by simp only[iv,gD],← gD]at I;replace I:=az.mk' (L':=L) (B:=B) (k:={ kk with ps:=kk.ps.set i { au kk i with apart:=true } }) I A;refine RN 5 E I λa E=>?_;refine SS E (ae E (((az.rd I).pe i { au kk i with apart:=true } (by rw[getElem?_set_self aH])) 2 _ rfl)) λa E=>?_;refine CL 1 E I (Fa (e:=(3,i,(au kk i).frame)) I ⟨by simp,by simp,by have:=jQ.n;have:=jQ.ps;show i<8;omega,iq.2.2.1,.inl rfl⟩ (by have:=jQ.kA;show kk.ev.length≤100;omega)) λa w E I=>?_;refine RN 2 E I λa E=>?_;exact⟨k.ps.length-(i+1),by omega,i+1,⟨rfl,by omega⟩,E.ab [0,8,9],by rw[eJ];exact I⟩
 refine RT 0 E I ?_;obtain rfl:i=k.ps.length:=by omega
 exact⟨rfl,I⟩
theorem YO {s:Nat}(I:U W w (az B k::L))(hk:WC k)(hl:k.mr.length<1000)(xN:s<4294967296):Calls prog 138 #[pt B.cb,.int .u32 s] w λr w'=>r=.returned (.tuple #[])∧U W w' (az B (lu k s)::L):=by
 have yr : WC { k with mr := k.mr ++ [s] } := { hk with
     mr:=by show (k.mr++[s]).length≤1000;rw[aL,jj];omega
     rB:=λx hx=>by
      rcases eN.1 hx with hx | hx
      ·exact hk.rB x hx
      ·rw[mem_singleton]at hx;rw[hx];exact xN }
 obtain⟨A,I⟩:=az.open I;refine EN func138 ntmps138 rfl rfl λa E=>?_;refine RN 5 E I λa E=>?_;replace E:=E.aM 6;refine RN 7 E I λa E=>?_;rw[bn (by omega)]at E;refine RN 8 E I λa E=>?_;refine cn E rfl I underlying69 Ty.t100 rfl rfl rfl rfl (by decide) (by decide) λIV a w E I ho=>?_;clear ho;refine RN 0 E I λa E=>?_;refine cK E rfl I underlying69 Ty.t100 rfl rfl I.ai rfl (by simp[Value.oneCell']) (by decide) (by decide) (by omega) λqY qZ a w E I=>?_;rw[show c0 k.mr++_=c0 (k.mr++[s]) from by rw[c0,c0,cW];rfl,show k.mr.length+1=(k.mr++[s]).length from by simp]at I;rw[show k.mr.length+1=(k.mr++[s]).length from by simp]at E;refine ST 2 E I (λa w E I=>?_);refine RN 0 E I λa E=>?_;replace I:=az.mk' (B:=B) (L':=L) (k:={ k with mr:=k.mr++[s] }) I { A with cd:=qY,cM:=qZ };refine CL 1 E I (La I yr) λa w E I=>?_;refine RT 0 E I ?_;exact⟨rfl,by rw[lu,ak hl];exact I⟩
theorem YP (I:U W w (az B k::L)):Calls prog 296 #[pt B.cb] w λr w'=>∃ ad c,r=.returned (.slice ad k.ev.length c)∧U W w' (Sl 135 1 ad k.ev.length c (k.ev.map cA)::az B { k with ev:=[] }::L):=by
 obtain⟨A,I⟩:=az.open I;refine EN func296 ntmps296 rfl rfl λa E=>?_;refine RN 6 E I λa E=>?_;replace E:=E.aM 5;refine ST 11 E I (λa w E I=>?_);refine RT 3 E I ?_;refine⟨A.adE,A.cE,rfl,?_⟩;replace I:=I.bN 135 1 none;refine U.perm (L:=az B { k with ev:=[] }::Sl 135 1 A.adE k.ev.length A.cE (k.ev.map cA)::L) ?_ (List.Perm.swap _ _ _);refine az.close (A:=⟨A.cP,A.cd,A.cM,none,0⟩) ?_;exact I.sub (M:=aa B.cb 257 [.int .i64 k.n,.int .i64 k.me,.int .i64 k.id,.int .i64 k.aJ,.int .i64 k.br,.int .i64 k.bf,.int .i64 k.order,.int .i64 k.ct,.int .i64 k.workers,.int .i64 k.room,pt B.qb,.slice (some ⟨B.bp,B.op,none⟩) k.ps.length A.cP,.slice A.cd k.mr.length A.cM,.slice none 0 0,.int .i64 k.now,.bool k.cl]::Sl 259 5 (some ⟨B.bp,B.op,none⟩) k.ps.length A.cP (rows iD k.ps)::Sl 100 1 A.cd k.mr.length A.cM (c0 k.mr)::Sl 135 1 none 0 0 []::Qu B.qb B.aB k.ls::Sl 135 1 A.adE k.ev.length A.cE (k.ev.map cA)::L)
theorem YQ (I:U W w (az B k::L))(hk:WC k):Calls prog 297 #[pt B.cb,.int .u8 (x.toNat:Nat)] w λr w'=>r=.returned (.int .i64 (cZ x k).1)∧U W w' (az B (cZ x k).2::L):=by
 have ej:k.me<k.ls.length:=by rw[hk.ls];exact hk.me
 have gP:=hk.lv;have fo:aV k.ls≤aE k:=hk.m6;refine EN func297 ntmps297 rfl rfl λa E=>?_;refine CL 5 E I (yp I) λa w E I=>?_;refine IF 1 E I (λaj a E=>?_) λaj a E=>?_
 ·
  refine RT 2 E I ?_;exact⟨by rw[cZ,ak aj],by rw[cZ,ak aj];exact I⟩
 have ck:¬ k.cl=true:=by rw[aj];decide
 refine CL 2 E I (s3 I hk) λa w E I=>?_;refine IF 2 E I (λao a E=>?_) λao a E=>?_
 ·
  refine RT 2 E I ?_;exact⟨by rw[cZ,ag ck,ak (by omega)],by rw[cZ,ag ck,ak (by omega)];exact I⟩
 refine aX 1 (λw0 w'=>rE w' B k) [1,6,7,12] [0,2,3,4,8,9,10,11,3005,3012,1001,1006,1007,13,14] E I λa w E I hH=>?_;have hC:=hH.at w (az.rd I);refine RH 8 E I hH hC λa E=>?_;refine QH E (λw hc=>ae E (hc.cf 10 _ rfl)) hC λa E=>?_;refine QH E (λw hc=>ae E (hc.cf 4 _ rfl)) hC λa E=>?_;refine RH 0 E I hH hC λa E=>?_;refine CL 0 E I (s3 I hk) λa w E I=>?_;replace hC:=hH.at w (az.rd I);obtain⟨D,I,hD⟩:=az.qu I;refine RH 0 E I hH hC λa E=>?_;refine CL 0 E I (rA I hk.kY (by rw[hk.ls];exact hk.n.2)) λa w E I=>?_;replace hC:=hH.at w (az.rd (hD _ _ I));replace I:=hD _ _ I;refine RH 3 E I hH hC λa E=>?_;refine IF 0 E I (λay a E=>?_) λay a E=>?_
 ·
  refine RT 2 E I ?_;exact⟨by rw[cZ,ag ck,ag (by omega),ak (by rw[aw];omega)],by rw[cZ,ag ck,ag (by omega),ak (by rw[aw];omega)];exact I⟩
 refine aX 1 (λw0 w'=>rE w' B k) [8] [0,1,2,4,5,6,7,10,3003,1008,1009,1011,12] E I λa w E I hH=>?_;have hC:=hH.at w (az.rd I);refine RH 8 E I hH hC λa E=>?_;refine QH E (λw hc=>ae E (hc.cf 10 _ rfl)) hC λa E=>?_;refine RH 0 E I hH hC λa E=>?_;refine SS E (ae E (hC.cf 1 _ rfl)) λa E=>?_;obtain⟨D,I,hD⟩:=az.E9 I;refine RH 0 E I hH hC λa E=>?_;refine CL 0 E I (sZ I ej) λa w E I=>?_;refine CL 0 E I (Yr I ej (by simp only[aE]at ao;omega)) λa w E I=>?_;refine RN 1 E I λa E=>?_;refine RT 0 E I ?_;have uD:cZ x k=(0,{ k with ls:=k.ls.set k.me (k.ls.getD k.me []++[x]) }):=by rw[cZ,ag ck,ag (by omega),ag (by rw[aw];omega)]
 rw[uD];exact⟨rfl,hD _ _ _ I⟩
end
def mx (l:List Nat):List Value:=l.map λi:Nat=>Value.int .i64 (i:Int)
theorem Fe {l:List Nat}{i j:Nat}(h:l[i]?=some j):(mx l)[i]?=some (.int .i64 (j:Int)):=by rw[mx,bm,h];rfl
def kZ (k:Ks)(i:Nat):List Nat:=(List.range i).filter (·≠k.me)
theorem Ff (k:Ks)(i:Nat):kZ k (i+1)=if i=k.me then kZ k i else kZ k i++[i]:=by
 rw[kZ,range_succ,List.filter_append];by_cases h:i=k.me
 ·rw[ak h];simp[h,kZ]
 ·rw[ag h];simp[h,kZ]
theorem Lb (k:Ks):∀ i,(kZ k i).length≤i:=λi=>by
 have:=length_filter_le (λx=>decide (x≠k.me)) (List.range i);rw[length_range]at this;exact this
abbrev Mx:=Option Addr×Nat×Ml
abbrev b0 (x:Mx):List Value:=[.int .i64 x.2.2.1,.int .i64 x.2.2.2.1,.slice x.1 x.2.2.2.2.length x.2.1]
theorem oC (x:Mx):(b0 x).length=3:=rfl
theorem YR (x:Mx):∀ v∈b0 x,v.oneCell'=true:=by
 intro v hv;simp[b0]at hv;rcases hv with rfl | rfl | rfl <;> rfl
def b6 (x:Mx):SP:=Sl 5 1 x.1 x.2.2.2.2.length x.2.1 (bc x.2.2.2.2)
def ch (e:TypeId)(ad:Option Addr)(n c:Nat)(ms:List Ml):SP:=λh=>∃ xs:List Mx,(xs.map (·.2.2)=ms∧ms.length=n)∧cj [Sl e 3 ad n c (rows b0 xs),ah b6 xs] h
section
variable {W w:World}{L L':List SP}{n c i e to:Nat}{ad adP:Option Addr}{k:Ks}{A:oz}{B:pE}{x:UInt8}{ms:List Ml}{p:Pk}
theorem ch.open (I:U W w (ch e ad n c ms::L)):∃ xs:List Mx,xs.map (·.2.2)=ms∧ms.length=n∧U W w (Sl e 3 ad n c (rows b0 xs)::ah b6 xs::L):=by
 obtain⟨xs,⟨h1,h2⟩,I⟩:=I.jv (ι:=List Mx) (p:=λxs=>xs.map (·.2.2)=ms∧ms.length=n) (B:=λxs h=>cj [Sl e 3 ad n c (rows b0 xs),ah b6 xs] h) λ_ ⟨xs,h1,h2⟩=>⟨xs,h1,h2⟩;exact⟨xs,h1,h2,I.open (M:=[_,_]) λ_ h=>h⟩
theorem ch.close {xs:List Mx}(I:U W w (Sl e 3 ad n c (rows b0 xs)::ah b6 xs::L))(h1:xs.map (·.2.2)=ms)(h2:ms.length=n):U W w (ch e ad n c ms::L) :=
 U.shut (M:=[_,_]) I λ_ h=>⟨xs,⟨h1,h2⟩,h⟩
theorem ch.nil (I:U W w L):U W w (ch e none 0 0 []::L):=ch.close (xs:=[]) (U.bN (U.iK I) e 3 none) rfl rfl
theorem Fg (I:U W w (az B k::L))(hk:WC k):Calls prog 315 #[pt B.cb] w λr w'=>∃ ad c,r=.returned (.slice ad (bF k).length c)∧U W w' (Sl 3 1 ad (bF k).length c (mx (bF k))::az B k::L):=by
 have gB:=hk.ps;have hn:=hk.n;obtain⟨A,I⟩:=az.open I;refine EN func315 ntmps315 rfl rfl λa E=>?_;refine RN 12 E I λa E=>?_;rw[gB]at E;replace I:=az.close I;replace I:=I.bN 3 1 none;refine aO (λμ a w=>∃ (i:Nat) (ad:Option Addr) (c:Nat),(μ=k.n-i∧i≤k.n)∧Fr a 26 [(0,pt B.cb),(3,.slice ad (kZ k i).length c),(9,.int .i64 k.n),(10,.int .i64 i)]∧U W w (Sl 3 1 ad (kZ k i).length c (mx (kZ k i))::az B k::L)) (k.n) (⟨0,none,0,⟨rfl,by omega⟩,E.ab [0,3,9,10],I⟩) ?_;clear E I;rintro μ a w ⟨i,ad,c,⟨rfl,hi⟩,E,I⟩;refine IF 3 E I (λaj a E=>?_) λaj a E=>?_
 ·
  have dU:=Lb k i;have lA:=Ff k i;refine RN 10 E I λa E=>?_;refine SS E (ae E (((az.rd I.tail).cf 1 _ rfl))) λa E=>?_;refine IF 1 E I (λao a E=>?_) λao a E=>?_
  ·
   rw[ag (by omega)]at lA;refine RN 2 E I λa E=>?_;refine cn E rfl I underlying53 Ty.t3 rfl rfl rfl rfl (by decide) (by decide) λuf a w E I ho=>?_;clear ho;refine RN 0 E I λa E=>?_;refine cK E rfl I underlying53 Ty.t3 rfl rfl I.ai rfl (by simp[Value.oneCell']) (by decide) (by decide) (by omega) λgp gq a w E I=>?_;rw[show mx (kZ k i)++_=mx (kZ k (i+1)) from by rw[lA,mx,mx,cW];rfl,show (kZ k i).length+1=(kZ k (i+1)).length from by rw[lA,aL];rfl]at I;rw[show (kZ k i).length+1=(kZ k (i+1)).length from by rw[lA,aL];rfl]at E;refine RN 3 E I λa E=>?_;exact⟨k.n-(i+1),by omega,i+1,gp,gq,⟨rfl,by omega⟩,E.ab [0,3,9,10],I.sub⟩
  rw[ak (by omega)]at lA;refine RN 2 E I λa E=>?_;exact⟨k.n-(i+1),by omega,i+1,ad,c,⟨rfl,by omega⟩,by rw[lA];exact E.ab [0,3,9,10],by rw[lA];exact I⟩
 refine RT 3 E I ?_;obtain rfl:i=k.n:=by omega
 exact⟨ad,c,rfl,I⟩
def s4 (k:Ks)(to:Nat)(p:Pk):Pk:={ p with aW:=k.me,to:=to,id:=k.id }
theorem Lc (I:U W w (az B k::L))(lR:p.sum<4294967296)(hp:∀ w',U W w' (az B k::L)→aT w' adP p.al.length p.al) :
   Calls prog 316 #[pt B.cb,.agg (dK p adP c).toArray,.int .i64 to] w λr w'=>∃ av c',r=.returned (.agg (b0 (av,c',(k.me,to,aR (s4 k to p)))).toArray)∧U W w' (b6 (av,c',(k.me,to,aR (s4 k to p)))::az B k::L):=by
 refine EN func316 ntmps316 rfl rfl λa E=>?_;refine BX 1 E I λb4 a w E I=>?_;simp only[dK]at I;refine AL 0 E I λcH a w E I=>?_;refine aX 1 (λw0 w'=>rE w' B k) [10,12,13,14] [0,1,2,3,5,6,7,8,9,3004,11,3010,1012,1013,1014,15,1016] E I λa w E I hH=>?_;have hC:=hH.at w (az.rd (I.pick (az B k)));refine RH 9 E I hH hC λa E=>?_;refine QH E (λw hc=>ae E (hc.cf 1 _ rfl)) hC λa E=>?_;refine RH 1 E I hH hC λa E=>?_;refine QH E (λw hc=>ae E (hc.cf 2 _ rfl)) hC λa E=>?_;refine RH 0 E I hH hC λa E=>?_;refine ST 0 E I (λa w E I=>?_);replace hC:=hH.at w (az.rd (I.pick (az B k)));refine RH 1 E I hH hC λa E=>?_;refine ST 0 E I (λa w E I=>?_);replace hC:=hH.at w (az.rd (I.pick (az B k)));refine RH 1 E I hH hC λa E=>?_;refine ST 0 E I (λa w E I=>?_);refine aX 1 (λw0 w'=>Rd w' b4 0 (dK (s4 k to p) adP c)) [3,4,5] [0,2,3001,3003,1004,1005,6,1007] E I λa w E I hH=>?_;have hC:=hH.at w (I.ai (b:=b4));refine RH 2 E I hH hC λa E=>?_;refine QH E (λw hc=>ae E (hc 1 _ rfl)) hC λa E=>?_;refine QH E (λw hc=>ae E (hc 2 _ rfl)) hC λa E=>?_;refine RH 0 E I hH hC λa E=>?_;refine SS E (bR E underlying203 rfl Ty.t203 (hC)) λa E=>?_;refine RH 0 E I hH hC λa E=>?_;refine aY 0 E I (Kl (p:=s4 k to p) (ad:=adP) (c:=c) I lR (λw' hw=>hp w' hw.sub)) λad2 c2 a w E I=>?_;replace hC:=hH.at w (I.ai (b:=b4));refine RH 1 E I hH hC λa E=>?_;refine SA 0 E I λa w E I=>?_;refine RT 0 E I ?_;exact⟨ad2,c2,rfl,I.sub (M:=Sl 5 1 ad2 (aR (s4 k to p)).length c2 (bc (aR (s4 k to p)))::az B k::L)⟩
theorem Ld {l:List Nat}(h:0<l.length):l.getD (l.length-1) 0=l.getLastD 0:=by
 rw[getLastD_eq_getLast?,List.getLast?_eq_getElem?,bl]
theorem YS (k:Ks)(to:Nat):s4 k to ⟨1,0,0,0,(au k to).has,(k.ls.getD to []).length,k.mr.length,k.mr.getLastD 0,((k.ls.getD k.me []).drop (au k to).has).take 32⟩=dL k to:=rfl
set_option maxHeartbeats 1000000 in
theorem YT (I:U W w (az B k::L))(hk:WC k)(s5:to<k.n):Calls prog 319 #[pt B.cb,.int .i64 to] w λr w'=>∃ av c',r=.returned (.agg (b0 (av,c',(k.me,to,aR (dL k to)))).toArray)∧U W w' (b6 (av,c',(k.me,to,aR (dL k to)))::az B k::L):=by
 have ej:k.me<k.ls.length:=by rw[hk.ls];exact hk.me
 have eG:to<k.ls.length:=by rw[hk.ls];exact s5
 have YU:to<k.ps.length:=by rw[hk.ps];exact s5
 have iq:=hk.pC s5;have l6:=hk.lT hk.me;have e0:=uC YU;have hn:=hk.n;have Le:=hk.mr;obtain⟨A,I⟩:=az.open I;refine EN func319 ntmps319 rfl rfl λa E=>?_;refine AL 1 E I λb4 a w E I=>?_;refine RN 0 E I λa E=>?_;refine b7 (M:=λa w=>∃ b5:Nat,Fr a 62 [(0,pt B.cb),(1,.int .i64 to),(4,pt b4),(5,pt b5)]∧U W w (aa b5 203 [.int .i64 1,.int .i64 0,.int .i64 0,.int .i64 0,.int .i64 (au k to).has,.slice none 0 0,.int .i64 (k.ls.getD to []).length,.int .i64 k.mr.length,.int .u32 0]::aa b4 124 [.int .i64 0,.int .i64 0,.slice none 0 0]::aa B.cb 257 (iv k B A)::Sl 259 5 (some ⟨B.bp,B.op,none⟩) k.ps.length A.cP (rows iD k.ps)::Sl 100 1 A.cd k.mr.length A.cM (c0 k.mr)::Sl 135 1 A.adE k.ev.length A.cE (k.ev.map cA)::Qu B.qb B.aB k.ls::L)) ?_ ?_
 ·
  refine aX 0 (λw0 w'=>Rd w' B.cb 0 (iv k B A)∧Rd w' B.bp (B.op+to*5) (iD (au k to))) [11,13,14,18,19,21] [0,1,2,4,8,9,10,12,15,16,17,3003,5,6,3007,3011,3018,3019,2013,2014,20,1021,1022] E I λa w E I hH=>?_;have hC:=hH.at w ⟨I.ai (b:=B.cb),jl jF (I.cJ B.bp B.op (by omega)) e0⟩;refine RH 11 E I hH hC λa E=>?_;refine QH E (λw hc=>ae E (hc.1 11 _ rfl)) hC λa E=>?_;refine RH 2 E I hH hC λa E=>?_;refine QH E (λw hc=>ae E (hc.2 0 _ rfl)) hC λa E=>?_;refine QH E (λw hc=>ae E (hc.1 10 _ rfl)) hC λa E=>?_;refine QH E (λw hc=>ae E (hc.1 12 _ rfl)) hC λa E=>?_;refine RH 1 E I hH hC λa E=>?_;refine DN [(13,[2014,20,1021,1022]),(21,[1013,1014,20,1022])] (by kernel_rfl) rfl ⟨⟨_,rfl,?_⟩,⟨_,rfl,?_⟩,trivial⟩
  ·
   refine RH 0 E I hH hC λa E=>?_;refine CL 0 E I (sZ (I.pick (Qu B.qb B.aB k.ls)) eG) λa w E I=>?_;replace hC:=hH.at w ⟨I.ai (b:=B.cb),jl jF (I.cJ B.bp B.op (by omega)) e0⟩;refine RH 0 E I hH hC λa E=>?_;refine DN [(14,[20,1021,1022]),(21,[1014,20,1022])] (by kernel_rfl) rfl ⟨⟨_,rfl,?_⟩,⟨_,rfl,?_⟩,trivial⟩
   ·
    refine RH 0 E I hH hC λa E=>?_;refine CL 0 E I (ym (I.pick (Qu B.qb B.aB k.ls)) eG) λa w E I=>?_;replace hC:=hH.at w ⟨I.ai (b:=B.cb),jl jF (I.cJ B.bp B.op (by omega)) e0⟩;refine RH 1 E I hH hC λa E=>?_;refine eU E rfl I Ty.t203 rfl λb5 a w E I ho=>?_;clear ho;replace hC:=hH.at w ⟨I.ai (b:=B.cb),jl jF (I.cJ B.bp B.op (by omega)) e0⟩;refine RH 0 E I hH hC λa E=>?_;refine SA 0 E I λa w E I=>?_;refine RN 0 E I λa E=>?_;exact⟨_,E.ab [0,1,4,5],I.sub⟩
   refine RH 0 E I hH hC λa E=>?_;refine eU E rfl I Ty.t203 rfl λb5 a w E I ho=>?_;clear ho;replace hC:=hH.at w ⟨I.ai (b:=B.cb),jl jF (I.cJ B.bp B.op (by omega)) e0⟩;refine RH 0 E I hH hC λa E=>?_;refine CL 0 E I (ym (I.pick (Qu B.qb B.aB k.ls)) eG) λa w E I=>?_;replace hC:=hH.at w ⟨I.ai (b:=B.cb),jl jF (I.cJ B.bp B.op (by omega)) e0⟩;refine RH 1 E I hH hC λa E=>?_;refine SA 0 E I λa w E I=>?_;refine RN 0 E I λa E=>?_;exact⟨_,E.ab [0,1,4,5],I.sub⟩
  refine RH 0 E I hH hC λa E=>?_;refine eU E rfl I Ty.t203 rfl λb5 a w E I ho=>?_;clear ho;replace hC:=hH.at w ⟨I.ai (b:=B.cb),jl jF (I.cJ B.bp B.op (by omega)) e0⟩;refine RH 0 E I hH hC λa E=>?_;refine CL 0 E I (sZ (I.pick (Qu B.qb B.aB k.ls)) eG) λa w E I=>?_;replace hC:=hH.at w ⟨I.ai (b:=B.cb),jl jF (I.cJ B.bp B.op (by omega)) e0⟩;refine RH 0 E I hH hC λa E=>?_;refine CL 0 E I (ym (I.pick (Qu B.qb B.aB k.ls)) eG) λa w E I=>?_;replace hC:=hH.at w ⟨I.ai (b:=B.cb),jl jF (I.cJ B.bp B.op (by omega)) e0⟩;refine RH 1 E I hH hC λa E=>?_;refine SA 0 E I λa w E I=>?_;refine RN 0 E I λa E=>?_;exact⟨_,E.ab [0,1,4,5],I.sub⟩
 clear E;(try clear I);rintro a w ⟨b5,E,I⟩;refine b7 (M:=λa w=>∃ (cY:Option Addr) (dP:Nat),Fr a 62 [(0,pt B.cb),(1,.int .i64 to),(4,pt b4),(5,pt b5)]∧U W w (aa b5 203 [.int .i64 1,.int .i64 0,.int .i64 0,.int .i64 0,.int .i64 (au k to).has,.slice cY (((k.ls.getD k.me []).drop (au k to).has).take 32).length dP,.int .i64 (k.ls.getD to []).length,.int .i64 k.mr.length,.int .u32 0]::Sl 5 1 cY (((k.ls.getD k.me []).drop (au k to).has).take 32).length dP (bc (((k.ls.getD k.me []).drop (au k to).has).take 32))::aa b4 124 [.int .i64 0,.int .i64 0,.slice none 0 0]::aa B.cb 257 (iv k B A)::Sl 259 5 (some ⟨B.bp,B.op,none⟩) k.ps.length A.cP (rows iD k.ps)::Sl 100 1 A.cd k.mr.length A.cM (c0 k.mr)::Sl 135 1 A.adE k.ev.length A.cE (k.ev.map cA)::Qu B.qb B.aB k.ls::L)) ?_ ?_
 ·
  refine aX 0 (λw0 w'=>Rd w' B.cb 0 (iv k B A)∧Rd w' b5 0 [.int .i64 1,.int .i64 0,.int .i64 0,.int .i64 0,.int .i64 (au k to).has,.slice none 0 0,.int .i64 (k.ls.getD to []).length,.int .i64 k.mr.length,.int .u32 0]) [8,9,11] [0,1,2,4,5,6,7,10,3003,3008,3011,1009,1012,13,1014] E I λa w E I hH=>?_;have hC:=hH.at w ⟨I.ai (b:=B.cb),I.ai (b:=b5)⟩;refine RH 8 E I hH hC λa E=>?_;refine QH E (λw hc=>ae E (hc.1 10 _ rfl)) hC λa E=>?_;refine QH E (λw hc=>ae E (hc.1 1 _ rfl)) hC λa E=>?_;refine QH E (λw hc=>ae E (hc.2 4 _ rfl)) hC λa E=>?_;refine RH 0 E I hH hC λa E=>?_;refine CL 0 E I (sZ (I.pick (Qu B.qb B.aB k.ls)) ej) λa w E I=>?_;replace hC:=hH.at w ⟨I.ai (b:=B.cb),I.ai (b:=b5)⟩;refine RH 0 E I hH hC λa E=>?_;refine aY 0 E I (Yt (k:=32) (I.pick (Qu B.qb B.aB k.ls)) ej l6 iq.1 (by decide)) λcY dP a w E I=>?_;refine ST 1 E I (λa w E I=>?_);refine RN 0 E I λa E=>?_;exact⟨cY,dP,E.ab [0,1,4,5],I.sub⟩
 clear E;(try clear I);rintro a w ⟨cY,dP,E,I⟩;refine b7 (M:=λa w=>Fr a 62 [(0,pt B.cb),(1,.int .i64 to),(4,pt b4),(5,pt b5)]∧U W w (aa b5 203 [.int .i64 1,.int .i64 0,.int .i64 0,.int .i64 0,.int .i64 (au k to).has,.slice cY (((k.ls.getD k.me []).drop (au k to).has).take 32).length dP,.int .i64 (k.ls.getD to []).length,.int .i64 k.mr.length,.int .u32 (k.mr.getLastD 0:Nat)]::Sl 5 1 cY (((k.ls.getD k.me []).drop (au k to).has).take 32).length dP (bc (((k.ls.getD k.me []).drop (au k to).has).take 32))::aa b4 124 [.int .i64 0,.int .i64 0,.slice none 0 0]::az B k::L)) ?_ ?_
 ·
  refine IF 10 E I (λaj a E=>?_) λaj a E=>?_
  ·
   obtain⟨Fb,Fc,Fh,lz⟩:=(I.pick (Sl 100 1 A.cd k.mr.length A.cM (c0 k.mr))).bU A.cd (by omega);refine RN 4 E I λa E=>?_;rw[Fh]at E;refine RN 2 E I λa E=>?_;rw[show ((k.mr.length:Nat):Int)-1=((k.mr.length-1:Nat):Int) from by omega]at E;refine RN 1 E I λa E=>?_;refine SS E (ae E (lz (k.mr.length-1) _ (AS (by omega)))) λa E=>?_;refine ST 1 E I (λa w E I=>?_);refine RN 0 E I λa E=>?_;rw[Ld (by omega)]at I;exact⟨E.ab [0,1,4,5],(az.fold I B k A).sub⟩
  refine RN 0 E I λa E=>?_;have h0:k.mr.getLastD 0=0:=by rw[gT (l:=k.mr) (by omega)];rfl
  exact⟨E.ab [0,1,4,5],by rw[h0];exact (az.fold I B k A).sub⟩
 clear E;(try clear I);rintro a w ⟨E,I⟩;refine aY 4 E I (Lc (p:=⟨1,0,0,0,(au k to).has,(k.ls.getD to []).length,k.mr.length,k.mr.getLastD 0,((k.ls.getD k.me []).drop (au k to).has).take 32⟩) (adP:=cY) (c:=dP) (I.pick (az B k)) (by
  show k.mr.getLastD 0<4294967296;rw[getLastD_eq_getLast?];cases hl:k.mr.getLast? with
  | none=>decide
  | some s=>exact hk.rB s (List.mem_of_getLast? hl)) (λw' hw=>(hw.pick (Sl 5 1 cY (((k.ls.getD k.me []).drop (au k to).has).take 32).length dP (bc (((k.ls.getD k.me []).drop (au k to).has).take 32)))).cr cY _ rfl rfl)) λad2 c2 a w E I=>?_
 rw[YS]at E I;refine SA 0 E I λa w E I=>?_;refine RT 0 E I ?_;exact⟨ad2,c2,rfl,I.sub⟩
def AT (k:Ks)(j:Nat):List Ml:=((bF k).take j).map λi=>(k.me,i,aR (dL k i))
def AU (k:Ks)(j:Nat):List Ml:=((bF k).take j).map λi=>(k.me,i,aR (im k i))
theorem Lf (k:Ks):(bF k).length≤k.n:=Lb k k.n
theorem YV (I:U W w (az B k::L))(hk:WC k):Calls prog 298 #[pt B.cb] w λr w'=>∃ ad c,r=.returned (.slice ad (cx k).1.length c)∧U W w' (ch 124 ad (cx k).1.length c (cx k).1::az B (cx k).2::L):=by
 have hn:=hk.n;have dU:=Lf k;refine EN func298 ntmps298 rfl rfl λa E=>?_;refine CL 5 E I (yp I) λa w E I=>?_;refine IF 0 E I (λaj a E=>?_) λaj a E=>?_
 ·
  refine RT 2 E I ?_;exact⟨none,0,by rw[cx,ak aj];rfl,by rw[cx,ak aj];exact ch.nil I⟩
 have hq:cx k=((bF k).map λi=>(k.me,i,aR (im k i)),{ k with cl:=true }):=by rw[cx,ag (by rw[aj];decide)]
 obtain⟨A,I⟩:=az.open I;refine ST 4 E I (λa w E I=>?_);refine RN 0 E I λa E=>?_;replace I:=az.mk' (B:=B) (L':=L) (k:={ k with cl:=true }) I A;refine aY 5 E I (Fg I (by exact (hk.ow).1 |> λh=>by rw[hq]at h;exact h)) λmy co a w E I=>?_;refine RN 2 E I λa E=>?_;replace I:=U.bN (U.iK (f:=b6) I) 124 3 none;replace E:Fr a 27 ((14,.int .i64 (0:Nat))::(13,.int .i64 (bF k).length)::(12,.slice my (bF k).length co)::(3,.slice none 0 0)::(0,pt B.cb)::[]):=E.ab [14,13,12,3,0];refine aO (λμ a w=>∃ (j:Nat) (xs:List Mx) (ad:Option Addr) (c:Nat),(μ=(bF k).length-j∧j≤(bF k).length∧xs.map (·.2.2)=AU k j∧xs.length=j)∧Fr a 27 [(0,pt B.cb),(3,.slice ad j c),(12,.slice my (bF k).length co),(13,.int .i64 (bF k).length),(14,.int .i64 j)]∧U W w (Sl 124 3 ad j c (rows b0 xs)::ah b6 xs::Sl 3 1 my (bF k).length co (mx (bF k))::az B { k with cl:=true }::L)) ((bF k).length) (⟨0,[],none,0,⟨rfl,by omega,rfl,rfl⟩,E.ab [0,3,12,13,14],I⟩) ?_;clear E I;rintro μ a w ⟨j,xs,ad,c,⟨rfl,hj,eA,bV⟩,E,I⟩;refine IF 3 E I (λao a E=>?_) λao a E=>?_
 ·
  obtain⟨i,hi⟩:∃ i,(bF k)[j]?=some i:=⟨_,aD (by omega)⟩;obtain⟨kH,oo,rfl,gC⟩:=(I.pick (Sl 3 1 my (bF k).length co (mx (bF k)))).bU my (by omega);refine RN 3 E I λa E=>?_;refine SS E (ae E (gC j _ (Fe hi))) λa E=>?_;refine aY 5 E I (Lc (k:={ k with cl:=true }) (to:=i) (p:=⟨2,0,0,0,0,0,0,0,[]⟩) (adP:=none) (c:=0) (I.pick (az B { k with cl:=true })) (by decide) (λw' hw=>aT.nil)) λad2 c2 a w E I=>?_;rw[show s4 { k with cl:=true } i ⟨2,0,0,0,0,0,0,0,[]⟩=im k i from rfl]at E I;refine RN 0 E I λa E=>?_;refine cn E rfl I underlying108 Ty.t124 rfl rfl rfl rfl (by decide) (by decide) λxT a w E I ho=>?_;clear ho;refine RN 0 E I λa E=>?_;refine cK E rfl I underlying108 Ty.t124 rfl rfl I.ai rfl (by simp[Value.oneCell']) (by decide) (by decide) (by omega) λLg Lh a w E I=>?_;rw[show rows b0 xs++_=rows b0 (xs++[(ad2,c2,(k.me,i,aR (im k i)))]) from by rw[kh];rfl]at I;refine RN 3 E I λa E=>?_;have dv:=U.jL (f:=b6) (x:=(ad2,c2,(k.me,i,aR (im k i)))) (I.sub (M:=b6 (ad2,c2,(k.me,i,aR (im k i)))::ah b6 xs::Sl 124 3 Lg (j+1) Lh (rows b0 (xs++[(ad2,c2,(k.me,i,aR (im k i)))]))::Sl 3 1 (some ⟨kH,oo,none⟩) (bF k).length co (mx (bF k))::az B { k with cl:=true }::L));exact⟨(bF k).length-(j+1),by omega,j+1,xs++[(ad2,c2,(k.me,i,aR (im k i)))],Lg,Lh,⟨rfl,by omega,by
   have eh:j<(bF k).length:=by omega
   rw[cW,eA,AU,AU,iZ eh,cW,(a2.1 hi).2];rfl,by rw[aL,bV];rfl⟩,E.ab [0,3,12,13,14],dv.sub⟩
 refine RT 3 E I ?_;obtain rfl:j=(bF k).length:=by omega
 rw[AU,take_length]at eA;have gD:((bF k).map λi=>(k.me,i,aR (im k i))).length=(bF k).length:=a8 _;rw[hq];refine⟨ad,c,by rw[gD],?_⟩;rw[gD];exact ch.close (xs:=xs) I.sub eA gD
end
theorem Li {α:Type}{p:α→Bool}:∀ {l:List α} {j:Nat} {x:α},(∀ y∈l.take j,p y=false)→l[j]?=some x→p x=true→l.find? p=some x
 | [],j,x,_,h,_=>by simp at h
 | y::l,0,x,_,h,hp=>by
  obtain rfl:y=x:=by simpa using h
  rw[List.find?_cons,hp]
 | y::l,j+1,x,E,h,hp=>by
  rw[List.find?_cons,E y (by simp)];exact Li (j:=j) (λz hz=>E z (by rw[take_succ_cons];exact gJ _ hz)) (by simpa using h) hp
theorem Lj {α:Type}{p:α→Bool}{l:List α}(h:∀ y∈l,p y=false):l.find? p=none:=by
 rw[List.find?_eq_none];intro y hy hp;rw[h y hy]at hp;cases hp
section
variable {W w:World}{L L' R:List SP}{n c i e to:Nat}{ad adP:Option Addr}{k:Ks}{A:oz}{B:pE}{x:UInt8}{p:Pk}{bs:List UInt8}
theorem YW (I:U W w (az B k::L))(hk:WC k)(oV:k.now≤1000000):Calls prog 300 #[pt B.cb] w λr w'=>∃ ad c,r=.returned (.slice ad (bo k).1.length c)∧U W w' (ch 124 ad (bo k).1.length c (bo k).1::az B (bo k).2::L):=by
 have hn:=hk.n;refine EN func300 ntmps300 rfl rfl λa E=>?_;refine CL 5 E I (yp I) λa w E I=>?_;refine IF 0 E I (λaj a E=>?_) λaj a E=>?_
 ·
  refine RT 2 E I ?_;exact⟨none,0,by rw[bo,ak aj];rfl,by rw[bo,ak aj];exact ch.nil I⟩
 have hq:bo k=(match (bF { k with now:=k.now+1 }).find? (λi=>decide (jk { k with now:=k.now+1 } i)) with
  | some i=>([],{ k with now:=k.now+1,ev:=k.ev++[(2,i,0)],cl:=true })
  | none=>((bF { k with now:=k.now+1 }).map λi=>(k.me,i,aR (dL { k with now:=k.now+1 } i)),{ k with now:=k.now+1 })):=by rw[bo,ag (by rw[aj];decide)];rfl
 obtain⟨A,I⟩:=az.open I;refine RN 6 E I λa E=>?_;rw[show ((k.now:Nat):Int)+1=((k.now+1:Nat):Int) from by omega]at E;refine ST 2 E I (λa w E I=>?_);refine RN 0 E I λa E=>?_;replace I:=az.fold I B { k with now:=k.now+1 } A;have eV:WC { k with now:=k.now+1 }:=hk.AO;have pF:=hk.kA;have Fi:({ k with now:=k.now+1 }:Ks).now≤1000001:=by show k.now+1≤_;omega
 have Fj:({ k with now:=k.now+1 }:Ks).ev.length≤9:=pF;have ic:bo k=(match (bF { k with now:=k.now+1 }).find? (λi=>decide (jk { k with now:=k.now+1 } i)) with
  | some i=>([],{ ({ k with now:=k.now+1 }:Ks) with ev:=({ k with now:=k.now+1 }:Ks).ev++[(2,i,0)],cl:=true })
  | none=>((bF { k with now:=k.now+1 }).map λi=>(({ k with now:=k.now+1 }:Ks).me,i,aR (dL { k with now:=k.now+1 } i)),{ k with now:=k.now+1 })):=hq
 clear hq;have Fk:2≤({ k with now:=k.now+1 }:Ks).n∧({ k with now:=k.now+1 }:Ks).n≤8:=hn;generalize ({ k with now:=k.now+1 }:Ks)=k1 at I eV ic Fi Fj Fk;have dU:=Lf k1;refine aY 5 E I (Fg I eV) λmy co a w E I=>?_;refine RN 2 E I λa E=>?_;replace E:Fr a 61 ((20,.int .i64 (0:Nat))::(19,.int .i64 (bF k1).length)::(18,.slice my (bF k1).length co)::(3,.slice none 0 0)::(0,pt B.cb)::[]):=E.ab [20,19,18,3,0];refine aO (λμ a w=>∃ (j:Nat),(μ=(bF k1).length-j∧j≤(bF k1).length∧∀ y∈(bF k1).take j,decide (jk k1 y)=false)∧Fr a 61 [(0,pt B.cb),(3,.slice none 0 0),(18,.slice my (bF k1).length co),(19,.int .i64 (bF k1).length),(20,.int .i64 j)]∧U W w (Sl 3 1 my (bF k1).length co (mx (bF k1))::az B k1::L)) ((bF k1).length) (⟨0,⟨rfl,by omega,λy hy=>by simp at hy⟩,E.ab [0,3,18,19,20],I⟩) ?_;clear E I;rintro μ a w ⟨j,⟨rfl,hj,bQ⟩,E,I⟩;refine IF 3 E I (λao a E=>?_) λao a E=>?_
 ·
  have eh:j<(bF k1).length:=by omega
  obtain⟨i,hi⟩:∃ i,(bF k1)[j]?=some i:=⟨_,aD eh⟩;obtain⟨kH,oo,rfl,gC⟩:=I.bU my (by omega);have cC:=(wy.1 (bG hi)).1;have iq:=eV.pC cC;have aH:i<k1.ps.length:=by rw[eV.ps];exact cC
  have q8:=az.rd (I.tail);obtain⟨cP,ez⟩:=q8.pl;refine RN 3 E I λa E=>?_;refine SS E (ae E (gC j _ (Fe hi))) λa E=>?_;refine RN 2 E I λa E=>?_;have qt:rE w.drew B k1:=az.rd (I.drew.tail);have tR:w.drew.cell? ⟨B.cb,11,none⟩=some (.slice (some ⟨B.bp,B.op,none⟩) k1.ps.length cP):=ez;refine qT 0 (Old w.drew) [7,9,10,11] [0,1,2,4,5,6,8,3003,1007,1009,1010,1011,12,13] E I λa E=>?_;replace I:=I.drew;have hH:=Hd.fX I;have hC:=Old.refl w.drew;generalize w.drew=w at I hH hC qt tR ⊢;refine RH 7 E I hH hC λa E=>?_;refine QH E (λw hc=>ae E (hc.cell (qt.now))) hC λa E=>?_;refine RH 0 E I hH hC λa E=>?_;refine SS E (ae E (tR)) λa E=>?_;refine RH 2 E I hH hC λa E=>?_;refine SS E (ae E (qt.pe i _ (uC aH) 1 _ rfl)) λa E=>?_;refine RH 2 E I hH hC λa E=>?_;refine IF 0 E I (λay a E=>?_) λay a E=>?_
  ·
   have hlt:jk k1 i:=by rw[jk];omega
   rw[Li bQ hi (dh hlt)]at ic;refine CL 4 E I (Fa (e:=(2,i,0)) (I.pick (az B k1)) ⟨by simp,by simp,by show i<8;omega,by simp,.inr rfl⟩ (by omega)) λa w E I=>?_;refine RN 1 E I λa E=>?_;obtain⟨A2,I⟩:=az.open I;refine ST 3 E I (λa w E I=>?_);refine RN 0 E I λa E=>?_;replace I:=az.fold I B { k1 with ev:=k1.ev++[(2,i,0)],cl:=true } A2;refine RT 2 E I ?_;rw[ic];exact⟨none,0,rfl,ch.nil I.sub⟩
  have hlt:¬ jk k1 i:=by rw[jk];omega
  refine RN 2 E I λa E=>?_;exact⟨(bF k1).length-(j+1),by omega,j+1,⟨rfl,by omega,λy hy=>by
   rw[iZ eh,eN,mem_singleton]at hy;rcases hy with hy | rfl
   ·exact bQ y hy
   ·rw[(a2.1 hi).2];exact bn hlt⟩,E.ab [0,3,18,19,20],I⟩
 obtain rfl:j=(bF k1).length:=by omega
 rw[take_length]at bQ;rw[Lj bQ]at ic;clear bQ;refine aY 3 E I (Fg (I.tail) eV) λyt yu a w E I=>?_;refine RN 2 E I λa E=>?_;replace I:=U.bN (U.iK (f:=b6) I) 124 3 none;replace E:Fr a 61 ((49,.int .i64 (0:Nat))::(48,.int .i64 (bF k1).length)::(47,.slice yt (bF k1).length yu)::(3,.slice none 0 0)::(0,pt B.cb)::[]):=E.ab [49,48,47,3,0];refine aO (λμ a w=>∃ (j:Nat) (xs:List Mx) (ad:Option Addr) (c:Nat),(μ=(bF k1).length-j∧j≤(bF k1).length∧xs.map (·.2.2)=AT k1 j∧xs.length=j)∧Fr a 61 [(0,pt B.cb),(3,.slice ad j c),(47,.slice yt (bF k1).length yu),(48,.int .i64 (bF k1).length),(49,.int .i64 j)]∧U W w (Sl 124 3 ad j c (rows b0 xs)::ah b6 xs::Sl 3 1 yt (bF k1).length yu (mx (bF k1))::az B k1::L)) ((bF k1).length) (⟨0,[],none,0,⟨rfl,by omega,rfl,rfl⟩,E.ab [0,3,47,48,49],I⟩) ?_;clear E I;rintro μ a w ⟨j,xs,ad,c,⟨rfl,hj,eA,bV⟩,E,I⟩;refine IF 3 E I (λbk a E=>?_) λbk a E=>?_
 ·
  obtain⟨i,hi⟩:∃ i,(bF k1)[j]?=some i:=⟨_,aD (by omega)⟩;obtain⟨kH,oo,rfl,gC⟩:=(I.pick (Sl 3 1 yt (bF k1).length yu (mx (bF k1)))).bU yt (by omega);have cC:=(wy.1 (bG hi)).1;refine RN 3 E I λa E=>?_;refine SS E (ae E (gC j _ (Fe hi))) λa E=>?_;refine aY 4 E I (YT (to:=i) (I.pick (az B k1)) eV cC) λad2 c2 a w E I=>?_;refine RN 0 E I λa E=>?_;refine cn E rfl I underlying108 Ty.t124 rfl rfl rfl rfl (by decide) (by decide) λb57 a w E I ho=>?_;clear ho;refine RN 0 E I λa E=>?_;refine cK E rfl I underlying108 Ty.t124 rfl rfl I.ai rfl (by simp[Value.oneCell']) (by decide) (by decide) (by omega) λLl Lm a w E I=>?_;rw[show rows b0 xs++_=rows b0 (xs++[(ad2,c2,(k1.me,i,aR (dL k1 i)))]) from by rw[kh];rfl]at I;refine RN 3 E I λa E=>?_;have dv:=U.jL (f:=b6) (x:=(ad2,c2,(k1.me,i,aR (dL k1 i)))) (I.sub (M:=b6 (ad2,c2,(k1.me,i,aR (dL k1 i)))::ah b6 xs::Sl 124 3 Ll (j+1) Lm (rows b0 (xs++[(ad2,c2,(k1.me,i,aR (dL k1 i)))]))::Sl 3 1 (some ⟨kH,oo,none⟩) (bF k1).length yu (mx (bF k1))::az B k1::L));exact⟨(bF k1).length-(j+1),by omega,j+1,xs++[(ad2,c2,(k1.me,i,aR (dL k1 i)))],Ll,Lm,⟨rfl,by omega,by
   have eh:j<(bF k1).length:=by omega
   rw[cW,eA,AT,AT,iZ eh,cW,(a2.1 hi).2];rfl,by rw[aL,bV];rfl⟩,E.ab [0,3,47,48,49],dv.sub⟩
 refine RT 3 E I ?_;obtain rfl:j=(bF k1).length:=by omega
 rw[AT,take_length]at eA;have gD:((bF k1).map λi=>(k1.me,i,aR (dL k1 i))).length=(bF k1).length:=a8 _;rw[ic];refine⟨ad,c,by rw[gD],?_⟩;rw[gD];exact ch.close (xs:=xs) I.sub eA gD
theorem WC.peer (h:WC k){q:Pe}(hi:i<k.n)(hq:q.has≤1000∧q.frame≤1000∧q.sum<4294967296)(hh:q.heard≤k.now)(E:q.apart=(au k i).apart):WC { k with ps:=k.ps.set i q } :=
 h.AK (ev:=k.ev) (cl:=k.cl) hq hh h.bx (by rw[EW (by rw[h.ps];exact hi) E];exact h.ov)
theorem WC.line (h:WC k){l:List UInt8}(hl:l.length≤1000):WC { k with ls:=k.ls.set i l } :=
 { h with
  ls:=by show (k.ls.set i l).length=_;rw[bu];exact h.ls
  m5:=λy hy=>by
   rcases mem_set hy with hy | rfl
   ·exact h.m5 y hy
   ·exact hl }
theorem Lo {ls:List (List UInt8)}{i j:Nat}{l:List UInt8}(h:i≠j):(ls.set i l).getD j []=ls.getD j []:=by
 rw[bl,getElem?_set_ne h,← bl]
theorem az.Lp (I:U W w L)(B:pE)(k:Ks)(A:oz)(q1 q2:Pe)[kk:fC L [aa B.cb 257 (iv { k with ps:=k.ps.set i q1 } B A),Sl 259 5 (some ⟨B.bp,B.op,none⟩) (k.ps.set i q1).length A.cP (rows iD (k.ps.set i q2)),Sl 100 1 A.cd k.mr.length A.cM (c0 k.mr),Sl 135 1 A.adE k.ev.length A.cE (k.ev.map cA),Qu B.qb B.aB k.ls] R]:U W w (az B { k with ps:=k.ps.set i q2 }::R):=by
 have h1:=I.perm kk.perm;rw[show iv { k with ps:=k.ps.set i q1 } B A=iv { k with ps:=k.ps.set i q2 } B A from by simp only[iv,bu],show (k.ps.set i q1).length=(k.ps.set i q2).length from by simp only[bu]]at h1;exact az.close (A:=A) h1
theorem az.YX (I:U W w L)(B:pE)(k:Ks)(A:oz)(q2:Pe)[kk:fC L [aa B.cb 257 (iv k B A),Sl 259 5 (some ⟨B.bp,B.op,none⟩) k.ps.length A.cP (rows iD (k.ps.set i q2)),Sl 100 1 A.cd k.mr.length A.cM (c0 k.mr),Sl 135 1 A.adE k.ev.length A.cE (k.ev.map cA),Qu B.qb B.aB k.ls] R]:U W w (az B { k with ps:=k.ps.set i q2 }::R):=by
 have h1:=I.perm kk.perm;rw[show iv k B A=iv { k with ps:=k.ps.set i q2 } B A from by simp only[iv,bu],show k.ps.length=(k.ps.set i q2).length from by simp only[bu]]at h1;exact az.close (A:=A) h1
theorem AV (h:k.cl=true):dx bs k=(6,k):=by rw[dx,ak h]
theorem Lq (h:k.cl=false)(hd:ep bs=none):dx bs k=(1,k):=by rw[dx,ag (by rw[h];decide),hd]
theorem wB (h:k.cl=false)(hd:ep bs=some p)(hx:p.to≠k.me∨(k.n:Int)≤p.aW∨p.id≠k.id):dx bs k=(1,k):=by
 rw[dx,ag (by rw[h];decide),hd];show (if _ then _ else _)=_;rw[ak hx]
theorem Lr (h:k.cl=false)(hd:ep bs=some p)(hx:¬ (p.to≠k.me∨(k.n:Int)≤p.aW∨p.id≠k.id)):dx bs k=(0,fP k p):=by
 rw[dx,ag (by rw[h];decide),hd];show (if _ then _ else _)=_;rw[ag hx]
set_option maxHeartbeats 2000000 in
theorem YY (I:U W w (az B k::L))(hk:WC k)(hb:bs.length≤65536)(hc:bs.length≤c)(hp:∀ w',U W w' L→aT w' ad bs.length bs) :
   Calls prog 299 #[pt B.cb,.slice ad bs.length c] w λr w'=>r=.returned (.int .i64 (dx bs k).1)∧U W w' (az B (dx bs k).2::L):=by
 have hn:=hk.n;refine EN func299 ntmps299 rfl rfl λa E=>?_;refine CL 5 E I (yp I) λa w E I=>?_;refine IF 0 E I (λaj a E=>?_) λaj a E=>?_
 ·
  refine RT 2 E I ?_;exact⟨by rw[AV aj],by rw[AV aj];exact I⟩
 refine jO 2 E I (X6 I hb hc (λw' hw=>hp w' hw.tail)) ?_;clear E I;rintro e w ⟨p,adP,cP,ok,rfl,hd,I⟩;refine⟨_,rfl,λa E=>?_⟩;refine AL 3 E I λb5 a w E I=>?_;refine SA 0 E I λa w E I=>?_;refine RN 3 E I λa E=>?_;obtain⟨A,I⟩:=az.open (I.pick (az B k));refine bP 0 [9,19,29] [0,1,2,3,5,6,7,8,3004,1009,10,11,12,13,15,16,17,18,3014,1019,20,21,22,23,25,26,27,28,3024,1029,30,31] E I λa w E I hH hC=>?_;refine RH 3 E I hH hC λa E=>?_;refine E.by (s:=17) (λbD E=>?_) (λbD E=>?_)
 ·
  have dm:ok=false:=by cases ok with | false=>rfl | true=>exact absurd rfl bD
  have c6:ep bs=none:=by
   rcases hd with ⟨h,_⟩ | ⟨_,h,_⟩
   ·rw[dm]at h;cases h
   ·exact h
  refine RH 29 E I hH hC λa E=>?_;refine RT 3 E I ?_;rw[Lq aj c6];exact⟨rfl,(az.fold I B k A).sub⟩
 have dm:ok=true:=by cases ok with | true=>rfl | false=>exact absurd bD (by decide)
 have pG:ep bs=some p:=by
  rcases hd with ⟨_,h⟩ | ⟨h,_⟩
  ·exact h
  ·rw[dm]at h;cases h
 obtain⟨s6,gB,_⟩:=Em pG;have Fl:=s6.1;refine RH 10 E I hH hC λa E=>?_;refine E.by (s:=27) (λhX E=>?_) (λhX E=>?_)
 ·
  refine RH 19 E I hH hC λa E=>?_;refine RT 3 E I ?_;rw[wB aj pG (.inl hX)];exact⟨rfl,(az.fold I B k A).sub⟩
 refine RH 10 E I hH hC λa E=>?_;refine E.by (s:=37) (λpy E=>?_) (λpy E=>?_)
 ·
  refine RH 9 E I hH hC λa E=>?_;refine RT 3 E I ?_;rw[wB aj pG (.inr (.inl py))];exact⟨rfl,(az.fold I B k A).sub⟩
 refine RH 9 E I hH hC λa E=>?_;refine IF 0 E I (λao a E=>?_) λao a E=>?_
 ·
  refine RT 2 E I ?_;rw[wB aj pG (.inr (.inr ao))];exact⟨rfl,(az.fold I B k A).sub⟩
 have bQ:¬ (p.to≠k.me∨(k.n:Int)≤p.aW∨p.id≠k.id):=by
  rintro (h | h | h)
  ·exact h hX
  ·omega
  ·exact h ao
 rw[Lr aj pG bQ];clear hd dm;obtain⟨fr,fo⟩:=Int.eq_ofNat_of_zero_le Fl.1;have g4:fr<k.n:=by omega
 have dY:fr<k.ls.length:=by rw[hk.ls];exact g4
 have m7:fr<k.ps.length:=by rw[hk.ps];exact g4
 have Fm:fr≠k.me:=by have:=s6.2.2.1;omega
 have iq:=hk.pC g4;have jE:p.aW.toNat=fr:=by omega
 refine bP 1 [5] [0,1,2,4,3003,1005,6,7] E I λa w E I hH hC=>?_;refine RH 6 E I hH hC λa E=>?_;rw[fo]at E;refine RH 2 E I hH hC λa E=>?_;refine RN 8 E I λa E=>?_;refine l3 (off:=B.op) (k:=fr*5+1) E rfl I Ty.t3 rfl (by omega) (by rw[iY jF];omega) λa w E I=>?_;rw[p3 jF k.ps { au k fr with heard:=k.now } m7 (by decide) (by rw[K9 m7];rfl)]at I;have b9:=hk.peer (q:={ au k fr with heard:=k.now }) g4 ⟨iq.1,iq.2.2⟩ (bd _) rfl;replace I:=az.YX (i:=fr) I B k A { au k fr with heard:=k.now };refine IF 5 E I (λay a E=>?_) λay a E=>?_
 ·
  refine RN 4 E I λa E=>?_;rw[fo]at E;refine CL 1 E I (Fa (e:=(1,fr,0)) I ⟨by simp,by simp,by show fr<8;omega,by simp,.inr rfl⟩ (by have:=hk.kA;show k.ev.length≤100;omega)) λa w E I=>?_;refine RN 1 E I λa E=>?_;obtain⟨A2,I⟩:=az.open I;refine ST 3 E I (λa w E I=>?_);refine RN 0 E I λa E=>?_;replace I:=az.fold I B { k with ps:=k.ps.set fr { au k fr with heard:=k.now },ev:=k.ev++[(1,fr,0)],cl:=true } A2;refine RT 2 E I ?_;refine⟨rfl,?_⟩;rw[fP,ak ay,jE];exact I.sub
 refine RN 1 E I λa E=>?_;have gX:eD p.first∧eD p.c7∧eD p.frame∧p.al.length≤32:=by
  rcases s6.2.2.2.2 with h | h
  ·exact h.2
  ·exact absurd h.1 ay
 simp only[eD]at gX;obtain⟨fi,wC⟩:=Int.eq_ofNat_of_zero_le gX.1.1;obtain⟨jm,AW⟩:=Int.eq_ofNat_of_zero_le gX.2.1.1;obtain⟨j6,Fo⟩:=Int.eq_ofNat_of_zero_le gX.2.2.1.1;obtain⟨D,I,hD⟩:=az.E9 I;have Ls:∀ w' L',U W w' (Qu B.qb B.aB k.ls::D::L')→rE w' B { k with ps:=k.ps.set fr { au k fr with heard:=k.now } }:=λw' L' h=>az.rd (hD w' L' _ h);refine aX 0 (λw0 w'=>Rd w' b5 0 (dK p adP cP)∧rE w' B { k with ps:=k.ps.set fr { au k fr with heard:=k.now } }) [5,6,8,10] [0,1,2,4,7,9,3003,3005,3008,3010,1006,1011] E I λa w E I hH=>?_;have hC:=hH.at w ⟨I.ai (b:=b5),Ls _ _ I⟩;refine RH 6 E I hH hC λa E=>?_;refine QH E (λw hc=>ae E (hc.2.cf 10 _ rfl)) hC λa E=>?_;refine QH E (λw hc=>ae E (hc.1 1 _ rfl)) hC λa E=>?_;rw[fo]at E;refine RH 0 E I hH hC λa E=>?_;refine QH E (λw hc=>ae E (hc.1 4 _ rfl)) hC λa E=>?_;rw[wC]at E;refine RH 0 E I hH hC λa E=>?_;refine QH E (λw hc=>ae E (hc.1 5 _ rfl)) hC λa E=>?_;refine RH 0 E I hH hC λa E=>?_;refine CL 0 E I (sZ I dY) λa w E I=>?_;replace hC:=hH.at w ⟨I.ai (b:=b5),Ls _ _ I⟩;refine RH 0 E I hH hC λa E=>?_;refine aY 0 E I (Ys (fr:=fi) (bs:=p.al) I dY (hk.lT g4) (by omega) (λw' hw=>(hw.pick (Sl 5 1 adP p.al.length cP (bc p.al))).cr adP p.al rfl rfl)) λLt er a w E I=>?_;refine RN 0 E I λa E=>?_;replace I:=hD _ _ _ I;have l8:=b9.line (i:=fr) (l:=dr (k.ls.getD fr []) fi p.al) (rz (hk.lT g4)).2;have gP:aE ({ k with ls:=k.ls.set fr (dr (k.ls.getD fr []) fi p.al),ps:=k.ps.set fr { au k fr with heard:=k.now } }:Ks)=aE k:=by
  show ((k.ls.set fr _).getD k.me []).length=_;rw[Lo Fm];rfl
 have wD:(k.ps.set fr { au k fr with heard:=k.now })[fr]?=some { au k fr with heard:=k.now }:=getElem?_set_self m7;refine b7 (M:=λa w=>∃ hh:Nat,hh=(if (au k fr).has<jm∧jm≤aE k then jm else (au k fr).has)∧Fr a 127 [(0,pt B.cb),(5,pt b5),(7,.pointer (some ⟨B.bp,B.op+fr*5,none⟩))]∧U W w (az B { k with ls:=k.ls.set fr (dr (k.ls.getD fr []) fi p.al),ps:=k.ps.set fr { au k fr with heard:=k.now,has:=hh } }::aa b5 203 (dK p adP cP)::L)) ?_ ?_
 ·
  refine aX 1 (λw0 w'=>Rd w' b5 0 (dK p adP cP)∧rE w' B { k with ls:=k.ls.set fr (dr (k.ls.getD fr []) fi p.al),ps:=k.ps.set fr { au k fr with heard:=k.now } }) [5,11] [0,2,3,4,3001,1005,6,7,8,10,3009,1011,12,13] E I λa w E I hH=>?_;have hC:=hH.at w ⟨I.ai (b:=b5),az.rd I⟩;refine RH 4 E I hH hC λa E=>?_;refine QH E (λw hc=>ae E (hc.1 6 _ rfl)) hC λa E=>?_;refine RH 0 E I hH hC λa E=>?_;refine SS E (ae E (hC.2.pe fr _ wD 0 (.int .i64 (au k fr).has) rfl)) λa E=>?_;refine RH 2 E I hH hC λa E=>?_;refine E.by (s:=91) (λjC E=>?_) (λjC E=>?_)
  ·
   refine RH 2 E I hH hC λa E=>?_;refine QH E (λw hc=>ae E (hc.1 6 _ rfl)) hC λa E=>?_;refine RH 0 E I hH hC λa E=>?_;refine CL 0 E I (s3 I l8) λa w E I=>?_;replace hC:=hH.at w ⟨I.ai (b:=b5),az.rd I⟩;rw[gP]at E;refine RH 2 E I hH hC λa E=>?_;refine IF 0 E I (λbk a E=>?_) λbk a E=>?_
   ·
    obtain⟨A2,I⟩:=az.open I;refine RN 3 E I λa E=>?_;rw[AW]at E;refine RN 2 E I λa E=>?_;refine l3 (off:=B.op) (k:=fr*5+0) E rfl I Ty.t3 rfl (by omega) (by rw[iY jF,bu];omega) λa w E I=>?_;rw[p3 jF (k.ps.set fr { au k fr with heard:=k.now }) { au k fr with heard:=k.now,has:=jm } (by rw[bu];exact m7) (by decide) (by rw[getElem_set_self];rfl),set_set]at I;replace I:=az.Lp (i:=fr) I B { k with ls:=k.ls.set fr (dr (k.ls.getD fr []) fi p.al) } A2 { au k fr with heard:=k.now } { au k fr with heard:=k.now,has:=jm };refine RN 0 E I λa E=>?_;exact⟨jm,by rw[ak ⟨by omega,by omega⟩],E.ab [0,5,7],I.sub⟩
   refine RN 0 E I λa E=>?_;exact⟨_,by rw[ag (by omega)],E.ab [0,5,7],I.sub⟩
  refine RH 6 E I hH hC λa E=>?_;refine RN 1 E I λa E=>?_;exact⟨_,by rw[ag (by omega)],E.ab [0,5,7],I.sub⟩
 clear E;(try clear I);rintro a w ⟨hh,yv,E,I⟩;refine b7 (M:=λa w=>∃ q:Pe,(q=fO k.now (aE k) p (au k fr)∧WC { k with ls:=k.ls.set fr (dr (k.ls.getD fr []) fi p.al),ps:=k.ps.set fr q })∧Fr a 127 [(0,pt B.cb)]∧U W w (az B { k with ls:=k.ls.set fr (dr (k.ls.getD fr []) fi p.al),ps:=k.ps.set fr q }::aa b5 203 (dK p adP cP)::L)) ?_ ?_
 ·
  refine bP 1 [9] [0,1001,2,3,4,6,7,8,3005,1009,10,11] E I λa w E I hH hC=>?_;have wE:(k.ps.set fr { au k fr with heard:=k.now,has:=hh })[fr]?=some { au k fr with heard:=k.now,has:=hh }:=getElem?_set_self m7;have q8:rE w B { k with ls:=k.ls.set fr (dr (k.ls.getD fr []) fi p.al),ps:=k.ps.set fr { au k fr with heard:=k.now,has:=hh } }:=az.rd I;have Fp:p.c7.toNat=jm:=by omega
  have Fq:p.frame.toNat=j6:=by omega
  have hP:fO k.now (aE k) p (au k fr)=(if 0<p.frame∧((au k fr).frame:Int)≤p.frame then { au k fr with heard:=k.now,has:=hh,frame:=j6,sum:=p.sum } else { au k fr with heard:=k.now,has:=hh }):=by
   rw[fO,Fp,Fq,yv]
  have uE:hh≤1000:=by rw[yv];split <;> omega
  refine RH 4 E I hH hC λa E=>?_;refine E.by (s:=106) (λbW E=>?_) (λbW E=>?_)
  ·
   refine RH 5 E I hH hC λa E=>?_;refine bt E (cm E rfl (s:=106)) (ae E (q8.pe fr _ wE 2 (.int .i64 (au k fr).frame) rfl)) rfl λa E=>?_;refine RH 2 E I hH hC λa E=>?_;refine IF 0 E I (λbL a E=>?_) λbL a E=>?_
   ·
    refine RN 0 E I λa E=>?_;obtain⟨A3,I⟩:=az.open I;refine aX 0 (λw0 w'=>Rd w' b5 0 (dK p adP cP)) [5,8] [0,1,2,4,3003,6,7,3005,1008,9,10,1011] E I λa w E I hH=>?_;have hC:=hH.at w (I.ai (b:=b5));refine RH 4 E I hH hC λa E=>?_;refine QH E (λw hc=>ae E (hc 7 _ rfl)) hC λa E=>?_;rw[Fo]at E;refine RH 2 E I hH hC λa E=>?_;refine QH E (λw hc=>ae E (hc 8 _ rfl)) hC λa E=>?_;refine RH 0 E I hH hC λa E=>?_;refine l3 (off:=B.op) (k:=fr*5+2) E rfl I Ty.t3 rfl (by omega) (by rw[iY jF,bu];omega) λa w E I=>?_;replace hC:=hH.at w (I.ai (b:=b5));rw[p3 jF (k.ps.set fr { au k fr with heard:=k.now,has:=hh }) { au k fr with heard:=k.now,has:=hh,frame:=j6 } (by rw[bu];exact m7) (by decide) (by rw[getElem_set_self];rfl),set_set]at I;refine RH 2 E I hH hC λa E=>?_;refine l3 (off:=B.op) (k:=fr*5+3) E rfl I Ty.t100 rfl (by omega) (by rw[iY jF,bu];omega) λa w E I=>?_;rw[p3 jF (k.ps.set fr { au k fr with heard:=k.now,has:=hh,frame:=j6 }) { au k fr with heard:=k.now,has:=hh,frame:=j6,sum:=p.sum } (by rw[bu];exact m7) (by decide) (by rw[getElem_set_self];rfl),set_set]at I;replace I:=az.Lp (i:=fr) I B { k with ls:=k.ls.set fr (dr (k.ls.getD fr []) fi p.al) } A3 { au k fr with heard:=k.now,has:=hh } { au k fr with heard:=k.now,has:=hh,frame:=j6,sum:=p.sum };refine RN 0 E I λa E=>?_;exact⟨_,⟨by rw[hP,ak (by omega)],(hk.peer (q:={ au k fr with heard:=k.now,has:=hh,frame:=j6,sum:=p.sum }) g4 ⟨uE,by show j6≤1000;omega,gB⟩ (bd _) rfl).line (rz (hk.lT g4)).2⟩,E.ab [0],I.sub⟩
   refine RN 0 E I λa E=>?_;exact⟨_,⟨by rw[hP,ag (by omega)],(hk.peer (q:={ au k fr with heard:=k.now,has:=hh }) g4 ⟨uE,iq.2.2⟩ (bd _) rfl).line (rz (hk.lT g4)).2⟩,E.ab [0],I⟩
  refine RH 8 E I hH hC λa E=>?_;refine RN 1 E I λa E=>?_;exact⟨_,⟨by rw[hP,ag (by omega)],(hk.peer (q:={ au k fr with heard:=k.now,has:=hh }) g4 ⟨uE,iq.2.2⟩ (bd _) rfl).line (rz (hk.lT g4)).2⟩,E.ab [0],I⟩
 clear E;(try clear I);rintro a w ⟨q,⟨YZ,oj⟩,E,I⟩;refine CL 2 E I (La I oj) λa w E I=>?_;refine RT 2 E I ?_;refine⟨rfl,?_⟩;have yw:p.first.toNat=fi:=by omega
 rw[fP,ag ay,jE,yw,← YZ];exact I.sub
end
end
section
section
variable {W w:World}{L:List SP}{c cO cP q:Nat}{aq adP:Option Addr}{b:List UInt8}{g:Nat→Int}{p:Pr}{fr:Int}{bad:Bool}
def Jv (q:Nat)(g:Nat→Int)(bad:Bool):SP:=λh=>(dO g∧bad=false)∧aa q 296 (ints .i32 32 g) h
theorem Jv.open (I:U W w (Jv q g bad::L)):(dO g∧bad=false)∧U W w (aa q 296 (ints .i32 32 g)::L):=by
 obtain⟨_,h1,h2⟩:=I.jv (ι:=Unit) (p:=λ_=>dO g∧bad=false) (B:=λ_=>aa q 296 (ints .i32 32 g)) (λh ⟨h1,h2⟩=>⟨(),h1,h2⟩);exact⟨h1,h2⟩
theorem Jv.close (I:U W w (aa q 296 (ints .i32 32 g)::L))(h1:dO g):U W w (Jv q g false::L) :=
 U.shut (M:=[_]) I (λ_ ⟨_,_,_,a,b,x,_⟩=>⟨⟨h1,rfl⟩,a _ _ x⟩)
theorem Y0 {c:Nat}(hc:c<32)(I:U W w (Jv q g bad::L)):Calls prog 351 (List.toArray [pt q,.int .i64 c]) w λe w'=>e=.returned (.int .i32 (g c))∧U W w' (Jv q g bad::L):=by
 have hj:=Jv.open I;clear I;obtain⟨⟨h1,rfl⟩,I⟩:=hj;refine EN func351 ntmps351 rfl rfl λa E=>?_;refine RN 8 E I λa E=>?_;refine SS E (ae E (I.bz (fM _ hc))) λa E=>?_;refine RT 1 E I ?_;exact⟨rfl,Jv.close I h1⟩
theorem Y1 {c:Nat}{v:Int}(hc:c<32)(hv:dp v)(I:U W w (Jv q g bad::L)):Calls prog 352 (List.toArray [pt q,.int .i64 c,.int .i32 v]) w λe w' =>
   ∃ (g':Nat→Int) (fm:Bool),e=.returned (.tuple #[])∧((fm=true∧g'=g)∨(fm=false∧bad=false∧g'=cg g c v))∧U W w' (Jv q g' fm::L):=by
 have hj:=Jv.open I;clear I;obtain⟨⟨h1,rfl⟩,I⟩:=hj;refine EN func352 ntmps352 rfl rfl λa E=>?_;refine ST 6 E I (λa w E I=>?_) (hlt:=(by rw[de];exact hc));rw[ints_set]at I;refine RT 0 E I ?_;exact⟨cg g c v,false,rfl,.inr ⟨rfl,rfl,rfl⟩,Jv.close I (nA h1 hv)⟩
theorem Y2:xP W 294 ⟨q,0,none⟩ 351 352 (Jv q) where
 ob:=λad w=>by kernel_rfl
 oc:=(by kernel_rfl)
 zX:=λad w=>by kernel_rfl
 vz:=(by kernel_rfl)
 ok:=λw L g bad h=>(Jv.open h).1.1
 get:=λw L g bad c hc h=>Y0 hc h
 set:=λw L g bad c v hc hv h=>Y1 hc hv h
theorem Lu (I:U W w (aA W p aq cO::L))(a6:di p)(aG:p.title.size≤1000000000)(hg:dO g)(hb:b.length≤1099511627776)(hp:∀ w',U W w' L→aT w' adP b.length b) :
   Calls prog 137 #[.agg (bO p aq cO).toArray,.agg (ints .i32 32 g).toArray,.int .i64 fr,.slice adP b.length cP] w λe w'=>e=.returned (.agg (ints .i32 32 (eZ p fr b g)).toArray)∧U W w' (aA W p aq cO::L):=by
 refine EN func137 ntmps137 rfl rfl λa E=>?_;refine BX 1 E I λb4 a w E I=>?_;change U W w (aa b4 45 (bO p aq cO)::_) at I;refine BX 0 E I λb5 a w E I=>?_;refine AL 0 E I λb8 a w E I=>?_;change U W w (aa b8 183 (ints .i32 32 (λ_=>0))::_) at I;refine RN 2 E I λa E=>?_;refine SK (bt E rfl (HP E Ty.QW Ty.t296 (cs:=ints .i32 32 g) rfl) rfl ?_);clear E a;intro a E;refine BX 0 E I λFs a w E I=>?_;refine RN 7 E I λa E=>?_;replace I:=Jv.close (I.jI Fs) hg;refine jN 0 E I (Jy (M:=Y2 (q:=Fs)) (L:=aa b8 183 (ints .i32 32 (λ_=>0))::L) (I.sub (M:=Jv Fs g false::aA W p aq cO::aa b8 183 (ints .i32 32 (λ_=>0))::L)) a6 aG hb (λw' hw=>hp w' hw.tail)) λg' fm Lt a w E ⟨oh,I⟩=>?_;refine RN 1 E I λa E=>?_;have hj:=Jv.open I;clear I;obtain⟨⟨hg',rfl⟩,I⟩:=hj;obtain⟨_,rfl⟩:=oh rfl;refine SA 4 E I λa w E I=>?_;refine RT 0 E I ?_;exact⟨rfl,I.sub⟩
theorem Lw {P:List (List UInt8)}{zs:List dX}(I:U W w (aA W p aq cO::L))(a6:di p)(aG:p.title.size≤1000000000)(hg:dO g)(hP:P.length≤65536∧∀ b∈P,b.length≤1099511627776)(hf:-1099511627776≤fr∧fr≤1099511627776)(hz:zs.map (·.2.2)=P)(hp:∀ w',U W w' L→hU w' adP zs) :
   Calls prog 280 #[.agg (bO p aq cO).toArray,.agg (ints .i32 32 g).toArray,.int .i64 fr,.slice adP P.length cP] w λe w'=>e=.returned (.agg (ints .i32 32 (foldI p fr g P)).toArray)∧U W w' (aA W p aq cO::L):=by
 have iW:zs.length=P.length:=by rw[← hz,a8]
 have re:=hP.1;refine EN func280 ntmps280 rfl rfl λa E=>?_;refine BX 1 E I λb4 a w E I=>?_;change U W w (aa b4 45 (bO p aq cO)::_) at I;refine BX 0 E I λb5 a w E I=>?_;refine AL 0 E I λb8 a w E I=>?_;change U W w (aa b8 183 (ints .i32 32 (λ_=>0))::_) at I;refine RN 5 E I λa E=>?_;refine aO (λμ a w=>∃ (i:Nat) (g':Nat→Int),(μ=P.length-i∧i≤P.length∧dO g'∧foldI p fr g P=foldI p (fr+i) g' (P.drop i))∧Fr a 27 [(2,.int .i64 fr),(4,pt b4),(5,pt b5),(8,pt b8),(11,.slice adP P.length cP),(12,.int .i64 P.length),(13,.int .i64 i)]∧U W w (aa b5 183 (ints .i32 32 g')::aa b4 45 (bO p aq cO)::aa b8 183 (ints .i32 32 (λ_=>0))::aA W p aq cO::L)) (P.length) (⟨0,g,⟨by simp,by simp,hg,by simp⟩,E.ab [2,4,5,8,11,12,13],I.sub⟩) ?_;clear E I;rintro μ a w ⟨i,g',⟨rfl,hi,eC,lK⟩,E,I⟩;refine IF 3 E I (λaj a E=>?_) λaj a E=>?_
 ·
  obtain⟨z,kx⟩:∃ z,zs[i]?=some z:=⟨_,aD (by omega)⟩;have p9:P[i]?=some z.2.2:=by rw[← hz,bm,kx];rfl
  obtain⟨bp,op,rfl,c4⟩:=(hp _ (I.sub (M:=L))).1 (by omega);have wF:=c4 i (aK z) (by rw[bm,kx];rfl);have pH:=hP.2 _ (bG p9);have D1:foldI p fr g P=foldI p (fr+(i+1:Nat)) (eZ p (fr+i) z.2.2 g') (P.drop (i+1)):=by
   rw[lK,ki (by omega),foldI];have:P[i]'(by omega)=z.2.2:=by rw[aD (by omega)]at p9;exact Option.some.inj p9
   rw[this]
   congr 1
   omega
  refine RN 4 E I λa E=>?_;refine SS E (ae E (wF)) λa E=>?_;rw[aK]at E;refine CL 8 E I (Lu (I.pick (aA W p aq cO)) a6 aG eC pH (λw' hw=>(hp w' hw.sub).2 z (bG kx))) λa w E I=>?_;refine SA 0 E I λa w E I=>?_;refine RN 2 E I λa E=>?_;exact⟨P.length-(i+1),by omega,i+1,_,⟨rfl,by omega,KW a6 eC,D1⟩,E.ab [2,4,5,8,11,12,13],I.sub⟩
 refine RN 1 E I λa E=>?_;obtain rfl:i=P.length:=by omega
 rw[List.drop_length,foldI]at lK;refine SA 1 E I λa w E I=>?_;refine RT 0 E I ?_;exact⟨by rw[lK],I.sub⟩
end
end
section
theorem qv (k:IntKind)(m:Nat)(x:Int):List.replicate m (Value.int k x)=ints k m (λ_=>x):=by
 apply ext_getElem (by simp[ints,fn]);intro i h1 h2;simp[ints,fn]
abbrev dj (b:Gs)(adT:Option Addr)(cT:Nat):List Value:=[.int .i64 b.kind,.int .i64 b.order,.slice adT b.table.length cT]
theorem Y3 (l:List UInt8)(k:Nat):bc (l.drop k)=(bc l).drop k:=by rw[bc,bc,map_drop]
section
variable {W w:World}{L:List SP}{n c m cT:Nat}{ad adT:Option Addr}{past:List UInt8}{b:Gs}
theorem yx (I:U W w L):Calls prog 98 #[.agg (dj b adT cT).toArray] w λe w'=>∃ r:Bool,e=.returned (.bool r)∧(r=true↔cX b)∧U W w' L:=by
 refine EN func98 ntmps98 rfl rfl λa E=>?_;refine BX 1 E I λb1 a w E I=>?_;change U W w (aa b1 186 (dj b adT cT)::_) at I;refine IF 8 E I (λaj a E=>?_) λaj a E=>?_
 ·
  refine BY 5 E I (λbW a E=>?_) λbW a E=>?_
  ·
   refine RT 6 E I ?_;exact⟨_,rfl,(by rw[cp,cX];omega),I.sub⟩
  refine RT 6 E I ?_;exact⟨_,rfl,⟨λh=>(by cases h),λh=>by rw[cX]at h;exfalso;omega⟩,I.sub⟩
 refine IF 3 E I (λao a E=>?_) λao a E=>?_
 ·
  refine BY 5 E I (λbW a E=>?_) λbW a E=>?_
  ·
   refine BY 5 E I (λfa a E=>?_) λfa a E=>?_
   ·
    refine RT 6 E I ?_;exact⟨_,rfl,(by rw[cp,cX];omega),I.sub⟩
   refine RT 6 E I ?_;exact⟨_,rfl,⟨λh=>(by cases h),λh=>by rw[cX]at h;exfalso;omega⟩,I.sub⟩
  refine RT 11 E I ?_;exact⟨_,rfl,⟨λh=>(by cases h),λh=>by rw[cX]at h;exfalso;omega⟩,I.sub⟩
 refine IF 3 E I (λay a E=>?_) λay a E=>?_
 ·
  refine BY 5 E I (λbW a E=>?_) λbW a E=>?_
  ·
   refine BY 6 E I (λuk a E=>?_) λuk a E=>?_
   ·
    refine RT 6 E I ?_;exact⟨_,rfl,(by rw[cp,cX];omega),I.sub⟩
   refine RT 6 E I ?_;exact⟨_,rfl,⟨λh=>(by cases h),λh=>by rw[cX]at h;exfalso;omega⟩,I.sub⟩
  refine RT 12 E I ?_;exact⟨_,rfl,⟨λh=>(by cases h),λh=>by rw[cX]at h;exfalso;omega⟩,I.sub⟩
 refine RT 2 E I ?_;exact⟨_,rfl,⟨λh=>(by cases h),λh=>by rw[cX]at h;exfalso;omega⟩,I.sub⟩
theorem Ly (I:U W w L)(hb:cX b)(ez:past.length≤4000)(jS:past.length≤c)(hp:∀ w',U W w' L→aT w' ad past.length past) :
   Calls prog 324 #[.agg (dj b adT cT).toArray,.slice ad past.length c] w λe w'=>e=.returned (.agg (ints .i64 256 (gE b past)).toArray)∧U W w' L:=by
 simp only[cX]at hb;refine EN func324 ntmps324 rfl rfl λa E=>?_;refine BX 1 E I λb2 a w E I=>?_;change U W w (aa b2 186 (dj b adT cT)::_) at I;refine AL 0 E I λb4 a w E I=>?_;rw[qv]at I;refine AL 1 E I λb5 a w E I=>?_;rw[qv]at I;refine BY 6 E I (λbW a E=>?_) λbW a E=>?_
 ·
  refine SA 9 E I λa w E I=>?_;refine RT 0 E I ?_;exact⟨by rw[gE,ag (by omega)],I.sub⟩
 refine IF 6 E I (λaj a E=>?_) λaj a E=>?_
 ·
  refine SA 2 E I λa w E I=>?_;refine RT 0 E I ?_;exact⟨by rw[gE,ak (by omega),yj (by omega)],I.sub⟩
 refine RN 1 E I λa E=>?_;have b9:b.kind=2:=by omega
 obtain⟨o,ho⟩:∃ o:Nat,b.order=(o:Int):=⟨b.order.toNat,by omega⟩;rw[dj,ho]at I;have dU:o≤past.length:=by omega
 have kT:gE b past=g2 o past past.length:=by rw[gE,ak b9,ho,Int.toNat_natCast]
 refine RN 6 E I λa E=>?_;rw[show ((past.length:Nat):Int)-(o:Int)=((past.length-o:Nat):Int) from by omega]at E;refine RN 7 E I λa E=>?_;rw[show past.length-(past.length-o)=o from by omega]at E;have Y4:o≤3:=by omega
 refine aO (λμ a w=>∃ (i:Nat),(μ=past.length-i∧o≤i∧i≤past.length)∧Fr a 52 [(1,.slice ad past.length c),(2,pt b2),(4,pt b4),(5,pt b5),(6,.slice (fk ad (past.length-o) c 1) o (c-(past.length-o))),(7,.int .i64 i)]∧U W w (aa b5 320 (ints .i64 256 (g2 o past i))::aa b4 320 (ints .i64 256 (λ_=>0))::aa b2 186 [.int .i64 b.kind,.int .i64 o,.slice adT b.table.length cT]::L)) (past.length-o) (⟨o,⟨rfl,bd _,dU⟩,E.ab [1,2,4,5,6,7],by rw[yj (bd _)];exact I.sub⟩) ?_;clear E I;rintro μ a w ⟨i,⟨rfl,Ft,hi⟩,E,I⟩;refine IF 6 E I (λao a E=>?_) λao a E=>?_
 ·
  have aH:i<past.length:=by omega
  have nm:=AH o past i past[i].toNat;have ql:=lp past[i];refine RN 7 E I λa E=>?_;rw[show ((i:Nat):Int)-(o:Int)=((i-o:Nat):Int) from by omega]at E;refine RN 2 E I λa E=>?_;rw[show i-(i-o)=o from by omega]at E;refine CL 1 E I (Kt I ((hp _ I.tail.tail.tail).yk (lo:=i-o) (n:=o) (by omega) jS) (by have:=(hp _ I.tail.tail.tail).yk (lo:=past.length-o) (n:=o) (by omega) jS;exact this)) λa w E I=>?_;refine IF 0 E I (λay a E=>?_) λay a E=>?_
  ·
   obtain⟨bb,oo,rfl,hr⟩:=(hp _ I.tail.tail.tail).get (by omega);refine RN 3 E I λa E=>?_;refine SS E (ae E (hr i _ (dJ aH))) λa E=>?_;refine RN 1 E I λa E=>?_;refine SS E (ae E (I.bz (fM _ ql))) λa E=>?_;refine ST 2 E I (λa w E I=>?_) (hlt:=(by rw[de];omega));rw[ints_set]at I;refine RN 3 E I λa E=>?_;exact⟨past.length-(i+1),by omega,i+1,⟨rfl,by omega,by omega⟩,E.ab [1,2,4,5,6,7],by
    rw[show g2 o past (i+1)=λj=>if j=past[i].toNat then g2 o past i past[i].toNat+1 else g2 o past i j from by
     rw[g2,ak ⟨Ft,by rw[yi,← ay,fZ (l:=past.drop (past.length-o)) (by rw[c3];omega)]⟩,bl,aD aH];rfl]
    exact I.sub⟩
  refine RN 3 E I λa E=>?_;exact⟨past.length-(i+1),by omega,i+1,⟨rfl,by omega,by omega⟩,E.ab [1,2,4,5,6,7],by
   rw[show g2 o past (i+1)=g2 o past i from by
    rw[g2,ag (λh=>by
     have h2:=h.2;rw[yi,← fZ (l:=past.drop (past.length-o)) (i:=o) (by rw[c3];omega)]at h2;rw[h2]at ay;cases ay)]]
   exact I.sub⟩
 obtain rfl:i=past.length:=by omega
 refine SA 2 E I λa w E I=>?_;refine RT 0 E I ?_;exact⟨by rw[kT],I.sub⟩
theorem Lz (I:U W w L)(ez:past.length≤4000)(hp:∀ w',U W w' L→aT w' ad past.length past) :
   Calls prog 326 #[.slice ad past.length c] w λe w'=>e=.returned (.int .u8 ((ik past).toNat:Nat))∧U W w' L:=by
 refine EN func326 ntmps326 rfl rfl λa E=>?_;refine IF 7 E I (λaj a E=>?_) λaj a E=>?_
 ·
  refine RT 2 E I ?_;exact⟨by rw[ik,gT (l:=past) (by omega)];rfl,I⟩
 refine RN 1 E I λa E=>?_;obtain⟨bb,oo,rfl,hr⟩:=(hp _ I).get (by omega);refine RN 4 E I λa E=>?_;rw[show ((past.length:Nat):Int)-1=((past.length-1:Nat):Int) from by omega]at E;refine RN 1 E I λa E=>?_;refine SS E (ae E (hr (past.length-1) _ (dJ (by omega)))) λa E=>?_;refine RT 1 E I ?_;refine⟨?_,I⟩;have h0:past≠[]:=λh=>by rw[h]at aj;simp at aj
 rw[ik,getLastD_eq_getLast?,List.getLast?_eq_getElem?,aD (by omega)];rfl
theorem LA (I:U W w L)(hb:cX b)(ez:past.length≤4000)(jS:past.length≤c)(hp:∀ w',U W w' L→aT w' ad past.length past)(ht:∀ w',U W w' L→aT w' adT b.table.length b.table) :
   Calls prog 325 #[.agg (dj b adT cT).toArray,.slice ad past.length c] w λe w'=>e=.returned (.int .u8 ((m4 b past).toNat:Nat))∧U W w' L:=by
 have la:=hb;simp only[cX]at la;refine EN func325 ntmps325 rfl rfl λa E=>?_;refine BX 1 E I λb2 a w E I=>?_;change U W w (aa b2 186 (dj b adT cT)::_) at I;refine IF 6 E I (λaj a E=>?_) λaj a E=>?_
 ·
  refine bP 1 [5,6,7] [0,2,3,4,3001,1005,1006,1007,8,1009,10] E I λa w E I hH hC=>?_;obtain⟨Y5,Y6,rfl,pd⟩:=(ht _ I.tail).get (by omega);have Fu:past.length%b.table.length<b.table.length:=Nat.mod_lt _ (by omega);refine RH 8 E I hH hC λa E=>?_;rw[nS]at E;refine RH 1 E I hH hC λa E=>?_;refine SS E (ae E (pd (past.length%b.table.length) _ (kV Fu))) λa E=>?_;refine RH 1 E I hH hC λa E=>?_;refine RT 0 E I ?_;exact⟨by rw[m4,ak (by omega)],I.sub⟩
 refine CL 3 E I (Ly I hb ez jS (λw' hw=>hp w' hw.tail)) λa w E I=>?_;refine AL 0 E I λb5 a w E I=>?_;rw[qv]at I;refine SA 0 E I λa w E I=>?_;refine CL 2 E I (Lz I ez (λw' hw=>hp w' hw.tail.tail)) λa w E I=>?_;refine RN 5 E I λa E=>?_;have Fv:=lp (ik past);refine aO (λμ a w=>∃ (i:Nat),(μ=256-i∧i≤256)∧Fr a 41 [(2,pt b2),(5,pt b5),(6,.int .u8 (lS (gE b past) (ik past).toNat i:Nat)),(27,.agg (ints .i64 256 (gE b past)).toArray),(28,.int .i64 i)]∧U W w (aa b5 320 (ints .i64 256 (gE b past))::aa b2 186 (dj b adT cT)::L)) (256) (⟨0,⟨rfl,by omega⟩,E.ab [2,5,6,27,28],I.sub⟩) ?_;clear E I;rintro μ a w ⟨i,⟨rfl,hi⟩,E,I⟩;refine IF 3 E I (λao a E=>?_) λao a E=>?_
 ·
  have nY:=ET (w:=gE b past) Fv (i:=i) hi;have AX:i<256:=by omega
  refine RN 3 E I λa E=>?_;refine SS E (r7 E underlying320 underlying3 rfl Ty.t3 (by omega) (fM _ AX)) λa E=>?_;refine RN 6 E I λa E=>?_;refine SS E (ae E (I.bz (fM _ nY))) λa E=>?_;refine IF 1 E I (λay a E=>?_) λay a E=>?_
  ·
   refine SX 1 E I (by rw[wrap_u8];omega) λa E=>?_;refine RN 3 E I λa E=>?_;exact⟨256-(i+1),by omega,i+1,⟨rfl,by omega⟩,by rw[show lS (gE b past) (ik past).toNat (i+1)=i from by rw[lS,ak (by omega)]];exact E.ab [2,5,6,27,28],I.sub⟩
  refine RN 2 E I λa E=>?_;exact⟨256-(i+1),by omega,i+1,⟨rfl,by omega⟩,by rw[show lS (gE b past) (ik past).toNat (i+1)=lS (gE b past) (ik past).toNat i from by rw[lS,ag (by omega)]];exact E.ab [2,5,6,27,28],I.sub⟩
 obtain rfl:i=256:=by omega
 have nY:=ET (w:=gE b past) Fv (i:=256) (by omega);refine RT 3 E I ?_;exact⟨by rw[m4,ag (by omega),UInt8.toNat_ofNat',Nat.mod_eq_of_lt (by omega)],I.sub⟩
theorem Y7 (I:U W w L)(ez:past.length≤4000)(hp:∀ w',U W w' L→aT w' ad past.length past) :
   Calls prog 329 #[.slice ad past.length c] w λe w'=>∃ av c',e=.returned (.slice av past.length c')∧U W w' (Sl 5 1 av past.length c' (bc past)::L):=by
 obtain⟨h1,h2,h3⟩:=hp _ I;cases pa:ad with
 | none =>
  have h0:=h2 pa;rw[gT (l:=past) h0];refine EN func329 ntmps329 rfl rfl λa E=>?_;refine RN 6 E I λa E=>?_;replace E:=E.eg 4;refine RT 3 E I ?_;exact⟨_,_,rfl,I.bN _ _ _⟩
 | some a =>
  rw[← pa];refine EN func329 ntmps329 rfl rfl λa E=>?_;refine RN 6 E I λa E=>?_;rw[show ad.isNone=false from by rw[pa];rfl]at E;replace E:=E.aM 4;refine RN 2 E I λa E=>?_;refine tE E rfl I underlying22 Ty.t5 rfl λb5 a w E I ho=>?_;clear ho;replace I:U W w (Sl 5 1 (some ⟨b5,0,none⟩) 0 0 []::L):=I.tail.bN _ _ _;refine RN 1 E I λa E=>?_;refine gY E rfl I underlying22 Ty.t5 rfl rfl (by decide) (λh0=>(hp _ I.tail).get h0) (by rw[dk];omega) (en _) (by omega) λsf qV a w E I=>?_;rw[nil_append,Nat.zero_add]at I;rw[Nat.zero_add]at E;refine RT 1 E I ?_;exact⟨_,_,rfl,I⟩
theorem Y8 {to:Int}(I:U W w L)(hb:cX b)(ez:past.length≤1001)(jS:past.length≤c)(hn:m≤1000)(hp:∀ w',U W w' L→aT w' ad past.length past)(ht:∀ w',U W w' L→aT w' adT b.table.length b.table) :
   Calls prog 311 #[.agg (dj b adT cT).toArray,.slice ad past.length c,.int .i64 m] w λe w'=>∃ av c',e=.returned (.slice av m c')∧U W w' (Sl 5 1 av m c' (bc (j3 b past m))::L):=by
 refine EN func311 ntmps311 rfl rfl λa E=>?_;refine BX 1 E I λb3 a w E I=>?_;change U W w (aa b3 186 (dj b adT cT)::_) at I;refine bh 4 E I (yx I) λr a w E ⟨hr,I⟩=>?_;rw[hr.2 hb]at E;refine RN 1 E I λa E=>?_;replace E:=E.aM 10;refine aY 3 E I (Y7 I (by omega) (λw' hw=>hp w' hw.tail)) λlr eM a w E I=>?_;refine RN 6 E I λa E=>?_;rw[show min (max (m:Int) 0) 1000=(m:Int) from by omega]at E;refine RN 1 E I λa E=>?_;refine aO (λμ a w=>∃ (i:Nat) (ad2:Option Addr) (c2:Nat),(μ=m-i∧i≤m)∧Fr a 29 [(1,.slice ad past.length c),(3,pt b3),(7,.slice ad2 (ed b past i).length c2),(15,.int .i64 m),(16,.int .i64 i)]∧U W w (Sl 5 1 ad2 (ed b past i).length c2 (bc (ed b past i))::aa b3 186 (dj b adT cT)::L)) (m) (⟨0,lr,eM,⟨rfl,by omega⟩,E.ab [1,3,7,15,16],I⟩) ?_;clear E I;rintro μ a w ⟨i,ad2,c2,⟨rfl,hi⟩,E,I⟩;refine IF 3 E I (λao a E=>?_) λao a E=>?_
 ·
  have ck:=il b past i;have Fw:=(I.sl ad2).2;refine CL 4 E I (LA I hb (by omega) Fw (λw' hw=>hw.cr ad2 (ed b past i) rfl rfl) (λw' hw=>ht w' hw.tail.tail)) λa w E I=>?_;refine RN 0 E I λa E=>?_;refine cn E rfl I underlying22 Ty.t5 rfl rfl rfl rfl (by decide) (by decide) λuf a w E I ho=>?_;clear ho;refine RN 0 E I λa E=>?_;refine cK E rfl I underlying22 Ty.t5 rfl rfl I.ai rfl (en [m4 b (ed b past i)]) (by decide) (by decide) (by omega) λgp gq a w E I=>?_;rw[show bc (ed b past i)++_=bc (ed b past (i+1)) from (fF _ [_]).symm,show (ed b past i).length+1=(ed b past (i+1)).length from by rw[il,il];omega]at I;rw[show (ed b past i).length+1=(ed b past (i+1)).length from by rw[il,il];omega]at E;refine RN 3 E I λa E=>?_;exact⟨m-(i+1),by omega,i+1,gp,gq,⟨rfl,by omega⟩,E.ab [1,3,7,15,16],I.sub⟩
 obtain rfl:i=m:=by omega
 have ck:=il b past i;refine RT 6 E I ?_;have h1:=I.Ci ad2 past.length (ed b past i).length (by omega) (bd _);rw[show (ed b past i).length-past.length=i from by omega,Nat.mul_one,Nat.mul_one,← Y3,fZ (by rw[dk,c3];omega),show List.drop past.length (ed b past i)=j3 b past i from rfl]at h1;refine⟨_,_,by rw[show (ed b past i).length-past.length=i from by omega],h1.sub⟩
end
end
end Go.Proofs.YteoldcfapaiobaaGreat
