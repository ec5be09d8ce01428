/- What a player knows, in memory: core.May, New, Conf, Queue, Head, Closed, Press, note, hold, Mark, Marks, Events. -/
import Derived.Test.YteoldcfapaiobaaGreatC08Pkt3
import Derived.Test.YteoldcfapaiobaaGreatC09CoQ
import Derived.Test.YteoldcfapaiobaaGreatC05Vm
import Derived.Test.YteoldcfapaiobaaGreatC06Ref
import Derived.ChangeSame
import Derived.Test.YteoldcfapaiobaaGreatC01Row
namespace Go.Proofs.YteoldcfapaiobaaGreat
open Tryz
open List (length_range take_succ_cons nil_append ext_getElem getElem_set_self take_length set_set map_drop mem_singleton range_succ getElem?_set_ne getElem?_set_self length_filter_le replicate_succ' getLastD_eq_getLast?)
open Go.RowKit
set_option linter.unusedVariables false
set_option linter.unusedSimpArgs false
set_option maxRecDepth 10000
set_option synthInstance.maxSize 4000
set_option synthInstance.maxHeartbeats 400000
section
abbrev iC (p:Pe):List Value:=[.int .i64 p.has,.int .i64 p.heard,.int .i64 p.frame,.int .u32 p.sum,.bool p.apart]
theorem jz (p:Pe):(iC p).length=5:=rfl
theorem Yp (p:Pe):∀ v∈iC p,v.oneCell'=true:=by
 intro v hv;simp[iC]at hv;rcases hv with rfl | rfl | rfl | rfl | rfl <;> rfl
def c4 (l:List Nat):List Value:=l.map λs:Nat=>Value.int .u32 (s:Int)
structure pw where
 cb:Nat
 qb:Nat
 aB:List Nat
 bp:Nat
 op:Nat
structure ou where
 cP:Nat
 ck:Option Addr
 cM:Nat
 adE:Option Addr
 cE:Nat
abbrev il (k:Ks)(B:pw)(A:ou):List Value:=[.int .i64 k.n,.int .i64 k.me,.int .i64 k.id,.int .i64 k.aK,.int .i64 k.bt,.int .i64 k.ba,.int .i64 k.order,.int .i64 k.ct,.int .i64 k.workers,.int .i64 k.room,
 pt B.qb,.slice (some ⟨B.bp,B.op,none⟩) k.ps.length A.cP,.slice A.ck k.mr.length A.cM,.slice A.adE k.ev.length A.cE,.int .i64 k.now,.bool k.cl]
def az (B:pw)(k:Ks):SP:=λh=>∃ A:ou,cm [aa B.cb 257 (il k B A),Sl 259 5 (some ⟨B.bp,B.op,none⟩) k.ps.length A.cP (rows iC k.ps),Sl 100 1 A.ck k.mr.length A.cM (c4 k.mr),Sl 135 1 A.adE k.ev.length A.cE (k.ev.map cx),Qu B.qb B.aB k.ls] h
section
variable {W w:World}{L L' R:List SP}{n c cb qb i:Nat}{ad:Option Addr}{aB:List Nat}{k:Ks}{A:ou}{B:pw}{cf:Cf}{e:jy}
theorem az.open (I:U W w (az B k::L)):∃ A:ou,U W w (aa B.cb 257 (il k B A)::Sl 259 5 (some ⟨B.bp,B.op,none⟩) k.ps.length A.cP (rows iC k.ps)::Sl 100 1 A.ck k.mr.length A.cM (c4 k.mr)::Sl 135 1 A.adE k.ev.length A.cE (k.ev.map cx)::Qu B.qb B.aB k.ls::L):=by
 obtain⟨A,_,I⟩:=I.jo (ι:=ou) (p:=λ_=>True) (B:=λA h=>cm [aa B.cb 257 (il k B A),Sl 259 5 (some ⟨B.bp,B.op,none⟩) k.ps.length A.cP (rows iC k.ps),Sl 100 1 A.ck k.mr.length A.cM (c4 k.mr),Sl 135 1 A.adE k.ev.length A.cE (k.ev.map cx),Qu B.qb B.aB k.ls] h) λ_ ⟨A,h⟩=>⟨A,trivial,h⟩;exact⟨A,I.open (M:=[_,_,_,_,_]) λ_ h=>h⟩
theorem az.close (I:U W w (aa B.cb 257 (il k B A)::Sl 259 5 (some ⟨B.bp,B.op,none⟩) k.ps.length A.cP (rows iC k.ps)::Sl 100 1 A.ck k.mr.length A.cM (c4 k.mr)::Sl 135 1 A.adE k.ev.length A.cE (k.ev.map cx)::Qu B.qb B.aB k.ls::L)):U W w (az B k::L) :=
 U.shut (M:=[_,_,_,_,_]) I λ_ h=>⟨A,h⟩
theorem az.mk' (I:U W w L)(A:ou)[kk:fD L (aa B.cb 257 (il k B A)::Sl 259 5 (some ⟨B.bp,B.op,none⟩) k.ps.length A.cP (rows iC k.ps)::Sl 100 1 A.ck k.mr.length A.cM (c4 k.mr)::Sl 135 1 A.adE k.ev.length A.cE (k.ev.map cx)::Qu B.qb B.aB k.ls::L') R]:U W w (az B k::L'):=az.close (A:=A) I.sub
theorem az.fold (I:U W w L)(B:pw)(k:Ks)(A:ou)[kk:fD L [aa B.cb 257 (il k B A),Sl 259 5 (some ⟨B.bp,B.op,none⟩) k.ps.length A.cP (rows iC k.ps),Sl 100 1 A.ck k.mr.length A.cM (c4 k.mr),Sl 135 1 A.adE k.ev.length A.cE (k.ev.map cx),Qu B.qb B.aB k.ls] R]:U W w (az B k::R):=az.close (A:=A) (I.perm kk.perm)
theorem ov {x lo hi:Int}(I:U W w L):Calls prog 167 #[.int .i64 x,.int .i64 lo,.int .i64 hi] w λe V=>∃ r:Bool,e=.returned (.bool r)∧(r=true↔fv x lo hi)∧U W V L:=by
 refine EN func167 ntmps167 rfl rfl λa E=>?_;refine BY 7 E I (λbS a E=>?_) λbS a E=>?_
 ·
  refine RT 5 E I ?_;exact⟨_,rfl,⟨λh=>⟨bS,of_decide_eq_true h⟩,λh=>dk h.2⟩,I⟩
 refine RT 5 E I ?_;exact⟨_,rfl,⟨λh=>(by cases h),λh=>by have:=h.1;omega⟩,I⟩
theorem KA (I:U W w L):Calls prog 130 #[.agg (cc cf).toArray] w λe V=>∃ r:Bool,e=.returned (.bool r)∧(r=true↔eN cf)∧U W V L:=by
 refine EN func130 ntmps130 rfl rfl λa E=>?_;refine BX 1 E I λb1 a w E I=>?_;change U W w (aa b1 28 (cc cf)::_) at I;refine RN 1 E I λa E=>?_;refine b7 (M:=λa w=>∃ z:Bool,(z=true↔(fv cf.n 2 8∧fv cf.me 0 (cf.n-1)∧fv cf.id 0 1099511627776))∧Fr a 73 [(1,pt b1),(3,.bool z)]∧U W w (aa b1 28 (cc cf)::L)) ?_ ?_
 ·
  refine bg 2 E I (ov I) λr1 a w E ⟨e8,I⟩=>?_;refine BY 1 E I (λbS a E=>?_) λbS a E=>?_
  ·
   refine RN 4 E I λa E=>?_;refine SK (bE E (cS E rfl (s:=8)) (yS E) rfl ?_);clear E a;intro a E;have m2:IntKind.i64.wrap (cf.n-1)=cf.n-1:=gr (by have:=(e8.1 bS).1;omega) (by have:=(e8.1 bS).2;omega);rw[m2]at E;refine bg 0 E I (ov I) λr2 a w E ⟨eT,I⟩=>?_;refine BY 2 E I (λkG a E=>?_) λkG a E=>?_
   ·
    refine BY 5 E I (λtS a E=>?_) λtS a E=>?_
    ·
     refine RN 5 E I λa E=>?_;exact⟨_,⟨λh=>⟨e8.1 bS,eT.1 kG,tS,of_decide_eq_true h⟩,λh=>dk h.2.2.2⟩,E.ab [1,3],I⟩
    refine RN 5 E I λa E=>?_;exact⟨_,⟨λh=>(by cases h),λh=>by have:=h.2.2.1;omega⟩,E.ab [1,3],I⟩
   refine RN 10 E I λa E=>?_;exact⟨_,⟨λh=>(by cases h),λh=>by have:=eT.2 h.2.1;rw[kG]at this;cases this⟩,E.ab [1,3],I⟩
  refine RN 18 E I λa E=>?_;exact⟨_,⟨λh=>(by cases h),λh=>by have:=e8.2 h.1;rw[bS]at this;cases this⟩,E.ab [1,3],I⟩
 clear E;(try clear I);rintro a w ⟨z1,c0,E,I⟩;refine b7 (M:=λa w=>∃ z:Bool,(z=true↔(fv cf.aK 0 8∧fv cf.bt 1 16∧fv cf.ba 1 3∧fv cf.order 0 3))∧Fr a 73 [(1,pt b1),(3,.bool z1),(4,.bool z)]∧U W w (aa b1 28 (cc cf)::L)) ?_ ?_
 ·
  refine bg 2 E I (ov I) λr1 a w E ⟨e8,I⟩=>?_;refine BY 1 E I (λbS a E=>?_) λbS a E=>?_
  ·
   refine bg 2 E I (ov I) λr2 a w E ⟨eT,I⟩=>?_;refine BY 2 E I (λfa a E=>?_) λfa a E=>?_
   ·
    refine bg 2 E I (ov I) λr3 a w E ⟨jV,I⟩=>?_;refine BY 2 E I (λm1 a E=>?_) λm1 a E=>?_
    ·
     refine bg 2 E I (ov I) λWh a w E ⟨qd,I⟩=>?_;refine RN 2 E I λa E=>?_;exact⟨_,⟨λh=>⟨e8.1 bS,eT.1 fa,jV.1 m1,qd.1 h⟩,λh=>qd.2 h.2.2.2⟩,E.ab [1,3,4],I⟩
    refine RN 5 E I λa E=>?_;exact⟨_,⟨λh=>(by cases h),λh=>by have:=jV.2 h.2.2.1;rw[m1]at this;cases this⟩,E.ab [1,3,4],I⟩
   refine RN 10 E I λa E=>?_;exact⟨_,⟨λh=>(by cases h),λh=>by have:=eT.2 h.2.1;rw[fa]at this;cases this⟩,E.ab [1,3,4],I⟩
  refine RN 15 E I λa E=>?_;exact⟨_,⟨λh=>(by cases h),λh=>by have:=e8.2 h.1;rw[bS]at this;cases this⟩,E.ab [1,3,4],I⟩
 clear E;(try clear I);rintro a w ⟨z2,eL,E,I⟩;refine BY 3 E I (λmT a E=>?_) λmT a E=>?_
 ·
  refine BY 3 E I (λdp a E=>?_) λdp a E=>?_
  ·
   refine BY 4 E I (λfa a E=>?_) λfa a E=>?_
   ·
    have EH:cf.order=0∨cf.ba=2:=.inl fa;refine bg 8 E I (ov I) λr1 a w E ⟨e8,I⟩=>?_;refine BY 2 E I (λpn a E=>?_) λpn a E=>?_
    ·
     refine bg 2 E I (ov I) λr2 a w E ⟨eT,I⟩=>?_;refine BY 2 E I (λuq a E=>?_) λuq a E=>?_
     ·
      refine bg 2 E I (ov I) λr3 a w E ⟨jV,I⟩=>?_;refine RT 2 E I ?_;exact⟨_,rfl,⟨λh=>⟨c0.1 mT,eL.1 dp,EH,e8.1 pn,eT.1 uq,jV.1 h⟩,λh=>jV.2 h.2.2.2.2.2⟩,I.sub⟩
     refine RT 5 E I ?_;exact⟨_,rfl,⟨λh=>(by cases h),λh=>by have:=eT.2 h.2.2.2.2.1;rw[uq]at this;cases this⟩,I.sub⟩
    refine RT 10 E I ?_;exact⟨_,rfl,⟨λh=>(by cases h),λh=>by have:=e8.2 h.2.2.2.1;rw[pn]at this;cases this⟩,I.sub⟩
   refine BY 6 E I (λkF a E=>?_) λkF a E=>?_
   ·
    have EH:cf.order=0∨cf.ba=2:=.inr kF;refine bg 2 E I (ov I) λr1 a w E ⟨e8,I⟩=>?_;refine BY 2 E I (λpn a E=>?_) λpn a E=>?_
    ·
     refine bg 2 E I (ov I) λr2 a w E ⟨eT,I⟩=>?_;refine BY 2 E I (λuq a E=>?_) λuq a E=>?_
     ·
      refine bg 2 E I (ov I) λr3 a w E ⟨jV,I⟩=>?_;refine RT 2 E I ?_;exact⟨_,rfl,⟨λh=>⟨c0.1 mT,eL.1 dp,EH,e8.1 pn,eT.1 uq,jV.1 h⟩,λh=>jV.2 h.2.2.2.2.2⟩,I.sub⟩
     refine RT 5 E I ?_;exact⟨_,rfl,⟨λh=>(by cases h),λh=>by have:=eT.2 h.2.2.2.2.1;rw[uq]at this;cases this⟩,I.sub⟩
    refine RT 10 E I ?_;exact⟨_,rfl,⟨λh=>(by cases h),λh=>by have:=e8.2 h.2.2.2.1;rw[pn]at this;cases this⟩,I.sub⟩
   refine RT 15 E I ?_;exact⟨_,rfl,⟨λh=>(by cases h),λh=>by have:=h.2.2.1;omega⟩,I.sub⟩
  refine RT 25 E I ?_;exact⟨_,rfl,⟨λh=>(by cases h),λh=>by have:=eL.2 h.2.1;rw[dp]at this;cases this⟩,I.sub⟩
 refine RT 28 E I ?_;exact⟨_,rfl,⟨λh=>(by cases h),λh=>by have:=c0.2 h.1;rw[mT]at this;cases this⟩,I.sub⟩
theorem Yq (I:U W w L)(h:¬ eN cf):Calls prog 96 #[.agg (cc cf).toArray] w λe V=>e=.returned (.tuple #[.pointer none,.int .i64 1])∧U W V L:=by
 refine EN func96 ntmps96 rfl rfl λa E=>?_;refine BX 1 E I λb1 a w E I=>?_;change U W w (aa b1 28 (cc cf)::_) at I;refine bg 5 E I (KA I) λr a w E ⟨hr,I⟩=>?_;rw[show r=false from by cases hh:r with | false=>rfl | true=>exact absurd (hr.1 hh) h]at E;refine RN 1 E I λa E=>?_;replace E:=E.ef 7;refine RT 4 E I ?_;exact⟨rfl,I.sub⟩
theorem KB {n me aK bt:Nat}{id ba order ct workers room:Int}(I:U W w L)(h:eN ⟨n,me,id,aK,bt,ba,order,ct,workers,room⟩) :
   Calls prog 96 #[.agg (cc ⟨n,me,id,aK,bt,ba,order,ct,workers,room⟩).toArray] w λe V=>∃ B,e=.returned (.tuple #[pt B.cb,.int .i64 0])∧U W V (az B (fg ⟨n,me,id,aK,bt,ba,order,ct,workers,room⟩)::L):=by
 have hh:=h;obtain⟨⟨h1,h2,h3⟩,⟨h4,h5,h6,h7⟩,h8,h9,fF,mO⟩:=hh;simp only[fv] at *;refine EN func96 ntmps96 rfl rfl λa E=>?_;refine BX 1 E I λb1 a w E I=>?_;change U W w (aa b1 28 (cc ⟨n,me,id,aK,bt,ba,order,ct,workers,room⟩)::_) at I;refine bg 5 E I (KA I) λr a w E ⟨hr,I⟩=>?_;rw[hr.2 h]at E;refine RN 1 E I λa E=>?_;replace E:=E.aN 7;refine RN 1 E I λa E=>?_;refine b7 (M:=λa w=>∃ cb qb aB,Fr a 34 [(1,pt b1),(4,pt cb)]∧U W w (aa cb 257 [.int .i64 n,.int .i64 me,.int .i64 id,.int .i64 aK,.int .i64 bt,.int .i64 ba,.int .i64 order,.int .i64 ct,.int .i64 workers,.int .i64 room,pt qb,.slice none 0 0,.slice none 0 0,.slice none 0 0,.int .i64 0,.bool false]::Qu qb aB (List.replicate n (List.replicate aK 0))::aa b1 28 (cc ⟨n,me,id,aK,bt,ba,order,ct,workers,room⟩)::L)) ?_ ?_
 ·
  refine aZ 0 (λw0 V=>Rd V b1 0 (cc ⟨n,me,id,aK,bt,ba,order,ct,workers,room⟩)) [2,4,5] [1,3,3000,3002,1004,1005,6,1007,8] E I λa w E I hH=>?_;have hC:=hH.at w I.ai;refine RH 2 E I hH hC λa E=>?_;refine QH E (λw hc=>bT E underlying28 rfl Ty.t28 (hc)) hC λa E=>?_;simp only[cc]at E;refine RH 0 E I hH hC λa E=>?_;refine QH E (λw hc=>ag E (hc 0 _ rfl)) hC λa E=>?_;refine RH 0 E I hH hC λa E=>?_;refine SS E (ag E (hC 3 _ rfl)) λa E=>?_;refine RH 0 E I hH hC λa E=>?_;refine aY 0 E I (X9 (n:=n) (d:=aK) I (by omega) (by omega)) λqb aB a w E I=>?_;replace hC:=hH.at w I.ai;refine RH 1 E I hH hC λa E=>?_;refine wP E rfl I rfl λUa a w E I ho=>?_;clear ho;refine RN 1 E I λa E=>?_;exact⟨_,qb,aB,E.ab [1,4],I⟩
 clear E;(try clear I);rintro a w ⟨cb,qb,aB,E,I⟩;refine RN 5 E I λa E=>?_;replace I:=I.bM 259 5 none;refine aR (λμ a w=>∃ (i:Nat) (ad:Option Addr) (c:Nat),(μ=n-i∧i≤n)∧Fr a 34 [(1,pt b1),(4,pt cb),(17,.int .i64 n),(18,.int .i64 i)]∧U W w (aa cb 257 [.int .i64 n,.int .i64 me,.int .i64 id,.int .i64 aK,.int .i64 bt,.int .i64 ba,.int .i64 order,.int .i64 ct,.int .i64 workers,.int .i64 room,pt qb,.slice ad i c,.slice none 0 0,.slice none 0 0,.int .i64 0,.bool false]::Sl 259 5 ad i c (rows iC (List.replicate i (fw aK)))::Qu qb aB (List.replicate n (List.replicate aK 0))::aa b1 28 (cc ⟨n,me,id,aK,bt,ba,order,ct,workers,room⟩)::L)) (n) (⟨0,none,0,⟨rfl,by omega⟩,E.ab [1,4,17,18],(I.perm (List.Perm.swap _ _ _):U W w (aa cb 257 _::Sl 259 5 none 0 0 []::_))⟩) ?_;clear E I;rintro μ a w ⟨i,ad,c,⟨rfl,hi⟩,E,I⟩;refine IF 3 E I (λao a E=>?_) λao a E=>?_
 ·
  refine bQ 1 [6,7,8] [0,1,2,3,5,3004,1006,1007,1008,1009,10,11,1012] E I λa w E I hH hC=>?_;refine RH 8 E I hH hC λa E=>?_;refine cn E rfl I underlying255 Ty.t259 rfl rfl rfl rfl (by decide) (by decide) λHF a w E I ho=>?_;replace hC:=hC.trans ho;clear ho;refine RH 0 E I hH hC λa E=>?_;refine cI E rfl I underlying255 Ty.t259 rfl rfl I.ai rfl (Yp (fw aK)) (by decide) (by decide) (by omega) λKC KD a w E I=>?_;rw[show rows iC (List.replicate i (fw aK))++_=rows iC (List.replicate (i+1) (fw aK)) from by rw[replicate_succ',j9];rfl]at I;refine ST 2 E I (λa w E I=>?_);refine RN 2 E I λa E=>?_;exact⟨n-(i+1),by omega,i+1,KC,KD,⟨rfl,by omega⟩,E.ab [1,4,17,18],I.sub⟩
 obtain rfl:i=n:=by omega
 replace I:=I.bM 100 1 none;replace I:=I.bM 135 1 none;refine RT 4 E I ?_;obtain⟨bp,op,rfl,_⟩:=(I.pick (Sl 259 5 ad i c (rows iC (List.replicate i (fw aK))))).bY ad (by omega);refine⟨⟨cb,qb,aB,bp,op⟩,rfl,?_⟩;refine az.close (A:=⟨c,none,0,none,0⟩) ?_;have hl:(fg ⟨i,me,id,aK,bt,ba,order,ct,workers,room⟩).ps.length=i:=by simp[fg]
 rw[il,hl];exact I.sub (M:=aa cb 257 [.int .i64 i,.int .i64 me,.int .i64 id,.int .i64 aK,.int .i64 bt,.int .i64 ba,.int .i64 order,.int .i64 ct,.int .i64 workers,.int .i64 room,pt qb,.slice (some ⟨bp,op,none⟩) i c,.slice none 0 0,.slice none 0 0,.int .i64 0,.bool false]::Sl 259 5 (some ⟨bp,op,none⟩) i c (rows iC (List.replicate i (fw aK)))::Sl 100 1 none 0 0 []::Sl 135 1 none 0 0 []::Qu qb aB (List.replicate i (List.replicate aK 0))::L)
theorem KE (I:U W w (az B k::L)):Calls prog 292 #[pt B.cb] w λe V=>e=.returned (.agg (cc (ff k)).toArray)∧U W V (az B k::L):=by
 obtain⟨A,I⟩:=az.open I;refine EN func292 ntmps292 rfl rfl λa E=>?_;refine AL 1 E I λb2 a w E I=>?_;refine RN 4 E I λa E=>?_;replace E:=E.aN 4;refine SA 6 E I λa w E I=>?_;refine RT 0 E I ?_;exact⟨rfl,az.close I.tail⟩
theorem ow (I:U W w (az B k::L)):Calls prog 134 #[pt B.cb] w λe V=>e=.returned (pt B.qb)∧U W V (az B k::L):=by
 obtain⟨A,I⟩:=az.open I;refine EN func134 ntmps134 rfl rfl λa E=>?_;refine RN 6 E I λa E=>?_;replace E:=E.aN 4;refine RT 7 E I ?_;exact⟨rfl,az.close I⟩
theorem az.EI (I:U W w (az B k::L)):∃ D:SP,U W w (Qu B.qb B.aB k.ls::D::L)∧∀ (V:World) (L':List SP) (kq:List (List UInt8)),U W V (Qu B.qb B.aB kq::D::L')→U W V (az B { k with ls:=kq }::L'):=by
 obtain⟨A,I⟩:=az.open I;refine⟨λh=>cm [aa B.cb 257 (il k B A),Sl 259 5 (some ⟨B.bp,B.op,none⟩) k.ps.length A.cP (rows iC k.ps),Sl 100 1 A.ck k.mr.length A.cM (c4 k.mr),Sl 135 1 A.adE k.ev.length A.cE (k.ev.map cx)] h,?_,λV L' kq I=>?_⟩
 ·refine U.perm (L:=(λh=>cm [aa B.cb 257 (il k B A),Sl 259 5 (some ⟨B.bp,B.op,none⟩) k.ps.length A.cP (rows iC k.ps),Sl 100 1 A.ck k.mr.length A.cM (c4 k.mr),Sl 135 1 A.adE k.ev.length A.cE (k.ev.map cx)] h)::Qu B.qb B.aB k.ls::L) ?_ (List.Perm.swap _ _ _);exact U.shut (M:=[_,_,_,_]) I λ_ h=>h
 ·have h1:=(I.perm (List.Perm.swap _ _ _)).open (M:=[_,_,_,_]) λ_ h=>h;exact az.close (k:={ k with ls:=kq }) (A:=A) h1
theorem az.qu (I:U W w (az B k::L)):∃ D:SP,U W w (Qu B.qb B.aB k.ls::D::L)∧∀ (V:World) (L':List SP),U W V (Qu B.qb B.aB k.ls::D::L')→U W V (az B k::L'):=by
 obtain⟨D,h1,h2⟩:=az.EI I;exact⟨D,h1,λV L' h=>h2 V L' k.ls h⟩
theorem sM (I:U W w (az B k::L))(hk:WC k):Calls prog 275 #[pt B.cb] w λe V=>e=.returned (.int .i64 (aF k))∧U W V (az B k::L):=by
 have dQ:k.me<k.ls.length:=by rw[hk.ls];exact hk.me
 refine EN func275 ntmps275 rfl rfl λa E=>?_;refine CL 4 E I (ow I) λa w E I=>?_;refine CL 1 E I (KE I) λa w E I=>?_;refine RN 0 E I λa E=>?_;refine SS E (Hx E underlying28 rfl underlying3 rfl rfl) λa E=>?_;obtain⟨D,I,hD⟩:=az.qu I;refine CL 0 E I (sK I dQ) λa w E I=>?_;refine CL 0 E I (x4 I dQ) λa w E I=>?_;refine RT 1 E I ?_;exact⟨rfl,hD _ _ I⟩
theorem x7 (I:U W w (az B k::L)):Calls prog 179 #[pt B.cb] w λe V=>e=.returned (.bool k.cl)∧U W V (az B k::L):=by
 obtain⟨A,I⟩:=az.open I;refine EN func179 ntmps179 rfl rfl λa E=>?_;refine RN 6 E I λa E=>?_;replace E:=E.aN 5;refine RT 6 E I ?_;exact⟨rfl,az.close I⟩
theorem KF (I:U W w (az B k::L)):Calls prog 133 #[pt B.cb] w λe V=>e=.returned (.int .i64 k.mr.length)∧U W V (az B k::L):=by
 obtain⟨A,I⟩:=az.open I;refine EN func133 ntmps133 rfl rfl λa E=>?_;refine RN 6 E I λa E=>?_;replace E:=E.aN 4;refine RT 8 E I ?_;exact⟨rfl,az.close I⟩
theorem EJ (I:U W w (az B k::L))(he:sL e)(hl:k.ev.length≤100):Calls prog 204 #[pt B.cb,.agg (bW e).toArray] w λr V=>r=.returned (.tuple #[])∧U W V (az B { k with ev:=k.ev++[e] }::L):=by
 obtain⟨A,I⟩:=az.open I;refine EN func204 ntmps204 rfl rfl λa E=>?_;refine BX 1 E I λb3 a w E I=>?_;change U W w (aa b3 102 (bW e)::_) at I;refine CL 2 E I (Yk I he) λa w E I=>?_;refine AL 3 E I λb4 a w E I=>?_;refine SA 0 E I λa w E I=>?_;refine RN 3 E I λa E=>?_;replace E:=E.ef 11;refine bQ 1 [5,6] [0,1,2,3,3004,1005,1006,1007,8,9,1010] E I λa w E I hH hC=>?_;refine RH 6 E I hH hC λa E=>?_;refine cn E rfl I underlying90 Ty.t135 rfl rfl rfl rfl (by decide) (by decide) λsx a w E I ho=>?_;replace hC:=hC.trans ho;clear ho;refine RH 0 E I hH hC λa E=>?_;refine cI E rfl I underlying90 Ty.t135 rfl rfl I.ai rfl (by simpa using EE e) (by decide) (by decide) (by omega) λzM zN a w E I=>?_;rw[show List.map cx k.ev++_=List.map cx (k.ev++[e]) from by rw[cQ];rfl,show k.ev.length+1=(k.ev++[e]).length from by simp]at I;rw[show k.ev.length+1=(k.ev++[e]).length from by simp]at E;refine ST 2 E I (λa w E I=>?_);refine RT 0 E I ?_;exact⟨rfl,az.mk' (k:={ k with ev:=k.ev++[e] }) I { A with adE:=zM,cE:=zN }⟩
structure rj (w:World)(B:pw)(k:Ks):Prop where
 cf:Rd w B.cb 0 [.int .i64 k.n,.int .i64 k.me,.int .i64 k.id,.int .i64 k.aK,.int .i64 k.bt,.int .i64 k.ba,.int .i64 k.order,.int .i64 k.ct,.int .i64 k.workers,.int .i64 k.room,pt B.qb]
 now:w.cell? ⟨B.cb,14,none⟩=some (.int .i64 k.now)
 cl:w.cell? ⟨B.cb,15,none⟩=some (.bool k.cl)
 pe:∀ (i:Nat) (p:Pe),k.ps[i]?=some p→Rd w B.bp (B.op+i*5) (iC p)
 aeL:∃ ad c,w.cell? ⟨B.cb,12,none⟩=some (.slice ad k.mr.length c)
 pl:∃ c,w.cell? ⟨B.cb,11,none⟩=some (.slice (some ⟨B.bp,B.op,none⟩) k.ps.length c)
theorem jA {α:Type}{f:α→List Value}{sz:Nat}(hf:∀ x,(f x).length=sz){l:List α}{i:Nat}{x:α}{b o:Nat}(h:Rd w b o (rows f l))(hx:l[i]?=some x):Rd w b (o+i*sz) (f x):=by
 obtain⟨hi,rfl⟩:=a2.1 hx;have h1:=h.part (i*sz) sz
 rwa [u9 hf l i hi]at h1
theorem az.rd (I:U W w (az B k::L)):rj w B k:=by
 obtain⟨A,I⟩:=az.open I;refine⟨I.pO 11,I.bB rfl,I.bB rfl,λi p hp=>?_,⟨_,_,I.bB rfl⟩,⟨_,I.bB rfl⟩⟩;have hi:=(a2.1 hp).1;exact jA jz (I.cC B.bp B.op (by omega)) hp
end
theorem Aw {l:List Nat}{i:Nat}(h:i<l.length):(c4 l)[i]?=some (.int .u32 (l.getD i 0:Nat)):=by
 rw[c4,bm,aI h,bl,aI h];rfl
theorem ur {k:Ks}{i:Nat}(h:i<k.ps.length):k.ps[i]?=some (ar k i):=by
 rw[ar,bl,aI h];rfl
theorem KG {k:Ks}{i:Nat}(h:i<k.ps.length):k.ps[i]=ar k i:=by
 rw[ar,bl,aI h];rfl
section
variable {W w:World}{L L':List SP}{n c i:Nat}{ad:Option Addr}{k:Ks}{A:ou}{B:pw}{x:UInt8}
theorem KH (I:U W w (az B k::L))(hk:WC k):Calls prog 175 #[pt B.cb] w λr V=>r=.returned (.tuple #[])∧U W V (az B (kP k)::L):=by
 have eB:k.ps.length=k.n:=hk.ps;obtain⟨A0,I⟩:=az.open I;refine EN func175 ntmps175 rfl rfl λa E=>?_;refine RN 7 E I λa E=>?_;replace I:=az.close I;refine aR (λμ a w=>∃ (i:Nat),(μ=k.ps.length-i∧i≤k.ps.length)∧Fr a 71 [(0,pt B.cb),(8,.int .i64 k.ps.length),(9,.int .i64 i)]∧U W w (az B (gk k i)::L)) (k.ps.length) (⟨0,⟨rfl,by omega⟩,E.ab [0,8,9],I⟩) ?_;clear E I;rintro μ a w ⟨i,⟨rfl,hi⟩,E,I⟩;refine IF 3 E I (λaj a E=>?_) λaj a E=>?_
 ·
  have aJ:i<k.ps.length:=by omega
  have jM:=hk.gk (i:=i) (by omega);have eH:=Ap k i;have e6:gk k (i+1)=kO (gk k i) i:=rfl;rw[kO]at e6;generalize gk k i=kk at I jM eH e6;rw[← eH]at aJ;have ij:=jM.pq (i:=i) (by rw[← jM.ps];exact aJ);have eX:=ur aJ;have JJ:i<8:=by have:=jM.n;have:=jM.ps;omega
  obtain⟨A,I⟩:=az.open I;have fb:=jA jz (I.cC B.bp B.op (by omega)) eX;refine RN 14 E I λa E=>?_;have fb:Rd w.drew B.bp (B.op+i*5) (iC (ar kk i)):=fb;have jw:Rd w.drew B.cb 0 (il kk B A):=I.drew.ai;refine qF 0 (Old w.drew) [13,14,31,35,36,37,38] [0,1,2,1003,4,5,6,7,8,10,11,12,3009,1013,1014,15,16,17,18,19,20,1021,22,23,24,25,26,28,29,30,32,33,34,3027,3031,1035,1036,1037,1038,39,40] E I λa E=>?_;replace I:=I.drew;have hH:=Hd.gf I;have hC:=Old.refl w.drew;generalize w.drew=w at I hH hC fb jw ⊢;refine RH 3 E I hH hC λa E=>?_;refine SS E (ag E (fb 2 _ rfl)) λa E=>?_;refine RH 2 E I hH hC λa E=>?_;refine E.by (s:=23) (λiO E=>?_) (λiO E=>?_)
  ·
   refine RH 35 E I hH hC λa E=>?_;refine RN 3 E I λa E=>?_;rw[ae (λh=>by have:=h.2.1;omega)]at e6;exact⟨k.ps.length-(i+1),by omega,i+1,⟨rfl,by omega⟩,E.ab [0,8,9],by rw[e6];exact az.close I⟩
  refine RH 6 E I hH hC λa E=>?_;refine QH E (λw hc=>ag E (hc.cell (fb 2 _ rfl))) hC λa E=>?_;refine RH 0 E I hH hC λa E=>?_;refine bE E (cS E rfl (s:=23)) (ag E (jw 12 _ rfl)) rfl λa E=>?_;refine RH 4 E I hH hC λa E=>?_;refine E.by (s:=35) (λYr E=>?_) (λYr E=>?_)
  ·
   refine RH 23 E I hH hC λa E=>?_;refine RN 3 E I λa E=>?_;rw[ae (λh=>by have:=h.2.2.1;omega)]at e6;exact⟨k.ps.length-(i+1),by omega,i+1,⟨rfl,by omega⟩,E.ab [0,8,9],by rw[e6];exact az.close I⟩
  refine RH 3 E I hH hC λa E=>?_;refine bE E (cS E rfl (s:=35)) (ag E (fb 4 _ rfl)) rfl λa E=>?_;refine RH 2 E I hH hC λa E=>?_;refine E.by (s:=41) (λmf E=>?_) (λmf E=>?_)
  ·
   refine RH 17 E I hH hC λa E=>?_;refine RN 3 E I λa E=>?_;rw[ae (λh=>by have:=h.1;rw[mf]at this;cases this)]at e6;exact⟨k.ps.length-(i+1),by omega,i+1,⟨rfl,by omega⟩,E.ab [0,8,9],by rw[e6];exact az.close I⟩
  have lX:(ar kk i).frame-1<kk.mr.length:=by omega
  obtain⟨EK,EL,dQ,ll⟩:=I.bY A.ck (by omega);have x8:=jw 12 _ rfl;rw[dQ]at x8;refine RH 9 E I hH hC λa E=>?_;refine QH E (λw hc=>ag E (hc.cell (fb 3 _ rfl))) hC λa E=>?_;refine QH E (λw hc=>ag E (hc.cell (x8))) hC λa E=>?_;refine RH 0 E I hH hC λa E=>?_;refine bE E (cS E rfl (s:=41)) (ag E (fb 2 _ rfl)) rfl λa E=>?_;refine RH 1 E I hH hC λa E=>?_;rw[show (((ar kk i).frame:Nat):Int)-1=(((ar kk i).frame-1:Nat):Int) from by omega]at E;refine RH 1 E I hH hC λa E=>?_;refine bE E (cS E rfl (s:=41)) (ag E (ll ((ar kk i).frame-1) _ (Aw lX))) rfl λa E=>?_;refine RH 2 E I hH hC λa E=>?_;refine IF 0 E I (λao a E=>?_) λao a E=>?_
  ·
   refine RN 2 E I λa E=>?_;rw[ae (λh=>by have:=h.2.2.2;omega)]at e6;exact⟨k.ps.length-(i+1),by omega,i+1,⟨rfl,by omega⟩,E.ab [0,8,9],by rw[e6];exact az.close I⟩
  refine RN 1 E I λa E=>?_;rw[ak ⟨mf,by omega,by omega,by omega⟩]at e6;refine RN 3 E I λa E=>?_;refine lT (off:=B.op) (k:=i*5+4) E rfl I Ty.t4 rfl (by omega) (by rw[iW jz];omega) λa w E I=>?_;rw[pX jz kk.ps { ar kk i with apart:=true } aJ (by decide) (by rw[KG aJ];rfl)]at I;have ib:(kk.ps.set i { ar kk i with apart:=true }).length=kk.ps.length:=br;rw[show il kk B A=il { kk with ps:=kk.ps.set i { ar kk i with apart:=true } } B A from by simp only[il,ib],← ib]at I;replace I:=az.mk' (L':=L) (B:=B) (k:={ kk with ps:=kk.ps.set i { ar kk i with apart:=true } }) I A;refine RN 5 E I λa E=>?_;refine SS E (ag E (((az.rd I).pe i { ar kk i with apart:=true } (by rw[getElem?_set_self aJ])) 2 _ rfl)) λa E=>?_;refine CL 1 E I (EJ (e:=(3,i,(ar kk i).frame)) I ⟨by simp,by simp,by have:=jM.n;have:=jM.ps;show i<8;omega,ij.2.2.1,.inl rfl⟩ (by have:=jM.kQ;show kk.ev.length≤100;omega)) λa w E I=>?_;refine RN 2 E I λa E=>?_;exact⟨k.ps.length-(i+1),by omega,i+1,⟨rfl,by omega⟩,E.ab [0,8,9],by rw[e6];exact I⟩
 refine RT 0 E I ?_;obtain rfl:i=k.ps.length:=by omega
 exact⟨rfl,I⟩
theorem Ys {s:Nat}(I:U W w (az B k::L))(hk:WC k)(hl:k.mr.length<1000)(xv:s<4294967296):Calls prog 138 #[pt B.cb,.int .u32 s] w λr V=>r=.returned (.tuple #[])∧U W V (az B (lg k s)::L):=by
 have x9 : WC { k with mr := k.mr ++ [s] } := { hk with
     mr:=by show (k.mr++[s]).length≤1000;rw[aL,iP];omega
     rf:=λx hx=>by
      rcases eM.1 hx with hx | hx
      ·exact hk.rf x hx
      ·rw[mem_singleton]at hx;rw[hx];exact xv }
 obtain⟨A,I⟩:=az.open I;refine EN func138 ntmps138 rfl rfl λa E=>?_;refine RN 5 E I λa E=>?_;replace E:=E.aN 6;refine RN 7 E I λa E=>?_;rw[bn (by omega)]at E;refine RN 8 E I λa E=>?_;refine cn E rfl I underlying69 Ty.t100 rfl rfl rfl rfl (by decide) (by decide) λIr a w E I ho=>?_;clear ho;refine RN 0 E I λa E=>?_;refine cI E rfl I underlying69 Ty.t100 rfl rfl I.ai rfl (by simp[Value.oneCell']) (by decide) (by decide) (by omega) λqK qL a w E I=>?_;rw[show c4 k.mr++_=c4 (k.mr++[s]) from by rw[c4,c4,cQ];rfl,show k.mr.length+1=(k.mr++[s]).length from by simp]at I;rw[show k.mr.length+1=(k.mr++[s]).length from by simp]at E;refine ST 2 E I (λa w E I=>?_);refine RN 0 E I λa E=>?_;replace I:=az.mk' (B:=B) (L':=L) (k:={ k with mr:=k.mr++[s] }) I { A with ck:=qK,cM:=qL };refine CL 1 E I (KH I x9) λa w E I=>?_;refine RT 0 E I ?_;exact⟨rfl,by rw[lg,ak hl];exact I⟩
theorem Yt (I:U W w (az B k::L)):Calls prog 296 #[pt B.cb] w λr V=>∃ ad c,r=.returned (.slice ad k.ev.length c)∧U W V (Sl 135 1 ad k.ev.length c (k.ev.map cx)::az B { k with ev:=[] }::L):=by
 obtain⟨A,I⟩:=az.open I;refine EN func296 ntmps296 rfl rfl λa E=>?_;refine RN 6 E I λa E=>?_;replace E:=E.aN 5;refine ST 11 E I (λa w E I=>?_);refine RT 3 E I ?_;refine⟨A.adE,A.cE,rfl,?_⟩;replace I:=I.bM 135 1 none;refine U.perm (L:=az B { k with ev:=[] }::Sl 135 1 A.adE k.ev.length A.cE (k.ev.map cx)::L) ?_ (List.Perm.swap _ _ _);refine az.close (A:=⟨A.cP,A.ck,A.cM,none,0⟩) ?_;exact I.sub (M:=aa B.cb 257 [.int .i64 k.n,.int .i64 k.me,.int .i64 k.id,.int .i64 k.aK,.int .i64 k.bt,.int .i64 k.ba,.int .i64 k.order,.int .i64 k.ct,.int .i64 k.workers,.int .i64 k.room,pt B.qb,.slice (some ⟨B.bp,B.op,none⟩) k.ps.length A.cP,.slice A.ck k.mr.length A.cM,.slice none 0 0,.int .i64 k.now,.bool k.cl]::Sl 259 5 (some ⟨B.bp,B.op,none⟩) k.ps.length A.cP (rows iC k.ps)::Sl 100 1 A.ck k.mr.length A.cM (c4 k.mr)::Sl 135 1 none 0 0 []::Qu B.qb B.aB k.ls::Sl 135 1 A.adE k.ev.length A.cE (k.ev.map cx)::L)
theorem Yu (I:U W w (az B k::L))(hk:WC k):Calls prog 297 #[pt B.cb,.int .u8 (x.toNat:Nat)] w λr V=>r=.returned (.int .i64 (cW x k).1)∧U W V (az B (cW x k).2::L):=by
 have dQ:k.me<k.ls.length:=by rw[hk.ls];exact hk.me
 have gJ:=hk.lM;have fo:aU k.ls≤aF k:=hk.nA;refine EN func297 ntmps297 rfl rfl λa E=>?_;refine CL 5 E I (x7 I) λa w E I=>?_;refine IF 1 E I (λaj a E=>?_) λaj a E=>?_
 ·
  refine RT 2 E I ?_;exact⟨by rw[cW,ak aj],by rw[cW,ak aj];exact I⟩
 have cg:¬ k.cl=true:=by rw[aj];decide
 refine CL 2 E I (sM I hk) λa w E I=>?_;refine IF 2 E I (λao a E=>?_) λao a E=>?_
 ·
  refine RT 2 E I ?_;exact⟨by rw[cW,ae cg,ak (by omega)],by rw[cW,ae cg,ak (by omega)];exact I⟩
 refine aZ 1 (λw0 V=>rj V B k) [1,6,7,12] [0,2,3,4,8,9,10,11,3005,3012,1001,1006,1007,13,14] E I λa w E I hH=>?_;have hC:=hH.at w (az.rd I);refine RH 8 E I hH hC λa E=>?_;refine QH E (λw hc=>ag E (hc.cf 10 _ rfl)) hC λa E=>?_;refine QH E (λw hc=>ag E (hc.cf 4 _ rfl)) hC λa E=>?_;refine RH 0 E I hH hC λa E=>?_;refine CL 0 E I (sM I hk) λa w E I=>?_;replace hC:=hH.at w (az.rd I);obtain⟨D,I,hD⟩:=az.qu I;refine RH 0 E I hH hC λa E=>?_;refine CL 0 E I (re I hk.kR (by rw[hk.ls];exact hk.n.2)) λa w E I=>?_;replace hC:=hH.at w (az.rd (hD _ _ I));replace I:=hD _ _ I;refine RH 3 E I hH hC λa E=>?_;refine IF 0 E I (λay a E=>?_) λay a E=>?_
 ·
  refine RT 2 E I ?_;exact⟨by rw[cW,ae cg,ae (by omega),ak (by rw[ax];omega)],by rw[cW,ae cg,ae (by omega),ak (by rw[ax];omega)];exact I⟩
 refine aZ 1 (λw0 V=>rj V B k) [8] [0,1,2,4,5,6,7,10,3003,1008,1009,1011,12] E I λa w E I hH=>?_;have hC:=hH.at w (az.rd I);refine RH 8 E I hH hC λa E=>?_;refine QH E (λw hc=>ag E (hc.cf 10 _ rfl)) hC λa E=>?_;refine RH 0 E I hH hC λa E=>?_;refine SS E (ag E (hC.cf 1 _ rfl)) λa E=>?_;obtain⟨D,I,hD⟩:=az.EI I;refine RH 0 E I hH hC λa E=>?_;refine CL 0 E I (sK I dQ) λa w E I=>?_;refine CL 0 E I (X4 I dQ (by simp only[aF]at ao;omega)) λa w E I=>?_;refine RN 1 E I λa E=>?_;refine RT 0 E I ?_;have uu:cW x k=(0,{ k with ls:=k.ls.set k.me (k.ls.getD k.me []++[x]) }):=by rw[cW,ae cg,ae (by omega),ae (by rw[ax];omega)]
 rw[uu];exact⟨rfl,hD _ _ _ I⟩
end
def mn (l:List Nat):List Value:=l.map λi:Nat=>Value.int .i64 (i:Int)
theorem EM {l:List Nat}{i j:Nat}(h:l[i]?=some j):(mn l)[i]?=some (.int .i64 (j:Int)):=by rw[mn,bm,h];rfl
def kS (k:Ks)(i:Nat):List Nat:=(List.range i).filter (·≠k.me)
theorem EO (k:Ks)(i:Nat):kS k (i+1)=if i=k.me then kS k i else kS k i++[i]:=by
 rw[kS,range_succ,List.filter_append];by_cases h:i=k.me
 ·rw[ak h];simp[h,kS]
 ·rw[ae h];simp[h,kS]
theorem KI (k:Ks):∀ i,(kS k i).length≤i:=λi=>by
 have:=length_filter_le (λx=>decide (x≠k.me)) (List.range i);rw[length_range]at this;exact this
abbrev Mx:=Option Addr×Nat×Ml
abbrev bZ (x:Mx):List Value:=[.int .i64 x.2.2.1,.int .i64 x.2.2.2.1,.slice x.1 x.2.2.2.2.length x.2.1]
theorem oy (x:Mx):(bZ x).length=3:=rfl
theorem Yv (x:Mx):∀ v∈bZ x,v.oneCell'=true:=by
 intro v hv;simp[bZ]at hv;rcases hv with rfl | rfl | rfl <;> rfl
def b0 (x:Mx):SP:=Sl 5 1 x.1 x.2.2.2.2.length x.2.1 (bc x.2.2.2.2)
def cu (e:TypeId)(ad:Option Addr)(n c:Nat)(ms:List Ml):SP:=λh=>∃ xs:List Mx,(xs.map (·.2.2)=ms∧ms.length=n)∧cm [Sl e 3 ad n c (rows bZ xs),ah b0 xs] h
section
variable {W w:World}{L L':List SP}{n c i e to:Nat}{ad adP:Option Addr}{k:Ks}{A:ou}{B:pw}{x:UInt8}{ms:List Ml}{p:Pk}
theorem cu.open (I:U W w (cu e ad n c ms::L)):∃ xs:List Mx,xs.map (·.2.2)=ms∧ms.length=n∧U W w (Sl e 3 ad n c (rows bZ xs)::ah b0 xs::L):=by
 obtain⟨xs,⟨h1,h2⟩,I⟩:=I.jo (ι:=List Mx) (p:=λxs=>xs.map (·.2.2)=ms∧ms.length=n) (B:=λxs h=>cm [Sl e 3 ad n c (rows bZ xs),ah b0 xs] h) λ_ ⟨xs,h1,h2⟩=>⟨xs,h1,h2⟩;exact⟨xs,h1,h2,I.open (M:=[_,_]) λ_ h=>h⟩
theorem cu.close {xs:List Mx}(I:U W w (Sl e 3 ad n c (rows bZ xs)::ah b0 xs::L))(h1:xs.map (·.2.2)=ms)(h2:ms.length=n):U W w (cu e ad n c ms::L) :=
 U.shut (M:=[_,_]) I λ_ h=>⟨xs,⟨h1,h2⟩,h⟩
theorem cu.nil (I:U W w L):U W w (cu e none 0 0 []::L):=cu.close (xs:=[]) (U.bM (U.iI I) e 3 none) rfl rfl
theorem EP (I:U W w (az B k::L))(hk:WC k):Calls prog 315 #[pt B.cb] w λr V=>∃ ad c,r=.returned (.slice ad (bH k).length c)∧U W V (Sl 3 1 ad (bH k).length c (mn (bH k))::az B k::L):=by
 have gz:=hk.ps;have hn:=hk.n;obtain⟨A,I⟩:=az.open I;refine EN func315 ntmps315 rfl rfl λa E=>?_;refine RN 12 E I λa E=>?_;rw[gz]at E;replace I:=az.close I;replace I:=I.bM 3 1 none;refine aR (λμ a w=>∃ (i:Nat) (ad:Option Addr) (c:Nat),(μ=k.n-i∧i≤k.n)∧Fr a 26 [(0,pt B.cb),(3,.slice ad (kS k i).length c),(9,.int .i64 k.n),(10,.int .i64 i)]∧U W w (Sl 3 1 ad (kS k i).length c (mn (kS k i))::az B k::L)) (k.n) (⟨0,none,0,⟨rfl,by omega⟩,E.ab [0,3,9,10],I⟩) ?_;clear E I;rintro μ a w ⟨i,ad,c,⟨rfl,hi⟩,E,I⟩;refine IF 3 E I (λaj a E=>?_) λaj a E=>?_
 ·
  have dW:=KI k i;have ln:=EO k i;refine RN 10 E I λa E=>?_;refine SS E (ag E (((az.rd I.tail).cf 1 _ rfl))) λa E=>?_;refine IF 1 E I (λao a E=>?_) λao a E=>?_
  ·
   rw[ae (by omega)]at ln;refine RN 2 E I λa E=>?_;refine cn E rfl I underlying53 Ty.t3 rfl rfl rfl rfl (by decide) (by decide) λtT a w E I ho=>?_;clear ho;refine RN 0 E I λa E=>?_;refine cI E rfl I underlying53 Ty.t3 rfl rfl I.ai rfl (by simp[Value.oneCell']) (by decide) (by decide) (by omega) λgm gn a w E I=>?_;rw[show mn (kS k i)++_=mn (kS k (i+1)) from by rw[ln,mn,mn,cQ];rfl,show (kS k i).length+1=(kS k (i+1)).length from by rw[ln,aL];rfl]at I;rw[show (kS k i).length+1=(kS k (i+1)).length from by rw[ln,aL];rfl]at E;refine RN 3 E I λa E=>?_;exact⟨k.n-(i+1),by omega,i+1,gm,gn,⟨rfl,by omega⟩,E.ab [0,3,9,10],I.sub⟩
  rw[ak (by omega)]at ln;refine RN 2 E I λa E=>?_;exact⟨k.n-(i+1),by omega,i+1,ad,c,⟨rfl,by omega⟩,by rw[ln];exact E.ab [0,3,9,10],by rw[ln];exact I⟩
 refine RT 3 E I ?_;obtain rfl:i=k.n:=by omega
 exact⟨ad,c,rfl,I⟩
def sN (k:Ks)(to:Nat)(p:Pk):Pk:={ p with aV:=k.me,to:=to,id:=k.id }
theorem KJ (I:U W w (az B k::L))(lJ:p.sum<4294967296)(hp:∀ V,U W V (az B k::L)→a6 V adP p.al.length p.al) :
   Calls prog 316 #[pt B.cb,.agg (dI p adP c).toArray,.int .i64 to] w λr V=>∃ av c',r=.returned (.agg (bZ (av,c',(k.me,to,aS (sN k to p)))).toArray)∧U W V (b0 (av,c',(k.me,to,aS (sN k to p)))::az B k::L):=by
 refine EN func316 ntmps316 rfl rfl λa E=>?_;refine BX 1 E I λb4 a w E I=>?_;simp only[dI]at I;refine AL 0 E I λcG a w E I=>?_;refine aZ 1 (λw0 V=>rj V B k) [10,12,13,14] [0,1,2,3,5,6,7,8,9,3004,11,3010,1012,1013,1014,15,1016] E I λa w E I hH=>?_;have hC:=hH.at w (az.rd (I.pick (az B k)));refine RH 9 E I hH hC λa E=>?_;refine QH E (λw hc=>ag E (hc.cf 1 _ rfl)) hC λa E=>?_;refine RH 1 E I hH hC λa E=>?_;refine QH E (λw hc=>ag E (hc.cf 2 _ rfl)) hC λa E=>?_;refine RH 0 E I hH hC λa E=>?_;refine ST 0 E I (λa w E I=>?_);replace hC:=hH.at w (az.rd (I.pick (az B k)));refine RH 1 E I hH hC λa E=>?_;refine ST 0 E I (λa w E I=>?_);replace hC:=hH.at w (az.rd (I.pick (az B k)));refine RH 1 E I hH hC λa E=>?_;refine ST 0 E I (λa w E I=>?_);refine aZ 1 (λw0 V=>Rd V b4 0 (dI (sN k to p) adP c)) [3,4,5] [0,2,3001,3003,1004,1005,6,1007] E I λa w E I hH=>?_;have hC:=hH.at w (I.ai (b:=b4));refine RH 2 E I hH hC λa E=>?_;refine QH E (λw hc=>ag E (hc 1 _ rfl)) hC λa E=>?_;refine QH E (λw hc=>ag E (hc 2 _ rfl)) hC λa E=>?_;refine RH 0 E I hH hC λa E=>?_;refine SS E (bT E underlying203 rfl Ty.t203 (hC)) λa E=>?_;refine RH 0 E I hH hC λa E=>?_;refine aY 0 E I (JT (p:=sN k to p) (ad:=adP) (c:=c) I lJ (λV hw=>hp V hw.sub)) λad2 c2 a w E I=>?_;replace hC:=hH.at w (I.ai (b:=b4));refine RH 1 E I hH hC λa E=>?_;refine SA 0 E I λa w E I=>?_;refine RT 0 E I ?_;exact⟨ad2,c2,rfl,I.sub (M:=Sl 5 1 ad2 (aS (sN k to p)).length c2 (bc (aS (sN k to p)))::az B k::L)⟩
theorem KK {l:List Nat}(h:0<l.length):l.getD (l.length-1) 0=l.getLastD 0:=by
 rw[getLastD_eq_getLast?,List.getLast?_eq_getElem?,bl]
theorem Yw (k:Ks)(to:Nat):sN k to ⟨1,0,0,0,(ar k to).has,(k.ls.getD to []).length,k.mr.length,k.mr.getLastD 0,((k.ls.getD k.me []).drop (ar k to).has).take 32⟩=dP k to:=rfl
set_option maxHeartbeats 1000000 in
theorem Yx (I:U W w (az B k::L))(hk:WC k)(sO:to<k.n):Calls prog 319 #[pt B.cb,.int .i64 to] w λr V=>∃ av c',r=.returned (.agg (bZ (av,c',(k.me,to,aS (dP k to)))).toArray)∧U W V (b0 (av,c',(k.me,to,aS (dP k to)))::az B k::L):=by
 have dQ:k.me<k.ls.length:=by rw[hk.ls];exact hk.me
 have eJ:to<k.ls.length:=by rw[hk.ls];exact sO
 have Yy:to<k.ps.length:=by rw[hk.ps];exact sO
 have ij:=hk.pq sO;have lX:=hk.lL hk.me;have eX:=ur Yy;have hn:=hk.n;have KL:=hk.mr;obtain⟨A,I⟩:=az.open I;refine EN func319 ntmps319 rfl rfl λa E=>?_;refine AL 1 E I λb4 a w E I=>?_;refine RN 0 E I λa E=>?_;refine b7 (M:=λa w=>∃ b5:Nat,Fr a 62 [(0,pt B.cb),(1,.int .i64 to),(4,pt b4),(5,pt b5)]∧U W w (aa b5 203 [.int .i64 1,.int .i64 0,.int .i64 0,.int .i64 0,.int .i64 (ar k to).has,.slice none 0 0,.int .i64 (k.ls.getD to []).length,.int .i64 k.mr.length,.int .u32 0]::aa b4 124 [.int .i64 0,.int .i64 0,.slice none 0 0]::aa B.cb 257 (il k B A)::Sl 259 5 (some ⟨B.bp,B.op,none⟩) k.ps.length A.cP (rows iC k.ps)::Sl 100 1 A.ck k.mr.length A.cM (c4 k.mr)::Sl 135 1 A.adE k.ev.length A.cE (k.ev.map cx)::Qu B.qb B.aB k.ls::L)) ?_ ?_
 ·
  refine aZ 0 (λw0 V=>Rd V B.cb 0 (il k B A)∧Rd V B.bp (B.op+to*5) (iC (ar k to))) [11,13,14,18,19,21] [0,1,2,4,8,9,10,12,15,16,17,3003,5,6,3007,3011,3018,3019,2013,2014,20,1021,1022] E I λa w E I hH=>?_;have hC:=hH.at w ⟨I.ai (b:=B.cb),jA jz (I.cC B.bp B.op (by omega)) eX⟩;refine RH 11 E I hH hC λa E=>?_;refine QH E (λw hc=>ag E (hc.1 11 _ rfl)) hC λa E=>?_;refine RH 2 E I hH hC λa E=>?_;refine QH E (λw hc=>ag E (hc.2 0 _ rfl)) hC λa E=>?_;refine QH E (λw hc=>ag E (hc.1 10 _ rfl)) hC λa E=>?_;refine QH E (λw hc=>ag E (hc.1 12 _ rfl)) hC λa E=>?_;refine RH 1 E I hH hC λa E=>?_;refine DN [(13,[2014,20,1021,1022]),(21,[1013,1014,20,1022])] (by kernel_rfl) rfl ⟨⟨_,rfl,?_⟩,⟨_,rfl,?_⟩,trivial⟩
  ·
   refine RH 0 E I hH hC λa E=>?_;refine CL 0 E I (sK (I.pick (Qu B.qb B.aB k.ls)) eJ) λa w E I=>?_;replace hC:=hH.at w ⟨I.ai (b:=B.cb),jA jz (I.cC B.bp B.op (by omega)) eX⟩;refine RH 0 E I hH hC λa E=>?_;refine DN [(14,[20,1021,1022]),(21,[1014,20,1022])] (by kernel_rfl) rfl ⟨⟨_,rfl,?_⟩,⟨_,rfl,?_⟩,trivial⟩
   ·
    refine RH 0 E I hH hC λa E=>?_;refine CL 0 E I (x4 (I.pick (Qu B.qb B.aB k.ls)) eJ) λa w E I=>?_;replace hC:=hH.at w ⟨I.ai (b:=B.cb),jA jz (I.cC B.bp B.op (by omega)) eX⟩;refine RH 1 E I hH hC λa E=>?_;refine eR E rfl I Ty.t203 rfl λb5 a w E I ho=>?_;clear ho;replace hC:=hH.at w ⟨I.ai (b:=B.cb),jA jz (I.cC B.bp B.op (by omega)) eX⟩;refine RH 0 E I hH hC λa E=>?_;refine SA 0 E I λa w E I=>?_;refine RN 0 E I λa E=>?_;exact⟨_,E.ab [0,1,4,5],I.sub⟩
   refine RH 0 E I hH hC λa E=>?_;refine eR E rfl I Ty.t203 rfl λb5 a w E I ho=>?_;clear ho;replace hC:=hH.at w ⟨I.ai (b:=B.cb),jA jz (I.cC B.bp B.op (by omega)) eX⟩;refine RH 0 E I hH hC λa E=>?_;refine CL 0 E I (x4 (I.pick (Qu B.qb B.aB k.ls)) eJ) λa w E I=>?_;replace hC:=hH.at w ⟨I.ai (b:=B.cb),jA jz (I.cC B.bp B.op (by omega)) eX⟩;refine RH 1 E I hH hC λa E=>?_;refine SA 0 E I λa w E I=>?_;refine RN 0 E I λa E=>?_;exact⟨_,E.ab [0,1,4,5],I.sub⟩
  refine RH 0 E I hH hC λa E=>?_;refine eR E rfl I Ty.t203 rfl λb5 a w E I ho=>?_;clear ho;replace hC:=hH.at w ⟨I.ai (b:=B.cb),jA jz (I.cC B.bp B.op (by omega)) eX⟩;refine RH 0 E I hH hC λa E=>?_;refine CL 0 E I (sK (I.pick (Qu B.qb B.aB k.ls)) eJ) λa w E I=>?_;replace hC:=hH.at w ⟨I.ai (b:=B.cb),jA jz (I.cC B.bp B.op (by omega)) eX⟩;refine RH 0 E I hH hC λa E=>?_;refine CL 0 E I (x4 (I.pick (Qu B.qb B.aB k.ls)) eJ) λa w E I=>?_;replace hC:=hH.at w ⟨I.ai (b:=B.cb),jA jz (I.cC B.bp B.op (by omega)) eX⟩;refine RH 1 E I hH hC λa E=>?_;refine SA 0 E I λa w E I=>?_;refine RN 0 E I λa E=>?_;exact⟨_,E.ab [0,1,4,5],I.sub⟩
 clear E;(try clear I);rintro a w ⟨b5,E,I⟩;refine b7 (M:=λa w=>∃ (cV:Option Addr) (dN:Nat),Fr a 62 [(0,pt B.cb),(1,.int .i64 to),(4,pt b4),(5,pt b5)]∧U W w (aa b5 203 [.int .i64 1,.int .i64 0,.int .i64 0,.int .i64 0,.int .i64 (ar k to).has,.slice cV (((k.ls.getD k.me []).drop (ar k to).has).take 32).length dN,.int .i64 (k.ls.getD to []).length,.int .i64 k.mr.length,.int .u32 0]::Sl 5 1 cV (((k.ls.getD k.me []).drop (ar k to).has).take 32).length dN (bc (((k.ls.getD k.me []).drop (ar k to).has).take 32))::aa b4 124 [.int .i64 0,.int .i64 0,.slice none 0 0]::aa B.cb 257 (il k B A)::Sl 259 5 (some ⟨B.bp,B.op,none⟩) k.ps.length A.cP (rows iC k.ps)::Sl 100 1 A.ck k.mr.length A.cM (c4 k.mr)::Sl 135 1 A.adE k.ev.length A.cE (k.ev.map cx)::Qu B.qb B.aB k.ls::L)) ?_ ?_
 ·
  refine aZ 0 (λw0 V=>Rd V B.cb 0 (il k B A)∧Rd V b5 0 [.int .i64 1,.int .i64 0,.int .i64 0,.int .i64 0,.int .i64 (ar k to).has,.slice none 0 0,.int .i64 (k.ls.getD to []).length,.int .i64 k.mr.length,.int .u32 0]) [8,9,11] [0,1,2,4,5,6,7,10,3003,3008,3011,1009,1012,13,1014] E I λa w E I hH=>?_;have hC:=hH.at w ⟨I.ai (b:=B.cb),I.ai (b:=b5)⟩;refine RH 8 E I hH hC λa E=>?_;refine QH E (λw hc=>ag E (hc.1 10 _ rfl)) hC λa E=>?_;refine QH E (λw hc=>ag E (hc.1 1 _ rfl)) hC λa E=>?_;refine QH E (λw hc=>ag E (hc.2 4 _ rfl)) hC λa E=>?_;refine RH 0 E I hH hC λa E=>?_;refine CL 0 E I (sK (I.pick (Qu B.qb B.aB k.ls)) dQ) λa w E I=>?_;replace hC:=hH.at w ⟨I.ai (b:=B.cb),I.ai (b:=b5)⟩;refine RH 0 E I hH hC λa E=>?_;refine aY 0 E I (X6 (k:=32) (I.pick (Qu B.qb B.aB k.ls)) dQ lX ij.1 (by decide)) λcV dN a w E I=>?_;refine ST 1 E I (λa w E I=>?_);refine RN 0 E I λa E=>?_;exact⟨cV,dN,E.ab [0,1,4,5],I.sub⟩
 clear E;(try clear I);rintro a w ⟨cV,dN,E,I⟩;refine b7 (M:=λa w=>Fr a 62 [(0,pt B.cb),(1,.int .i64 to),(4,pt b4),(5,pt b5)]∧U W w (aa b5 203 [.int .i64 1,.int .i64 0,.int .i64 0,.int .i64 0,.int .i64 (ar k to).has,.slice cV (((k.ls.getD k.me []).drop (ar k to).has).take 32).length dN,.int .i64 (k.ls.getD to []).length,.int .i64 k.mr.length,.int .u32 (k.mr.getLastD 0:Nat)]::Sl 5 1 cV (((k.ls.getD k.me []).drop (ar k to).has).take 32).length dN (bc (((k.ls.getD k.me []).drop (ar k to).has).take 32))::aa b4 124 [.int .i64 0,.int .i64 0,.slice none 0 0]::az B k::L)) ?_ ?_
 ·
  refine IF 10 E I (λaj a E=>?_) λaj a E=>?_
  ·
   obtain⟨EK,EL,ER,ll⟩:=(I.pick (Sl 100 1 A.ck k.mr.length A.cM (c4 k.mr))).bY A.ck (by omega);refine RN 4 E I λa E=>?_;rw[ER]at E;refine RN 2 E I λa E=>?_;rw[show ((k.mr.length:Nat):Int)-1=((k.mr.length-1:Nat):Int) from by omega]at E;refine RN 1 E I λa E=>?_;refine SS E (ag E (ll (k.mr.length-1) _ (Aw (by omega)))) λa E=>?_;refine ST 1 E I (λa w E I=>?_);refine RN 0 E I λa E=>?_;rw[KK (by omega)]at I;exact⟨E.ab [0,1,4,5],(az.fold I B k A).sub⟩
  refine RN 0 E I λa E=>?_;have h0:k.mr.getLastD 0=0:=by rw[g5 (l:=k.mr) (by omega)];rfl
  exact⟨E.ab [0,1,4,5],by rw[h0];exact (az.fold I B k A).sub⟩
 clear E;(try clear I);rintro a w ⟨E,I⟩;refine aY 4 E I (KJ (p:=⟨1,0,0,0,(ar k to).has,(k.ls.getD to []).length,k.mr.length,k.mr.getLastD 0,((k.ls.getD k.me []).drop (ar k to).has).take 32⟩) (adP:=cV) (c:=dN) (I.pick (az B k)) (by
  show k.mr.getLastD 0<4294967296;rw[getLastD_eq_getLast?];cases hl:k.mr.getLast? with
  | none=>decide
  | some s=>exact hk.rf s (List.mem_of_getLast? hl)) (λV hw=>(hw.pick (Sl 5 1 cV (((k.ls.getD k.me []).drop (ar k to).has).take 32).length dN (bc (((k.ls.getD k.me []).drop (ar k to).has).take 32)))).cF cV _ rfl rfl)) λad2 c2 a w E I=>?_
 rw[Yw]at E I;refine SA 0 E I λa w E I=>?_;refine RT 0 E I ?_;exact⟨ad2,c2,rfl,I.sub⟩
def Ax (k:Ks)(j:Nat):List Ml:=((bH k).take j).map λi=>(k.me,i,aS (dP k i))
def Ay (k:Ks)(j:Nat):List Ml:=((bH k).take j).map λi=>(k.me,i,aS (gl k i))
theorem KM (k:Ks):(bH k).length≤k.n:=KI k k.n
theorem Yz (I:U W w (az B k::L))(hk:WC k):Calls prog 298 #[pt B.cb] w λr V=>∃ ad c,r=.returned (.slice ad (bu k).1.length c)∧U W V (cu 124 ad (bu k).1.length c (bu k).1::az B (bu k).2::L):=by
 have hn:=hk.n;have dW:=KM k;refine EN func298 ntmps298 rfl rfl λa E=>?_;refine CL 5 E I (x7 I) λa w E I=>?_;refine IF 0 E I (λaj a E=>?_) λaj a E=>?_
 ·
  refine RT 2 E I ?_;exact⟨none,0,by rw[bu,ak aj];rfl,by rw[bu,ak aj];exact cu.nil I⟩
 have hq:bu k=((bH k).map λi=>(k.me,i,aS (gl k i)),{ k with cl:=true }):=by rw[bu,ae (by rw[aj];decide)]
 obtain⟨A,I⟩:=az.open I;refine ST 4 E I (λa w E I=>?_);refine RN 0 E I λa E=>?_;replace I:=az.mk' (B:=B) (L':=L) (k:={ k with cl:=true }) I A;refine aY 5 E I (EP I (by exact (hk.ko).1 |> λh=>by rw[hq]at h;exact h)) λmo co a w E I=>?_;refine RN 2 E I λa E=>?_;replace I:=U.bM (U.iI (f:=b0) I) 124 3 none;replace E:Fr a 27 ((14,.int .i64 (0:Nat))::(13,.int .i64 (bH k).length)::(12,.slice mo (bH k).length co)::(3,.slice none 0 0)::(0,pt B.cb)::[]):=E.ab [14,13,12,3,0];refine aR (λμ a w=>∃ (j:Nat) (xs:List Mx) (ad:Option Addr) (c:Nat),(μ=(bH k).length-j∧j≤(bH k).length∧xs.map (·.2.2)=Ay k j∧xs.length=j)∧Fr a 27 [(0,pt B.cb),(3,.slice ad j c),(12,.slice mo (bH k).length co),(13,.int .i64 (bH k).length),(14,.int .i64 j)]∧U W w (Sl 124 3 ad j c (rows bZ xs)::ah b0 xs::Sl 3 1 mo (bH k).length co (mn (bH k))::az B { k with cl:=true }::L)) ((bH k).length) (⟨0,[],none,0,⟨rfl,by omega,rfl,rfl⟩,E.ab [0,3,12,13,14],I⟩) ?_;clear E I;rintro μ a w ⟨j,xs,ad,c,⟨rfl,hj,eC,cj⟩,E,I⟩;refine IF 3 E I (λao a E=>?_) λao a E=>?_
 ·
  obtain⟨i,hi⟩:∃ i,(bH k)[j]?=some i:=⟨_,aI (by omega)⟩;obtain⟨kz,oo,rfl,gA⟩:=(I.pick (Sl 3 1 mo (bH k).length co (mn (bH k)))).bY mo (by omega);refine RN 3 E I λa E=>?_;refine SS E (ag E (gA j _ (EM hi))) λa E=>?_;refine aY 5 E I (KJ (k:={ k with cl:=true }) (to:=i) (p:=⟨2,0,0,0,0,0,0,0,[]⟩) (adP:=none) (c:=0) (I.pick (az B { k with cl:=true })) (by decide) (λV hw=>a6.nil)) λad2 c2 a w E I=>?_;rw[show sN { k with cl:=true } i ⟨2,0,0,0,0,0,0,0,[]⟩=gl k i from rfl]at E I;refine RN 0 E I λa E=>?_;refine cn E rfl I underlying108 Ty.t124 rfl rfl rfl rfl (by decide) (by decide) λxB a w E I ho=>?_;clear ho;refine RN 0 E I λa E=>?_;refine cI E rfl I underlying108 Ty.t124 rfl rfl I.ai rfl (by simp[Value.oneCell']) (by decide) (by decide) (by omega) λKN KO a w E I=>?_;rw[show rows bZ xs++_=rows bZ (xs++[(ad2,c2,(k.me,i,aS (gl k i)))]) from by rw[j9];rfl]at I;refine RN 3 E I λa E=>?_;have dx:=U.jG (f:=b0) (x:=(ad2,c2,(k.me,i,aS (gl k i)))) (I.sub (M:=b0 (ad2,c2,(k.me,i,aS (gl k i)))::ah b0 xs::Sl 124 3 KN (j+1) KO (rows bZ (xs++[(ad2,c2,(k.me,i,aS (gl k i)))]))::Sl 3 1 (some ⟨kz,oo,none⟩) (bH k).length co (mn (bH k))::az B { k with cl:=true }::L));exact⟨(bH k).length-(j+1),by omega,j+1,xs++[(ad2,c2,(k.me,i,aS (gl k i)))],KN,KO,⟨rfl,by omega,by
   have dG:j<(bH k).length:=by omega
   rw[cQ,eC,Ay,Ay,iX dG,cQ,(a2.1 hi).2];rfl,by rw[aL,cj];rfl⟩,E.ab [0,3,12,13,14],dx.sub⟩
 refine RT 3 E I ?_;obtain rfl:j=(bH k).length:=by omega
 rw[Ay,take_length]at eC;have ib:((bH k).map λi=>(k.me,i,aS (gl k i))).length=(bH k).length:=bd _;rw[hq];refine⟨ad,c,by rw[ib],?_⟩;rw[ib];exact cu.close (xs:=xs) I.sub eC ib
end
theorem KP {α:Type}{p:α→Bool}:∀ {l:List α} {j:Nat} {x:α},(∀ y∈l.take j,p y=false)→l[j]?=some x→p x=true→l.find? p=some x
 | [],j,x,_,h,_=>by simp at h
 | y::l,0,x,_,h,hp=>by
  obtain rfl:y=x:=by simpa using h
  rw[List.find?_cons,hp]
 | y::l,j+1,x,E,h,hp=>by
  rw[List.find?_cons,E y (by simp)];exact KP (j:=j) (λz hz=>E z (by rw[take_succ_cons];exact gO _ hz)) (by simpa using h) hp
theorem KQ {α:Type}{p:α→Bool}{l:List α}(h:∀ y∈l,p y=false):l.find? p=none:=by
 rw[List.find?_eq_none];intro y hy hp;rw[h y hy]at hp;cases hp
section
variable {W w:World}{L L' R:List SP}{n c i e to:Nat}{ad adP:Option Addr}{k:Ks}{A:ou}{B:pw}{x:UInt8}{p:Pk}{bs:List UInt8}
theorem YA (I:U W w (az B k::L))(hk:WC k)(oQ:k.now≤1000000):Calls prog 300 #[pt B.cb] w λr V=>∃ ad c,r=.returned (.slice ad (bo k).1.length c)∧U W V (cu 124 ad (bo k).1.length c (bo k).1::az B (bo k).2::L):=by
 have hn:=hk.n;refine EN func300 ntmps300 rfl rfl λa E=>?_;refine CL 5 E I (x7 I) λa w E I=>?_;refine IF 0 E I (λaj a E=>?_) λaj a E=>?_
 ·
  refine RT 2 E I ?_;exact⟨none,0,by rw[bo,ak aj];rfl,by rw[bo,ak aj];exact cu.nil I⟩
 have hq:bo k=(match (bH { k with now:=k.now+1 }).find? (λi=>decide (jg { k with now:=k.now+1 } i)) with
  | some i=>([],{ k with now:=k.now+1,ev:=k.ev++[(2,i,0)],cl:=true })
  | none=>((bH { k with now:=k.now+1 }).map λi=>(k.me,i,aS (dP { k with now:=k.now+1 } i)),{ k with now:=k.now+1 })):=by rw[bo,ae (by rw[aj];decide)];rfl
 obtain⟨A,I⟩:=az.open I;refine RN 6 E I λa E=>?_;rw[show ((k.now:Nat):Int)+1=((k.now+1:Nat):Int) from by omega]at E;refine ST 2 E I (λa w E I=>?_);refine RN 0 E I λa E=>?_;replace I:=az.fold I B { k with now:=k.now+1 } A;have eS:WC { k with now:=k.now+1 }:=hk.Ar;have py:=hk.kQ;have ES:({ k with now:=k.now+1 }:Ks).now≤1000001:=by show k.now+1≤_;omega
 have ET:({ k with now:=k.now+1 }:Ks).ev.length≤9:=py;have hY:bo k=(match (bH { k with now:=k.now+1 }).find? (λi=>decide (jg { k with now:=k.now+1 } i)) with
  | some i=>([],{ ({ k with now:=k.now+1 }:Ks) with ev:=({ k with now:=k.now+1 }:Ks).ev++[(2,i,0)],cl:=true })
  | none=>((bH { k with now:=k.now+1 }).map λi=>(({ k with now:=k.now+1 }:Ks).me,i,aS (dP { k with now:=k.now+1 } i)),{ k with now:=k.now+1 })):=hq
 clear hq;have EU:2≤({ k with now:=k.now+1 }:Ks).n∧({ k with now:=k.now+1 }:Ks).n≤8:=hn;generalize ({ k with now:=k.now+1 }:Ks)=k1 at I eS hY ES ET EU;have dW:=KM k1;refine aY 5 E I (EP I eS) λmo co a w E I=>?_;refine RN 2 E I λa E=>?_;replace E:Fr a 61 ((20,.int .i64 (0:Nat))::(19,.int .i64 (bH k1).length)::(18,.slice mo (bH k1).length co)::(3,.slice none 0 0)::(0,pt B.cb)::[]):=E.ab [20,19,18,3,0];refine aR (λμ a w=>∃ (j:Nat),(μ=(bH k1).length-j∧j≤(bH k1).length∧∀ y∈(bH k1).take j,decide (jg k1 y)=false)∧Fr a 61 [(0,pt B.cb),(3,.slice none 0 0),(18,.slice mo (bH k1).length co),(19,.int .i64 (bH k1).length),(20,.int .i64 j)]∧U W w (Sl 3 1 mo (bH k1).length co (mn (bH k1))::az B k1::L)) ((bH k1).length) (⟨0,⟨rfl,by omega,λy hy=>by simp at hy⟩,E.ab [0,3,18,19,20],I⟩) ?_;clear E I;rintro μ a w ⟨j,⟨rfl,hj,bU⟩,E,I⟩;refine IF 3 E I (λao a E=>?_) λao a E=>?_
 ·
  have dG:j<(bH k1).length:=by omega
  obtain⟨i,hi⟩:∃ i,(bH k1)[j]?=some i:=⟨_,aI dG⟩;obtain⟨kz,oo,rfl,gA⟩:=I.bY mo (by omega);have cD:=(um.1 (bK hi)).1;have ij:=eS.pq cD;have aJ:i<k1.ps.length:=by rw[eS.ps];exact cD
  have qT:=az.rd (I.tail);obtain⟨cP,eB⟩:=qT.pl;refine RN 3 E I λa E=>?_;refine SS E (ag E (gA j _ (EM hi))) λa E=>?_;refine RN 2 E I λa E=>?_;have sP:rj w.drew B k1:=az.rd (I.drew.tail);have tD:w.drew.cell? ⟨B.cb,11,none⟩=some (.slice (some ⟨B.bp,B.op,none⟩) k1.ps.length cP):=eB;refine qF 0 (Old w.drew) [7,9,10,11] [0,1,2,4,5,6,8,3003,1007,1009,1010,1011,12,13] E I λa E=>?_;replace I:=I.drew;have hH:=Hd.gf I;have hC:=Old.refl w.drew;generalize w.drew=w at I hH hC sP tD ⊢;refine RH 7 E I hH hC λa E=>?_;refine QH E (λw hc=>ag E (hc.cell (sP.now))) hC λa E=>?_;refine RH 0 E I hH hC λa E=>?_;refine SS E (ag E (tD)) λa E=>?_;refine RH 2 E I hH hC λa E=>?_;refine SS E (ag E (sP.pe i _ (ur aJ) 1 _ rfl)) λa E=>?_;refine RH 2 E I hH hC λa E=>?_;refine IF 0 E I (λay a E=>?_) λay a E=>?_
  ·
   have hlt:jg k1 i:=by rw[jg];omega
   rw[KP bU hi (dk hlt)]at hY;refine CL 4 E I (EJ (e:=(2,i,0)) (I.pick (az B k1)) ⟨by simp,by simp,by show i<8;omega,by simp,.inr rfl⟩ (by omega)) λa w E I=>?_;refine RN 1 E I λa E=>?_;obtain⟨A2,I⟩:=az.open I;refine ST 3 E I (λa w E I=>?_);refine RN 0 E I λa E=>?_;replace I:=az.fold I B { k1 with ev:=k1.ev++[(2,i,0)],cl:=true } A2;refine RT 2 E I ?_;rw[hY];exact⟨none,0,rfl,cu.nil I.sub⟩
  have hlt:¬ jg k1 i:=by rw[jg];omega
  refine RN 2 E I λa E=>?_;exact⟨(bH k1).length-(j+1),by omega,j+1,⟨rfl,by omega,λy hy=>by
   rw[iX dG,eM,mem_singleton]at hy;rcases hy with hy | rfl
   ·exact bU y hy
   ·rw[(a2.1 hi).2];exact bn hlt⟩,E.ab [0,3,18,19,20],I⟩
 obtain rfl:j=(bH k1).length:=by omega
 rw[take_length]at bU;rw[KQ bU]at hY;clear bU;refine aY 3 E I (EP (I.tail) eS) λya yb a w E I=>?_;refine RN 2 E I λa E=>?_;replace I:=U.bM (U.iI (f:=b0) I) 124 3 none;replace E:Fr a 61 ((49,.int .i64 (0:Nat))::(48,.int .i64 (bH k1).length)::(47,.slice ya (bH k1).length yb)::(3,.slice none 0 0)::(0,pt B.cb)::[]):=E.ab [49,48,47,3,0];refine aR (λμ a w=>∃ (j:Nat) (xs:List Mx) (ad:Option Addr) (c:Nat),(μ=(bH k1).length-j∧j≤(bH k1).length∧xs.map (·.2.2)=Ax k1 j∧xs.length=j)∧Fr a 61 [(0,pt B.cb),(3,.slice ad j c),(47,.slice ya (bH k1).length yb),(48,.int .i64 (bH k1).length),(49,.int .i64 j)]∧U W w (Sl 124 3 ad j c (rows bZ xs)::ah b0 xs::Sl 3 1 ya (bH k1).length yb (mn (bH k1))::az B k1::L)) ((bH k1).length) (⟨0,[],none,0,⟨rfl,by omega,rfl,rfl⟩,E.ab [0,3,47,48,49],I⟩) ?_;clear E I;rintro μ a w ⟨j,xs,ad,c,⟨rfl,hj,eC,cj⟩,E,I⟩;refine IF 3 E I (λbh a E=>?_) λbh a E=>?_
 ·
  obtain⟨i,hi⟩:∃ i,(bH k1)[j]?=some i:=⟨_,aI (by omega)⟩;obtain⟨kz,oo,rfl,gA⟩:=(I.pick (Sl 3 1 ya (bH k1).length yb (mn (bH k1)))).bY ya (by omega);have cD:=(um.1 (bK hi)).1;refine RN 3 E I λa E=>?_;refine SS E (ag E (gA j _ (EM hi))) λa E=>?_;refine aY 4 E I (Yx (to:=i) (I.pick (az B k1)) eS cD) λad2 c2 a w E I=>?_;refine RN 0 E I λa E=>?_;refine cn E rfl I underlying108 Ty.t124 rfl rfl rfl rfl (by decide) (by decide) λb57 a w E I ho=>?_;clear ho;refine RN 0 E I λa E=>?_;refine cI E rfl I underlying108 Ty.t124 rfl rfl I.ai rfl (by simp[Value.oneCell']) (by decide) (by decide) (by omega) λKR KS a w E I=>?_;rw[show rows bZ xs++_=rows bZ (xs++[(ad2,c2,(k1.me,i,aS (dP k1 i)))]) from by rw[j9];rfl]at I;refine RN 3 E I λa E=>?_;have dx:=U.jG (f:=b0) (x:=(ad2,c2,(k1.me,i,aS (dP k1 i)))) (I.sub (M:=b0 (ad2,c2,(k1.me,i,aS (dP k1 i)))::ah b0 xs::Sl 124 3 KR (j+1) KS (rows bZ (xs++[(ad2,c2,(k1.me,i,aS (dP k1 i)))]))::Sl 3 1 (some ⟨kz,oo,none⟩) (bH k1).length yb (mn (bH k1))::az B k1::L));exact⟨(bH k1).length-(j+1),by omega,j+1,xs++[(ad2,c2,(k1.me,i,aS (dP k1 i)))],KR,KS,⟨rfl,by omega,by
   have dG:j<(bH k1).length:=by omega
   rw[cQ,eC,Ax,Ax,iX dG,cQ,(a2.1 hi).2];rfl,by rw[aL,cj];rfl⟩,E.ab [0,3,47,48,49],dx.sub⟩
 refine RT 3 E I ?_;obtain rfl:j=(bH k1).length:=by omega
 rw[Ax,take_length]at eC;have ib:((bH k1).map λi=>(k1.me,i,aS (dP k1 i))).length=(bH k1).length:=bd _;rw[hY];refine⟨ad,c,by rw[ib],?_⟩;rw[ib];exact cu.close (xs:=xs) I.sub eC ib
theorem WC.peer (h:WC k){q:Pe}(hi:i<k.n)(hq:q.has≤1000∧q.frame≤1000∧q.sum<4294967296)(hh:q.heard≤k.now)(E:q.apart=(ar k i).apart):WC { k with ps:=k.ps.set i q } :=
 h.Ao (ev:=k.ev) (cl:=k.cl) hq hh h.bx (by rw[Eu (by rw[h.ps];exact hi) E];exact h.oq)
theorem WC.line (h:WC k){l:List UInt8}(hl:l.length≤1000):WC { k with ls:=k.ls.set i l } :=
 { h with
  ls:=by show (k.ls.set i l).length=_;rw[br];exact h.ls
  m5:=λy hy=>by
   rcases mem_set hy with hy | rfl
   ·exact h.m5 y hy
   ·exact hl }
theorem KT {ls:List (List UInt8)}{i j:Nat}{l:List UInt8}(h:i≠j):(ls.set i l).getD j []=ls.getD j []:=by
 rw[bl,getElem?_set_ne h,← bl]
theorem az.KU (I:U W w L)(B:pw)(k:Ks)(A:ou)(q1 q2:Pe)[kk:fD L [aa B.cb 257 (il { k with ps:=k.ps.set i q1 } B A),Sl 259 5 (some ⟨B.bp,B.op,none⟩) (k.ps.set i q1).length A.cP (rows iC (k.ps.set i q2)),Sl 100 1 A.ck k.mr.length A.cM (c4 k.mr),Sl 135 1 A.adE k.ev.length A.cE (k.ev.map cx),Qu B.qb B.aB k.ls] R]:U W w (az B { k with ps:=k.ps.set i q2 }::R):=by
 have h1:=I.perm kk.perm;rw[show il { k with ps:=k.ps.set i q1 } B A=il { k with ps:=k.ps.set i q2 } B A from by simp only[il,br],show (k.ps.set i q1).length=(k.ps.set i q2).length from by simp only[br]]at h1;exact az.close (A:=A) h1
theorem az.YB (I:U W w L)(B:pw)(k:Ks)(A:ou)(q2:Pe)[kk:fD L [aa B.cb 257 (il k B A),Sl 259 5 (some ⟨B.bp,B.op,none⟩) k.ps.length A.cP (rows iC (k.ps.set i q2)),Sl 100 1 A.ck k.mr.length A.cM (c4 k.mr),Sl 135 1 A.adE k.ev.length A.cE (k.ev.map cx),Qu B.qb B.aB k.ls] R]:U W w (az B { k with ps:=k.ps.set i q2 }::R):=by
 have h1:=I.perm kk.perm;rw[show il k B A=il { k with ps:=k.ps.set i q2 } B A from by simp only[il,br],show k.ps.length=(k.ps.set i q2).length from by simp only[br]]at h1;exact az.close (A:=A) h1
theorem Az (h:k.cl=true):dh bs k=(6,k):=by rw[dh,ak h]
theorem KV (h:k.cl=false)(hd:ew bs=none):dh bs k=(1,k):=by rw[dh,ae (by rw[h];decide),hd]
theorem v7 (h:k.cl=false)(hd:ew bs=some p)(hx:p.to≠k.me∨(k.n:Int)≤p.aV∨p.id≠k.id):dh bs k=(1,k):=by
 rw[dh,ae (by rw[h];decide),hd];show (if _ then _ else _)=_;rw[ak hx]
theorem KW (h:k.cl=false)(hd:ew bs=some p)(hx:¬ (p.to≠k.me∨(k.n:Int)≤p.aV∨p.id≠k.id)):dh bs k=(0,fR k p):=by
 rw[dh,ae (by rw[h];decide),hd];show (if _ then _ else _)=_;rw[ae hx]
set_option maxHeartbeats 2000000 in
theorem YC (I:U W w (az B k::L))(hk:WC k)(hb:bs.length≤65536)(hc:bs.length≤c)(hp:∀ V,U W V L→a6 V ad bs.length bs) :
   Calls prog 299 #[pt B.cb,.slice ad bs.length c] w λr V=>r=.returned (.int .i64 (dh bs k).1)∧U W V (az B (dh bs k).2::L):=by
 have hn:=hk.n;refine EN func299 ntmps299 rfl rfl λa E=>?_;refine CL 5 E I (x7 I) λa w E I=>?_;refine IF 0 E I (λaj a E=>?_) λaj a E=>?_
 ·
  refine RT 2 E I ?_;exact⟨by rw[Az aj],by rw[Az aj];exact I⟩
 refine jJ 2 E I (XJ I hb hc (λV hw=>hp V hw.tail)) ?_;clear E I;rintro e w ⟨p,adP,cP,ok,rfl,hd,I⟩;refine⟨_,rfl,λa E=>?_⟩;refine AL 3 E I λb5 a w E I=>?_;refine SA 0 E I λa w E I=>?_;refine RN 3 E I λa E=>?_;obtain⟨A,I⟩:=az.open (I.pick (az B k));refine bQ 0 [9,19,29] [0,1,2,3,5,6,7,8,3004,1009,10,11,12,13,15,16,17,18,3014,1019,20,21,22,23,25,26,27,28,3024,1029,30,31] E I λa w E I hH hC=>?_;refine RH 3 E I hH hC λa E=>?_;refine E.by (s:=17) (λbA E=>?_) (λbA E=>?_)
 ·
  have dm:ok=false:=by cases ok with | false=>rfl | true=>exact absurd rfl bA
  have c8:ew bs=none:=by
   rcases hd with ⟨h,_⟩ | ⟨_,h,_⟩
   ·rw[dm]at h;cases h
   ·exact h
  refine RH 29 E I hH hC λa E=>?_;refine RT 3 E I ?_;rw[KV aj c8];exact⟨rfl,(az.fold I B k A).sub⟩
 have dm:ok=true:=by cases ok with | true=>rfl | false=>exact absurd bA (by decide)
 have pz:ew bs=some p:=by
  rcases hd with ⟨_,h⟩ | ⟨h,_⟩
  ·exact h
  ·rw[dm]at h;cases h
 obtain⟨sQ,gz,_⟩:=DY pz;have EV:=sQ.1;refine RH 10 E I hH hC λa E=>?_;refine E.by (s:=27) (λhS E=>?_) (λhS E=>?_)
 ·
  refine RH 19 E I hH hC λa E=>?_;refine RT 3 E I ?_;rw[v7 aj pz (.inl hS)];exact⟨rfl,(az.fold I B k A).sub⟩
 refine RH 10 E I hH hC λa E=>?_;refine E.by (s:=37) (λph E=>?_) (λph E=>?_)
 ·
  refine RH 9 E I hH hC λa E=>?_;refine RT 3 E I ?_;rw[v7 aj pz (.inr (.inl ph))];exact⟨rfl,(az.fold I B k A).sub⟩
 refine RH 9 E I hH hC λa E=>?_;refine IF 0 E I (λao a E=>?_) λao a E=>?_
 ·
  refine RT 2 E I ?_;rw[v7 aj pz (.inr (.inr ao))];exact⟨rfl,(az.fold I B k A).sub⟩
 have bU:¬ (p.to≠k.me∨(k.n:Int)≤p.aV∨p.id≠k.id):=by
  rintro (h | h | h)
  ·exact h hS
  ·omega
  ·exact h ao
 rw[KW aj pz bU];clear hd dm;obtain⟨fr,fo⟩:=Int.eq_ofNat_of_zero_le EV.1;have gZ:fr<k.n:=by omega
 have gw:fr<k.ls.length:=by rw[hk.ls];exact gZ
 have m6:fr<k.ps.length:=by rw[hk.ps];exact gZ
 have EW:fr≠k.me:=by have:=sQ.2.2.1;omega
 have ij:=hk.pq gZ;have jx:p.aV.toNat=fr:=by omega
 refine bQ 1 [5] [0,1,2,4,3003,1005,6,7] E I λa w E I hH hC=>?_;refine RH 6 E I hH hC λa E=>?_;rw[fo]at E;refine RH 2 E I hH hC λa E=>?_;refine RN 8 E I λa E=>?_;refine lT (off:=B.op) (k:=fr*5+1) E rfl I Ty.t3 rfl (by omega) (by rw[iW jz];omega) λa w E I=>?_;rw[pX jz k.ps { ar k fr with heard:=k.now } m6 (by decide) (by rw[KG m6];rfl)]at I;have ch:=hk.peer (q:={ ar k fr with heard:=k.now }) gZ ⟨ij.1,ij.2.2⟩ (bf _) rfl;replace I:=az.YB (i:=fr) I B k A { ar k fr with heard:=k.now };refine IF 5 E I (λay a E=>?_) λay a E=>?_
 ·
  refine RN 4 E I λa E=>?_;rw[fo]at E;refine CL 1 E I (EJ (e:=(1,fr,0)) I ⟨by simp,by simp,by show fr<8;omega,by simp,.inr rfl⟩ (by have:=hk.kQ;show k.ev.length≤100;omega)) λa w E I=>?_;refine RN 1 E I λa E=>?_;obtain⟨A2,I⟩:=az.open I;refine ST 3 E I (λa w E I=>?_);refine RN 0 E I λa E=>?_;replace I:=az.fold I B { k with ps:=k.ps.set fr { ar k fr with heard:=k.now },ev:=k.ev++[(1,fr,0)],cl:=true } A2;refine RT 2 E I ?_;refine⟨rfl,?_⟩;rw[fR,ak ay,jx];exact I.sub
 refine RN 1 E I λa E=>?_;have gU:eG p.first∧eG p.c9∧eG p.frame∧p.al.length≤32:=by
  rcases sQ.2.2.2.2 with h | h
  ·exact h.2
  ·exact absurd h.1 ay
 simp only[eG]at gU;obtain⟨fi,v8⟩:=Int.eq_ofNat_of_zero_le gU.1.1;obtain⟨kT,AA⟩:=Int.eq_ofNat_of_zero_le gU.2.1.1;obtain⟨j1,EX⟩:=Int.eq_ofNat_of_zero_le gU.2.2.1.1;obtain⟨D,I,hD⟩:=az.EI I;have KX:∀ V L',U W V (Qu B.qb B.aB k.ls::D::L')→rj V B { k with ps:=k.ps.set fr { ar k fr with heard:=k.now } }:=λV L' h=>az.rd (hD V L' _ h);refine aZ 0 (λw0 V=>Rd V b5 0 (dI p adP cP)∧rj V B { k with ps:=k.ps.set fr { ar k fr with heard:=k.now } }) [5,6,8,10] [0,1,2,4,7,9,3003,3005,3008,3010,1006,1011] E I λa w E I hH=>?_;have hC:=hH.at w ⟨I.ai (b:=b5),KX _ _ I⟩;refine RH 6 E I hH hC λa E=>?_;refine QH E (λw hc=>ag E (hc.2.cf 10 _ rfl)) hC λa E=>?_;refine QH E (λw hc=>ag E (hc.1 1 _ rfl)) hC λa E=>?_;rw[fo]at E;refine RH 0 E I hH hC λa E=>?_;refine QH E (λw hc=>ag E (hc.1 4 _ rfl)) hC λa E=>?_;rw[v8]at E;refine RH 0 E I hH hC λa E=>?_;refine QH E (λw hc=>ag E (hc.1 5 _ rfl)) hC λa E=>?_;refine RH 0 E I hH hC λa E=>?_;refine CL 0 E I (sK I gw) λa w E I=>?_;replace hC:=hH.at w ⟨I.ai (b:=b5),KX _ _ I⟩;refine RH 0 E I hH hC λa E=>?_;refine aY 0 E I (X5 (fr:=fi) (bs:=p.al) I gw (hk.lL gZ) (by omega) (λV hw=>(hw.pick (Sl 5 1 adP p.al.length cP (bc p.al))).cF adP p.al rfl rfl)) λKY er a w E I=>?_;refine RN 0 E I λa E=>?_;replace I:=hD _ _ _ I;have mL:=ch.line (i:=fr) (l:=ds (k.ls.getD fr []) fi p.al) (ra (hk.lL gZ)).2;have gJ:aF ({ k with ls:=k.ls.set fr (ds (k.ls.getD fr []) fi p.al),ps:=k.ps.set fr { ar k fr with heard:=k.now } }:Ks)=aF k:=by
  show ((k.ls.set fr _).getD k.me []).length=_;rw[KT EW];rfl
 have wa:(k.ps.set fr { ar k fr with heard:=k.now })[fr]?=some { ar k fr with heard:=k.now }:=getElem?_set_self m6;refine b7 (M:=λa w=>∃ hh:Nat,hh=(if (ar k fr).has<kT∧kT≤aF k then kT else (ar k fr).has)∧Fr a 127 [(0,pt B.cb),(5,pt b5),(7,.pointer (some ⟨B.bp,B.op+fr*5,none⟩))]∧U W w (az B { k with ls:=k.ls.set fr (ds (k.ls.getD fr []) fi p.al),ps:=k.ps.set fr { ar k fr with heard:=k.now,has:=hh } }::aa b5 203 (dI p adP cP)::L)) ?_ ?_
 ·
  refine aZ 1 (λw0 V=>Rd V b5 0 (dI p adP cP)∧rj V B { k with ls:=k.ls.set fr (ds (k.ls.getD fr []) fi p.al),ps:=k.ps.set fr { ar k fr with heard:=k.now } }) [5,11] [0,2,3,4,3001,1005,6,7,8,10,3009,1011,12,13] E I λa w E I hH=>?_;have hC:=hH.at w ⟨I.ai (b:=b5),az.rd I⟩;refine RH 4 E I hH hC λa E=>?_;refine QH E (λw hc=>ag E (hc.1 6 _ rfl)) hC λa E=>?_;refine RH 0 E I hH hC λa E=>?_;refine SS E (ag E (hC.2.pe fr _ wa 0 (.int .i64 (ar k fr).has) rfl)) λa E=>?_;refine RH 2 E I hH hC λa E=>?_;refine E.by (s:=91) (λjv E=>?_) (λjv E=>?_)
  ·
   refine RH 2 E I hH hC λa E=>?_;refine QH E (λw hc=>ag E (hc.1 6 _ rfl)) hC λa E=>?_;refine RH 0 E I hH hC λa E=>?_;refine CL 0 E I (sM I mL) λa w E I=>?_;replace hC:=hH.at w ⟨I.ai (b:=b5),az.rd I⟩;rw[gJ]at E;refine RH 2 E I hH hC λa E=>?_;refine IF 0 E I (λbh a E=>?_) λbh a E=>?_
   ·
    obtain⟨A2,I⟩:=az.open I;refine RN 3 E I λa E=>?_;rw[AA]at E;refine RN 2 E I λa E=>?_;refine lT (off:=B.op) (k:=fr*5+0) E rfl I Ty.t3 rfl (by omega) (by rw[iW jz,br];omega) λa w E I=>?_;rw[pX jz (k.ps.set fr { ar k fr with heard:=k.now }) { ar k fr with heard:=k.now,has:=kT } (by rw[br];exact m6) (by decide) (by rw[getElem_set_self];rfl),set_set]at I;replace I:=az.KU (i:=fr) I B { k with ls:=k.ls.set fr (ds (k.ls.getD fr []) fi p.al) } A2 { ar k fr with heard:=k.now } { ar k fr with heard:=k.now,has:=kT };refine RN 0 E I λa E=>?_;exact⟨kT,by rw[ak ⟨by omega,by omega⟩],E.ab [0,5,7],I.sub⟩
   refine RN 0 E I λa E=>?_;exact⟨_,by rw[ae (by omega)],E.ab [0,5,7],I.sub⟩
  refine RH 6 E I hH hC λa E=>?_;refine RN 1 E I λa E=>?_;exact⟨_,by rw[ae (by omega)],E.ab [0,5,7],I.sub⟩
 clear E;(try clear I);rintro a w ⟨hh,yc,E,I⟩;refine b7 (M:=λa w=>∃ q:Pe,(q=fQ k.now (aF k) p (ar k fr)∧WC { k with ls:=k.ls.set fr (ds (k.ls.getD fr []) fi p.al),ps:=k.ps.set fr q })∧Fr a 127 [(0,pt B.cb)]∧U W w (az B { k with ls:=k.ls.set fr (ds (k.ls.getD fr []) fi p.al),ps:=k.ps.set fr q }::aa b5 203 (dI p adP cP)::L)) ?_ ?_
 ·
  refine bQ 1 [9] [0,1001,2,3,4,6,7,8,3005,1009,10,11] E I λa w E I hH hC=>?_;have we:(k.ps.set fr { ar k fr with heard:=k.now,has:=hh })[fr]?=some { ar k fr with heard:=k.now,has:=hh }:=getElem?_set_self m6;have qT:rj w B { k with ls:=k.ls.set fr (ds (k.ls.getD fr []) fi p.al),ps:=k.ps.set fr { ar k fr with heard:=k.now,has:=hh } }:=az.rd I;have EY:p.c9.toNat=kT:=by omega
  have EZ:p.frame.toNat=j1:=by omega
  have hP:fQ k.now (aF k) p (ar k fr)=(if 0<p.frame∧((ar k fr).frame:Int)≤p.frame then { ar k fr with heard:=k.now,has:=hh,frame:=j1,sum:=p.sum } else { ar k fr with heard:=k.now,has:=hh }):=by
   rw[fQ,EY,EZ,yc]
  have uv:hh≤1000:=by rw[yc];split <;> omega
  refine RH 4 E I hH hC λa E=>?_;refine E.by (s:=106) (λbS E=>?_) (λbS E=>?_)
  ·
   refine RH 5 E I hH hC λa E=>?_;refine bE E (cS E rfl (s:=106)) (ag E (qT.pe fr _ we 2 (.int .i64 (ar k fr).frame) rfl)) rfl λa E=>?_;refine RH 2 E I hH hC λa E=>?_;refine IF 0 E I (λbR a E=>?_) λbR a E=>?_
   ·
    refine RN 0 E I λa E=>?_;obtain⟨A3,I⟩:=az.open I;refine aZ 0 (λw0 V=>Rd V b5 0 (dI p adP cP)) [5,8] [0,1,2,4,3003,6,7,3005,1008,9,10,1011] E I λa w E I hH=>?_;have hC:=hH.at w (I.ai (b:=b5));refine RH 4 E I hH hC λa E=>?_;refine QH E (λw hc=>ag E (hc 7 _ rfl)) hC λa E=>?_;rw[EX]at E;refine RH 2 E I hH hC λa E=>?_;refine QH E (λw hc=>ag E (hc 8 _ rfl)) hC λa E=>?_;refine RH 0 E I hH hC λa E=>?_;refine lT (off:=B.op) (k:=fr*5+2) E rfl I Ty.t3 rfl (by omega) (by rw[iW jz,br];omega) λa w E I=>?_;replace hC:=hH.at w (I.ai (b:=b5));rw[pX jz (k.ps.set fr { ar k fr with heard:=k.now,has:=hh }) { ar k fr with heard:=k.now,has:=hh,frame:=j1 } (by rw[br];exact m6) (by decide) (by rw[getElem_set_self];rfl),set_set]at I;refine RH 2 E I hH hC λa E=>?_;refine lT (off:=B.op) (k:=fr*5+3) E rfl I Ty.t100 rfl (by omega) (by rw[iW jz,br];omega) λa w E I=>?_;rw[pX jz (k.ps.set fr { ar k fr with heard:=k.now,has:=hh,frame:=j1 }) { ar k fr with heard:=k.now,has:=hh,frame:=j1,sum:=p.sum } (by rw[br];exact m6) (by decide) (by rw[getElem_set_self];rfl),set_set]at I;replace I:=az.KU (i:=fr) I B { k with ls:=k.ls.set fr (ds (k.ls.getD fr []) fi p.al) } A3 { ar k fr with heard:=k.now,has:=hh } { ar k fr with heard:=k.now,has:=hh,frame:=j1,sum:=p.sum };refine RN 0 E I λa E=>?_;exact⟨_,⟨by rw[hP,ak (by omega)],(hk.peer (q:={ ar k fr with heard:=k.now,has:=hh,frame:=j1,sum:=p.sum }) gZ ⟨uv,by show j1≤1000;omega,gz⟩ (bf _) rfl).line (ra (hk.lL gZ)).2⟩,E.ab [0],I.sub⟩
   refine RN 0 E I λa E=>?_;exact⟨_,⟨by rw[hP,ae (by omega)],(hk.peer (q:={ ar k fr with heard:=k.now,has:=hh }) gZ ⟨uv,ij.2.2⟩ (bf _) rfl).line (ra (hk.lL gZ)).2⟩,E.ab [0],I⟩
  refine RH 8 E I hH hC λa E=>?_;refine RN 1 E I λa E=>?_;exact⟨_,⟨by rw[hP,ae (by omega)],(hk.peer (q:={ ar k fr with heard:=k.now,has:=hh }) gZ ⟨uv,ij.2.2⟩ (bf _) rfl).line (ra (hk.lL gZ)).2⟩,E.ab [0],I⟩
 clear E;(try clear I);rintro a w ⟨q,⟨YD,oe⟩,E,I⟩;refine CL 2 E I (KH I oe) λa w E I=>?_;refine RT 2 E I ?_;refine⟨rfl,?_⟩;have yd:p.first.toNat=fi:=by omega
 rw[fR,ae ay,jx,yd,← YD];exact I.sub
end
end
section
section
variable {W w:World}{L:List SP}{c cO cP q:Nat}{aq adP:Option Addr}{b:List UInt8}{g:Nat→Int}{p:Pr}{fr:Int}{bad:Bool}
def Jv (q:Nat)(g:Nat→Int)(bad:Bool):SP:=λh=>(dM g∧bad=false)∧aa q 296 (ints .i32 32 g) h
theorem Jv.open (I:U W w (Jv q g bad::L)):(dM g∧bad=false)∧U W w (aa q 296 (ints .i32 32 g)::L):=by
 obtain⟨_,h1,h2⟩:=I.jo (ι:=Unit) (p:=λ_=>dM g∧bad=false) (B:=λ_=>aa q 296 (ints .i32 32 g)) (λh ⟨h1,h2⟩=>⟨(),h1,h2⟩);exact⟨h1,h2⟩
theorem Jv.close (I:U W w (aa q 296 (ints .i32 32 g)::L))(h1:dM g):U W w (Jv q g false::L) :=
 U.shut (M:=[_]) I (λ_ ⟨_,_,_,a,b,x,_⟩=>⟨⟨h1,rfl⟩,a _ _ x⟩)
theorem YE {c:Nat}(hc:c<32)(I:U W w (Jv q g bad::L)):Calls prog 351 (List.toArray [pt q,.int .i64 c]) w λe V=>e=.returned (.int .i32 (g c))∧U W V (Jv q g bad::L):=by
 have hj:=Jv.open I;clear I;obtain⟨⟨h1,rfl⟩,I⟩:=hj;refine EN func351 ntmps351 rfl rfl λa E=>?_;refine RN 8 E I λa E=>?_;refine SS E (ag E (I.bB (fO _ hc))) λa E=>?_;refine RT 1 E I ?_;exact⟨rfl,Jv.close I h1⟩
theorem YF {c:Nat}{v:Int}(hc:c<32)(hv:dq v)(I:U W w (Jv q g bad::L)):Calls prog 352 (List.toArray [pt q,.int .i64 c,.int .i32 v]) w λe V =>
   ∃ (g':Nat→Int) (fm:Bool),e=.returned (.tuple #[])∧((fm=true∧g'=g)∨(fm=false∧bad=false∧g'=cd g c v))∧U W V (Jv q g' fm::L):=by
 have hj:=Jv.open I;clear I;obtain⟨⟨h1,rfl⟩,I⟩:=hj;refine EN func352 ntmps352 rfl rfl λa E=>?_;refine ST 6 E I (λa w E I=>?_) (hlt:=(by rw[df];exact hc));rw[ints_set]at I;refine RT 0 E I ?_;exact⟨cd g c v,false,rfl,.inr ⟨rfl,rfl,rfl⟩,Jv.close I (nv h1 hv)⟩
theorem YG:xx W 294 ⟨q,0,none⟩ 351 352 (Jv q) where
 n3:=λad w=>by kernel_rfl
 n4:=(by kernel_rfl)
 zE:=λad w=>by kernel_rfl
 vi:=(by kernel_rfl)
 ok:=λw L g bad h=>(Jv.open h).1.1
 get:=λw L g bad c hc h=>YE hc h
 set:=λw L g bad c v hc hv h=>YF hc hv h
theorem KZ (I:U W w (aA W p aq cO::L))(a1:dg p)(aE:p.title.size≤1000000000)(hg:dM g)(hb:b.length≤1099511627776)(hp:∀ V,U W V L→a6 V adP b.length b) :
   Calls prog 137 #[.agg (bP p aq cO).toArray,.agg (ints .i32 32 g).toArray,.int .i64 fr,.slice adP b.length cP] w λe V=>e=.returned (.agg (ints .i32 32 (eW p fr b g)).toArray)∧U W V (aA W p aq cO::L):=by
 refine EN func137 ntmps137 rfl rfl λa E=>?_;refine BX 1 E I λb4 a w E I=>?_;change U W w (aa b4 45 (bP p aq cO)::_) at I;refine BX 0 E I λb5 a w E I=>?_;refine AL 0 E I λb8 a w E I=>?_;change U W w (aa b8 183 (ints .i32 32 (λ_=>0))::_) at I;refine RN 2 E I λa E=>?_;refine SK (bE E rfl (Hm E Ty.Qz Ty.t296 (cs:=ints .i32 32 g) rfl) rfl ?_);clear E a;intro a E;refine BX 0 E I λE0 a w E I=>?_;refine RN 7 E I λa E=>?_;replace I:=Jv.close (I.jD E0) hg;refine jI 0 E I (I4 (M:=YG (q:=E0)) (L:=aa b8 183 (ints .i32 32 (λ_=>0))::L) (I.sub (M:=Jv E0 g false::aA W p aq cO::aa b8 183 (ints .i32 32 (λ_=>0))::L)) a1 aE hb (λV hw=>hp V hw.tail)) λg' fm KY a w E ⟨oc,I⟩=>?_;refine RN 1 E I λa E=>?_;have hj:=Jv.open I;clear I;obtain⟨⟨hg',rfl⟩,I⟩:=hj;obtain⟨_,rfl⟩:=oc rfl;refine SA 4 E I λa w E I=>?_;refine RT 0 E I ?_;exact⟨rfl,I.sub⟩
theorem K0 {P:List (List UInt8)}{zs:List ea}(I:U W w (aA W p aq cO::L))(a1:dg p)(aE:p.title.size≤1000000000)(hg:dM g)(hP:P.length≤65536∧∀ b∈P,b.length≤1099511627776)(hf:-1099511627776≤fr∧fr≤1099511627776)(hz:zs.map (·.2.2)=P)(hp:∀ V,U W V L→iJ V adP zs) :
   Calls prog 280 #[.agg (bP p aq cO).toArray,.agg (ints .i32 32 g).toArray,.int .i64 fr,.slice adP P.length cP] w λe V=>e=.returned (.agg (ints .i32 32 (foldI p fr g P)).toArray)∧U W V (aA W p aq cO::L):=by
 have iU:zs.length=P.length:=by rw[← hz,bd]
 have sy:=hP.1;refine EN func280 ntmps280 rfl rfl λa E=>?_;refine BX 1 E I λb4 a w E I=>?_;change U W w (aa b4 45 (bP p aq cO)::_) at I;refine BX 0 E I λb5 a w E I=>?_;refine AL 0 E I λb8 a w E I=>?_;change U W w (aa b8 183 (ints .i32 32 (λ_=>0))::_) at I;refine RN 5 E I λa E=>?_;refine aR (λμ a w=>∃ (i:Nat) (g':Nat→Int),(μ=P.length-i∧i≤P.length∧dM g'∧foldI p fr g P=foldI p (fr+i) g' (P.drop i))∧Fr a 27 [(2,.int .i64 fr),(4,pt b4),(5,pt b5),(8,pt b8),(11,.slice adP P.length cP),(12,.int .i64 P.length),(13,.int .i64 i)]∧U W w (aa b5 183 (ints .i32 32 g')::aa b4 45 (bP p aq cO)::aa b8 183 (ints .i32 32 (λ_=>0))::aA W p aq cO::L)) (P.length) (⟨0,g,⟨by simp,by simp,hg,by simp⟩,E.ab [2,4,5,8,11,12,13],I.sub⟩) ?_;clear E I;rintro μ a w ⟨i,g',⟨rfl,hi,eF,lB⟩,E,I⟩;refine IF 3 E I (λaj a E=>?_) λaj a E=>?_
 ·
  obtain⟨z,kl⟩:∃ z,zs[i]?=some z:=⟨_,aI (by omega)⟩;have p3:P[i]?=some z.2.2:=by rw[← hz,bm,kl];rfl
  obtain⟨bp,op,rfl,de⟩:=(hp _ (I.sub (M:=L))).1 (by omega);have E1:=de i (aM z) (by rw[bm,kl];rfl);have pA:=hP.2 _ (bK p3);have DA:foldI p fr g P=foldI p (fr+(i+1:Nat)) (eW p (fr+i) z.2.2 g') (P.drop (i+1)):=by
   rw[lB,ka (by omega),foldI];have:P[i]'(by omega)=z.2.2:=by rw[aI (by omega)]at p3;exact Option.some.inj p3
   rw[this]
   congr 1
   omega
  refine RN 4 E I λa E=>?_;refine SS E (ag E (E1)) λa E=>?_;rw[aM]at E;refine CL 8 E I (KZ (I.pick (aA W p aq cO)) a1 aE eF pA (λV hw=>(hp V hw.sub).2 z (bK kl))) λa w E I=>?_;refine SA 0 E I λa w E I=>?_;refine RN 2 E I λa E=>?_;exact⟨P.length-(i+1),by omega,i+1,_,⟨rfl,by omega,Kr a1 eF,DA⟩,E.ab [2,4,5,8,11,12,13],I.sub⟩
 refine RN 1 E I λa E=>?_;obtain rfl:i=P.length:=by omega
 rw[List.drop_length,foldI]at lB;refine SA 1 E I λa w E I=>?_;refine RT 0 E I ?_;exact⟨by rw[lB],I.sub⟩
end
end
section
theorem qj (k:IntKind)(m:Nat)(x:Int):List.replicate m (Value.int k x)=ints k m (λ_=>x):=by
 apply ext_getElem (by simp[ints,fn]);intro i h1 h2;simp[ints,fn]
abbrev di (b:Gs)(adT:Option Addr)(cT:Nat):List Value:=[.int .i64 b.kind,.int .i64 b.order,.slice adT b.table.length cT]
theorem YH (l:List UInt8)(k:Nat):bc (l.drop k)=(bc l).drop k:=by rw[bc,bc,map_drop]
section
variable {W w:World}{L:List SP}{n c m cT:Nat}{ad adT:Option Addr}{past:List UInt8}{b:Gs}
theorem ye (I:U W w L):Calls prog 98 #[.agg (di b adT cT).toArray] w λe V=>∃ r:Bool,e=.returned (.bool r)∧(r=true↔cR b)∧U W V L:=by
 refine EN func98 ntmps98 rfl rfl λa E=>?_;refine BX 1 E I λb1 a w E I=>?_;change U W w (aa b1 186 (di b adT cT)::_) at I;refine IF 8 E I (λaj a E=>?_) λaj a E=>?_
 ·
  refine BY 5 E I (λbS a E=>?_) λbS a E=>?_
  ·
   refine RT 6 E I ?_;exact⟨_,rfl,(by rw[cp,cR];omega),I.sub⟩
  refine RT 6 E I ?_;exact⟨_,rfl,⟨λh=>(by cases h),λh=>by rw[cR]at h;exfalso;omega⟩,I.sub⟩
 refine IF 3 E I (λao a E=>?_) λao a E=>?_
 ·
  refine BY 5 E I (λbS a E=>?_) λbS a E=>?_
  ·
   refine BY 5 E I (λfa a E=>?_) λfa a E=>?_
   ·
    refine RT 6 E I ?_;exact⟨_,rfl,(by rw[cp,cR];omega),I.sub⟩
   refine RT 6 E I ?_;exact⟨_,rfl,⟨λh=>(by cases h),λh=>by rw[cR]at h;exfalso;omega⟩,I.sub⟩
  refine RT 11 E I ?_;exact⟨_,rfl,⟨λh=>(by cases h),λh=>by rw[cR]at h;exfalso;omega⟩,I.sub⟩
 refine IF 3 E I (λay a E=>?_) λay a E=>?_
 ·
  refine BY 5 E I (λbS a E=>?_) λbS a E=>?_
  ·
   refine BY 6 E I (λtZ a E=>?_) λtZ a E=>?_
   ·
    refine RT 6 E I ?_;exact⟨_,rfl,(by rw[cp,cR];omega),I.sub⟩
   refine RT 6 E I ?_;exact⟨_,rfl,⟨λh=>(by cases h),λh=>by rw[cR]at h;exfalso;omega⟩,I.sub⟩
  refine RT 12 E I ?_;exact⟨_,rfl,⟨λh=>(by cases h),λh=>by rw[cR]at h;exfalso;omega⟩,I.sub⟩
 refine RT 2 E I ?_;exact⟨_,rfl,⟨λh=>(by cases h),λh=>by rw[cR]at h;exfalso;omega⟩,I.sub⟩
theorem K1 (I:U W w L)(hb:cR b)(eB:past.length≤4000)(jP:past.length≤c)(hp:∀ V,U W V L→a6 V ad past.length past) :
   Calls prog 324 #[.agg (di b adT cT).toArray,.slice ad past.length c] w λe V=>e=.returned (.agg (ints .i64 256 (gB b past)).toArray)∧U W V L:=by
 simp only[cR]at hb;refine EN func324 ntmps324 rfl rfl λa E=>?_;refine BX 1 E I λb2 a w E I=>?_;change U W w (aa b2 186 (di b adT cT)::_) at I;refine AL 0 E I λb4 a w E I=>?_;rw[qj]at I;refine AL 1 E I λb5 a w E I=>?_;rw[qj]at I;refine BY 6 E I (λbS a E=>?_) λbS a E=>?_
 ·
  refine SA 9 E I λa w E I=>?_;refine RT 0 E I ?_;exact⟨by rw[gB,ae (by omega)],I.sub⟩
 refine IF 6 E I (λaj a E=>?_) λaj a E=>?_
 ·
  refine SA 2 E I λa w E I=>?_;refine RT 0 E I ?_;exact⟨by rw[gB,ak (by omega),xX (by omega)],I.sub⟩
 refine RN 1 E I λa E=>?_;have ch:b.kind=2:=by omega
 obtain⟨o,ho⟩:∃ o:Nat,b.order=(o:Int):=⟨b.order.toNat,by omega⟩;rw[di,ho]at I;have dW:o≤past.length:=by omega
 have kL:gB b past=gX o past past.length:=by rw[gB,ak ch,ho,Int.toNat_natCast]
 refine RN 6 E I λa E=>?_;rw[show ((past.length:Nat):Int)-(o:Int)=((past.length-o:Nat):Int) from by omega]at E;refine RN 7 E I λa E=>?_;rw[show past.length-(past.length-o)=o from by omega]at E;have YI:o≤3:=by omega
 refine aR (λμ a w=>∃ (i:Nat),(μ=past.length-i∧o≤i∧i≤past.length)∧Fr a 52 [(1,.slice ad past.length c),(2,pt b2),(4,pt b4),(5,pt b5),(6,.slice (fk ad (past.length-o) c 1) o (c-(past.length-o))),(7,.int .i64 i)]∧U W w (aa b5 320 (ints .i64 256 (gX o past i))::aa b4 320 (ints .i64 256 (λ_=>0))::aa b2 186 [.int .i64 b.kind,.int .i64 o,.slice adT b.table.length cT]::L)) (past.length-o) (⟨o,⟨rfl,bf _,dW⟩,E.ab [1,2,4,5,6,7],by rw[xX (bf _)];exact I.sub⟩) ?_;clear E I;rintro μ a w ⟨i,⟨rfl,E2,hi⟩,E,I⟩;refine IF 6 E I (λao a E=>?_) λao a E=>?_
 ·
  have aJ:i<past.length:=by omega
  have nh:=Al o past i past[i].toNat;have qe:=lF past[i];refine RN 7 E I λa E=>?_;rw[show ((i:Nat):Int)-(o:Int)=((i-o:Nat):Int) from by omega]at E;refine RN 2 E I λa E=>?_;rw[show i-(i-o)=o from by omega]at E;refine CL 1 E I (JZ I ((hp _ I.tail.tail.tail).xY (lo:=i-o) (n:=o) (by omega) jP) (by have:=(hp _ I.tail.tail.tail).xY (lo:=past.length-o) (n:=o) (by omega) jP;exact this)) λa w E I=>?_;refine IF 0 E I (λay a E=>?_) λay a E=>?_
  ·
   obtain⟨bb,oo,rfl,hr⟩:=(hp _ I.tail.tail.tail).get (by omega);refine RN 3 E I λa E=>?_;refine SS E (ag E (hr i _ (dO aJ))) λa E=>?_;refine RN 1 E I λa E=>?_;refine SS E (ag E (I.bB (fO _ qe))) λa E=>?_;refine ST 2 E I (λa w E I=>?_) (hlt:=(by rw[df];omega));rw[ints_set]at I;refine RN 3 E I λa E=>?_;exact⟨past.length-(i+1),by omega,i+1,⟨rfl,by omega,by omega⟩,E.ab [1,2,4,5,6,7],by
    rw[show gX o past (i+1)=λj=>if j=past[i].toNat then gX o past i past[i].toNat+1 else gX o past i j from by
     rw[gX,ak ⟨E2,by rw[xW,← ay,fX (l:=past.drop (past.length-o)) (by rw[c6];omega)]⟩,bl,aI aJ];rfl]
    exact I.sub⟩
  refine RN 3 E I λa E=>?_;exact⟨past.length-(i+1),by omega,i+1,⟨rfl,by omega,by omega⟩,E.ab [1,2,4,5,6,7],by
   rw[show gX o past (i+1)=gX o past i from by
    rw[gX,ae (λh=>by
     have h2:=h.2;rw[xW,← fX (l:=past.drop (past.length-o)) (i:=o) (by rw[c6];omega)]at h2;rw[h2]at ay;cases ay)]]
   exact I.sub⟩
 obtain rfl:i=past.length:=by omega
 refine SA 2 E I λa w E I=>?_;refine RT 0 E I ?_;exact⟨by rw[kL],I.sub⟩
theorem K2 (I:U W w L)(eB:past.length≤4000)(hp:∀ V,U W V L→a6 V ad past.length past) :
   Calls prog 326 #[.slice ad past.length c] w λe V=>e=.returned (.int .u8 ((ie past).toNat:Nat))∧U W V L:=by
 refine EN func326 ntmps326 rfl rfl λa E=>?_;refine IF 7 E I (λaj a E=>?_) λaj a E=>?_
 ·
  refine RT 2 E I ?_;exact⟨by rw[ie,g5 (l:=past) (by omega)];rfl,I⟩
 refine RN 1 E I λa E=>?_;obtain⟨bb,oo,rfl,hr⟩:=(hp _ I).get (by omega);refine RN 4 E I λa E=>?_;rw[show ((past.length:Nat):Int)-1=((past.length-1:Nat):Int) from by omega]at E;refine RN 1 E I λa E=>?_;refine SS E (ag E (hr (past.length-1) _ (dO (by omega)))) λa E=>?_;refine RT 1 E I ?_;refine⟨?_,I⟩;have h0:past≠[]:=λh=>by rw[h]at aj;simp at aj
 rw[ie,getLastD_eq_getLast?,List.getLast?_eq_getElem?,aI (by omega)];rfl
theorem K3 (I:U W w L)(hb:cR b)(eB:past.length≤4000)(jP:past.length≤c)(hp:∀ V,U W V L→a6 V ad past.length past)(ht:∀ V,U W V L→a6 V adT b.table.length b.table) :
   Calls prog 325 #[.agg (di b adT cT).toArray,.slice ad past.length c] w λe V=>e=.returned (.int .u8 ((m4 b past).toNat:Nat))∧U W V L:=by
 have kZ:=hb;simp only[cR]at kZ;refine EN func325 ntmps325 rfl rfl λa E=>?_;refine BX 1 E I λb2 a w E I=>?_;change U W w (aa b2 186 (di b adT cT)::_) at I;refine IF 6 E I (λaj a E=>?_) λaj a E=>?_
 ·
  refine bQ 1 [5,6,7] [0,2,3,4,3001,1005,1006,1007,8,1009,10] E I λa w E I hH hC=>?_;obtain⟨YJ,YK,rfl,tO⟩:=(ht _ I.tail).get (by omega);have E3:past.length%b.table.length<b.table.length:=Nat.mod_lt _ (by omega);refine RH 8 E I hH hC λa E=>?_;rw[nP]at E;refine RH 1 E I hH hC λa E=>?_;refine SS E (ag E (tO (past.length%b.table.length) _ (kN E3))) λa E=>?_;refine RH 1 E I hH hC λa E=>?_;refine RT 0 E I ?_;exact⟨by rw[m4,ak (by omega)],I.sub⟩
 refine CL 3 E I (K1 I hb eB jP (λV hw=>hp V hw.tail)) λa w E I=>?_;refine AL 0 E I λb5 a w E I=>?_;rw[qj]at I;refine SA 0 E I λa w E I=>?_;refine CL 2 E I (K2 I eB (λV hw=>hp V hw.tail.tail)) λa w E I=>?_;refine RN 5 E I λa E=>?_;have E4:=lF (ie past);refine aR (λμ a w=>∃ (i:Nat),(μ=256-i∧i≤256)∧Fr a 41 [(2,pt b2),(5,pt b5),(6,.int .u8 (lK (gB b past) (ie past).toNat i:Nat)),(27,.agg (ints .i64 256 (gB b past)).toArray),(28,.int .i64 i)]∧U W w (aa b5 320 (ints .i64 256 (gB b past))::aa b2 186 (di b adT cT)::L)) (256) (⟨0,⟨rfl,by omega⟩,E.ab [2,5,6,27,28],I.sub⟩) ?_;clear E I;rintro μ a w ⟨i,⟨rfl,hi⟩,E,I⟩;refine IF 3 E I (λao a E=>?_) λao a E=>?_
 ·
  have nW:=Er (w:=gB b past) E4 (i:=i) hi;have AB:i<256:=by omega
  refine RN 3 E I λa E=>?_;refine SS E (rM E underlying320 underlying3 rfl Ty.t3 (by omega) (fO _ AB)) λa E=>?_;refine RN 6 E I λa E=>?_;refine SS E (ag E (I.bB (fO _ nW))) λa E=>?_;refine IF 1 E I (λay a E=>?_) λay a E=>?_
  ·
   refine SX 1 E I (by rw[wrap_u8];omega) λa E=>?_;refine RN 3 E I λa E=>?_;exact⟨256-(i+1),by omega,i+1,⟨rfl,by omega⟩,by rw[show lK (gB b past) (ie past).toNat (i+1)=i from by rw[lK,ak (by omega)]];exact E.ab [2,5,6,27,28],I.sub⟩
  refine RN 2 E I λa E=>?_;exact⟨256-(i+1),by omega,i+1,⟨rfl,by omega⟩,by rw[show lK (gB b past) (ie past).toNat (i+1)=lK (gB b past) (ie past).toNat i from by rw[lK,ae (by omega)]];exact E.ab [2,5,6,27,28],I.sub⟩
 obtain rfl:i=256:=by omega
 have nW:=Er (w:=gB b past) E4 (i:=256) (by omega);refine RT 3 E I ?_;exact⟨by rw[m4,ae (by omega),UInt8.toNat_ofNat',Nat.mod_eq_of_lt (by omega)],I.sub⟩
theorem YL (I:U W w L)(eB:past.length≤4000)(hp:∀ V,U W V L→a6 V ad past.length past) :
   Calls prog 329 #[.slice ad past.length c] w λe V=>∃ av c',e=.returned (.slice av past.length c')∧U W V (Sl 5 1 av past.length c' (bc past)::L):=by
 obtain⟨h1,h2,h3⟩:=hp _ I;cases o4:ad with
 | none =>
  have h0:=h2 o4;rw[g5 (l:=past) h0];refine EN func329 ntmps329 rfl rfl λa E=>?_;refine RN 6 E I λa E=>?_;replace E:=E.ef 4;refine RT 3 E I ?_;exact⟨_,_,rfl,I.bM _ _ _⟩
 | some a =>
  rw[← o4];refine EN func329 ntmps329 rfl rfl λa E=>?_;refine RN 6 E I λa E=>?_;rw[show ad.isNone=false from by rw[o4];rfl]at E;replace E:=E.aN 4;refine RN 2 E I λa E=>?_;refine tp E rfl I underlying22 Ty.t5 rfl λb5 a w E I ho=>?_;clear ho;replace I:U W w (Sl 5 1 (some ⟨b5,0,none⟩) 0 0 []::L):=I.tail.bM _ _ _;refine RN 1 E I λa E=>?_;refine gV E rfl I underlying22 Ty.t5 rfl rfl (by decide) (λh0=>(hp _ I.tail).get h0) (by rw[dw];omega) (ep _) (by omega) λrU qH a w E I=>?_;rw[nil_append,Nat.zero_add]at I;rw[Nat.zero_add]at E;refine RT 1 E I ?_;exact⟨_,_,rfl,I⟩
theorem YM {to:Int}(I:U W w L)(hb:cR b)(eB:past.length≤1001)(jP:past.length≤c)(hn:m≤1000)(hp:∀ V,U W V L→a6 V ad past.length past)(ht:∀ V,U W V L→a6 V adT b.table.length b.table) :
   Calls prog 311 #[.agg (di b adT cT).toArray,.slice ad past.length c,.int .i64 m] w λe V=>∃ av c',e=.returned (.slice av m c')∧U W V (Sl 5 1 av m c' (bc (jZ b past m))::L):=by
 refine EN func311 ntmps311 rfl rfl λa E=>?_;refine BX 1 E I λb3 a w E I=>?_;change U W w (aa b3 186 (di b adT cT)::_) at I;refine bg 4 E I (ye I) λr a w E ⟨hr,I⟩=>?_;rw[hr.2 hb]at E;refine RN 1 E I λa E=>?_;replace E:=E.aN 10;refine aY 3 E I (YL I (by omega) (λV hw=>hp V hw.tail)) λld dK a w E I=>?_;refine RN 6 E I λa E=>?_;rw[show min (max (m:Int) 0) 1000=(m:Int) from by omega]at E;refine RN 1 E I λa E=>?_;refine aR (λμ a w=>∃ (i:Nat) (ad2:Option Addr) (c2:Nat),(μ=m-i∧i≤m)∧Fr a 29 [(1,.slice ad past.length c),(3,pt b3),(7,.slice ad2 (eh b past i).length c2),(15,.int .i64 m),(16,.int .i64 i)]∧U W w (Sl 5 1 ad2 (eh b past i).length c2 (bc (eh b past i))::aa b3 186 (di b adT cT)::L)) (m) (⟨0,ld,dK,⟨rfl,by omega⟩,E.ab [1,3,7,15,16],I⟩) ?_;clear E I;rintro μ a w ⟨i,ad2,c2,⟨rfl,hi⟩,E,I⟩;refine IF 3 E I (λao a E=>?_) λao a E=>?_
 ·
  have cg:=ig b past i;have E5:=(I.sl ad2).2;refine CL 4 E I (K3 I hb (by omega) E5 (λV hw=>hw.cF ad2 (eh b past i) rfl rfl) (λV hw=>ht V hw.tail.tail)) λa w E I=>?_;refine RN 0 E I λa E=>?_;refine cn E rfl I underlying22 Ty.t5 rfl rfl rfl rfl (by decide) (by decide) λtT a w E I ho=>?_;clear ho;refine RN 0 E I λa E=>?_;refine cI E rfl I underlying22 Ty.t5 rfl rfl I.ai rfl (ep [m4 b (eh b past i)]) (by decide) (by decide) (by omega) λgm gn a w E I=>?_;rw[show bc (eh b past i)++_=bc (eh b past (i+1)) from (fH _ [_]).symm,show (eh b past i).length+1=(eh b past (i+1)).length from by rw[ig,ig];omega]at I;rw[show (eh b past i).length+1=(eh b past (i+1)).length from by rw[ig,ig];omega]at E;refine RN 3 E I λa E=>?_;exact⟨m-(i+1),by omega,i+1,gm,gn,⟨rfl,by omega⟩,E.ab [1,3,7,15,16],I.sub⟩
 obtain rfl:i=m:=by omega
 have cg:=ig b past i;refine RT 6 E I ?_;have h1:=I.BR ad2 past.length (eh b past i).length (by omega) (bf _);rw[show (eh b past i).length-past.length=i from by omega,Nat.mul_one,Nat.mul_one,← YH,fX (by rw[dw,c6];omega),show List.drop past.length (eh b past i)=jZ b past i from rfl]at h1;refine⟨_,_,by rw[show (eh b past i).length-past.length=i from by omega],h1.sub⟩
end
end
end Go.Proofs.YteoldcfapaiobaaGreat
