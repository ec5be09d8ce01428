/- What a player knows, in memory: core.May, New, Conf, Queue, Head, Closed, Press, note, hold, Mark, Marks, Events. -/
import Derived.Test.YteoldcfapaiobaaGreatA08Pkt3
import Derived.Test.YteoldcfapaiobaaGreatA09CoQ
import Derived.Test.YteoldcfapaiobaaGreatA05Vm
import Derived.Test.YteoldcfapaiobaaGreatA06Ref
import Derived.Test.YteoldcfapaiobaaGreatA01Row
namespace Go.Proofs.YteoldcfapaiobaaGreat
open Tryz
open List (length_range take_succ_cons nil_append ext_getElem getElem_set_self take_length set_set map_drop mem_singleton range_succ getElem?_set_ne getElem?_set_self length_filter_le replicate_succ' getLastD_eq_getLast?)
open Go.RowKit
set_option linter.unusedVariables false
set_option linter.unusedSimpArgs false
set_option maxRecDepth 10000
set_option synthInstance.maxSize 4000
set_option synthInstance.maxHeartbeats 400000
section
abbrev iA (p:Pe):List Value:=[.int .i64 p.has,.int .i64 p.heard,.int .i64 p.frame,.int .u32 p.sum,.bool p.apart]
theorem ju (p:Pe):(iA p).length=5:=rfl
theorem XR (p:Pe):∀ v∈iA p,v.oneCell'=true:=by
 intro v hv;simp[iA]at hv;rcases hv with rfl | rfl | rfl | rfl | rfl <;> rfl
def c6 (l:List Nat):List Value:=l.map λs:Nat=>Value.int .u32 (s:Int)
structure pj where
 cb:Nat
 qb:Nat
 aB:List Nat
 bp:Nat
 op:Nat
structure oe where
 cP:Nat
 cj:Option Addr
 cM:Nat
 adE:Option Addr
 cE:Nat
abbrev il (k:Ks)(B:pj)(A:oe):List Value:=[.int .i64 k.n,.int .i64 k.me,.int .i64 k.id,.int .i64 k.aH,.int .i64 k.bo,.int .i64 k.ba,.int .i64 k.order,.int .i64 k.cr,.int .i64 k.workers,.int .i64 k.room,
 pt B.qb,.slice (some ⟨B.bp,B.op,none⟩) k.ps.length A.cP,.slice A.cj k.mr.length A.cM,.slice A.adE k.ev.length A.cE,.int .i64 k.now,.bool k.cl]
def az (B:pj)(k:Ks):SP:=λh=>∃ A:oe,ck [aa B.cb 257 (il k B A),Sl 259 5 (some ⟨B.bp,B.op,none⟩) k.ps.length A.cP (rows iA k.ps),Sl 100 1 A.cj k.mr.length A.cM (c6 k.mr),Sl 135 1 A.adE k.ev.length A.cE (k.ev.map cy),Qu B.qb B.aB k.ls] h
section
variable {W w:World}{L L' R:List SP}{n c cb qb i:Nat}{ad:Option Addr}{aB:List Nat}{k:Ks}{A:oe}{B:pj}{cf:Cf}{e:jV}
theorem az.open (I:V W w (az B k::L)):∃ A:oe,V W w (aa B.cb 257 (il k B A)::Sl 259 5 (some ⟨B.bp,B.op,none⟩) k.ps.length A.cP (rows iA k.ps)::Sl 100 1 A.cj k.mr.length A.cM (c6 k.mr)::Sl 135 1 A.adE k.ev.length A.cE (k.ev.map cy)::Qu B.qb B.aB k.ls::L):=by
 obtain⟨A,_,I⟩:=I.jj (ι:=oe) (p:=λ_=>True) (B:=λA h=>ck [aa B.cb 257 (il k B A),Sl 259 5 (some ⟨B.bp,B.op,none⟩) k.ps.length A.cP (rows iA k.ps),Sl 100 1 A.cj k.mr.length A.cM (c6 k.mr),Sl 135 1 A.adE k.ev.length A.cE (k.ev.map cy),Qu B.qb B.aB k.ls] h) λ_ ⟨A,h⟩=>⟨A,trivial,h⟩;exact⟨A,I.open (M:=[_,_,_,_,_]) λ_ h=>h⟩
theorem az.close (I:V W w (aa B.cb 257 (il k B A)::Sl 259 5 (some ⟨B.bp,B.op,none⟩) k.ps.length A.cP (rows iA k.ps)::Sl 100 1 A.cj k.mr.length A.cM (c6 k.mr)::Sl 135 1 A.adE k.ev.length A.cE (k.ev.map cy)::Qu B.qb B.aB k.ls::L)):V W w (az B k::L) :=
 V.shut (M:=[_,_,_,_,_]) I λ_ h=>⟨A,h⟩
theorem az.mk' (I:V W w L)(A:oe)[kk:fD L (aa B.cb 257 (il k B A)::Sl 259 5 (some ⟨B.bp,B.op,none⟩) k.ps.length A.cP (rows iA k.ps)::Sl 100 1 A.cj k.mr.length A.cM (c6 k.mr)::Sl 135 1 A.adE k.ev.length A.cE (k.ev.map cy)::Qu B.qb B.aB k.ls::L') R]:V W w (az B k::L'):=az.close (A:=A) I.sub
theorem az.fold (I:V W w L)(B:pj)(k:Ks)(A:oe)[kk:fD L [aa B.cb 257 (il k B A),Sl 259 5 (some ⟨B.bp,B.op,none⟩) k.ps.length A.cP (rows iA k.ps),Sl 100 1 A.cj k.mr.length A.cM (c6 k.mr),Sl 135 1 A.adE k.ev.length A.cE (k.ev.map cy),Qu B.qb B.aB k.ls] R]:V W w (az B k::R):=az.close (A:=A) (I.perm kk.perm)
theorem og {x lo hi:Int}(I:V W w L):Calls prog 167 #[.int .i64 x,.int .i64 lo,.int .i64 hi] w λe w'=>∃ r:Bool,e=.returned (.bool r)∧(r=true↔fv x lo hi)∧V W w' L:=by
 refine EN func167 ntmps167 rfl rfl λa E=>?_;refine BY 7 E I (λbP a E=>?_) λbP a E=>?_
 ·
  refine RT 5 E I ?_;exact⟨_,rfl,⟨λh=>⟨bP,of_decide_eq_true h⟩,λh=>dd h.2⟩,I⟩
 refine RT 5 E I ?_;exact⟨_,rfl,⟨λh=>(by cases h),λh=>by have:=h.1;omega⟩,I⟩
theorem Kl (I:V W w L):Calls prog 130 #[.agg (b7 cf).toArray] w λe w'=>∃ r:Bool,e=.returned (.bool r)∧(r=true↔fg cf)∧V W w' L:=by
 refine EN func130 ntmps130 rfl rfl λa E=>?_;refine BX 1 E I λb1 a w E I=>?_;change V W w (aa b1 28 (b7 cf)::_) at I;refine RN 1 E I λa E=>?_;refine bZ (M:=λa w=>∃ z:Bool,(z=true↔(fv cf.n 2 8∧fv cf.me 0 (cf.n-1)∧fv cf.id 0 1099511627776))∧Fr a 73 [(1,pt b1),(3,.bool z)]∧V W w (aa b1 28 (b7 cf)::L)) ?_ ?_
 ·
  refine bd 2 E I (og I) λr1 a w E ⟨fa,I⟩=>?_;refine BY 1 E I (λbP a E=>?_) λbP a E=>?_
  ·
   refine RN 4 E I λa E=>?_;refine SK (bz E (cW E rfl (s:=8)) (yD E) rfl ?_);clear E a;intro a E;have mV:IntKind.i64.wrap (cf.n-1)=cf.n-1:=gr (by have:=(fa.1 bP).1;omega) (by have:=(fa.1 bP).2;omega);rw[mV]at E;refine bd 0 E I (og I) λr2 a w E ⟨eU,I⟩=>?_;refine BY 2 E I (λkA a E=>?_) λkA a E=>?_
   ·
    refine BY 5 E I (λtD a E=>?_) λtD a E=>?_
    ·
     refine RN 5 E I λa E=>?_;exact⟨_,⟨λh=>⟨fa.1 bP,eU.1 kA,tD,of_decide_eq_true h⟩,λh=>dd h.2.2.2⟩,E.ab [1,3],I⟩
    refine RN 5 E I λa E=>?_;exact⟨_,⟨λh=>(by cases h),λh=>by have:=h.2.2.1;omega⟩,E.ab [1,3],I⟩
   refine RN 10 E I λa E=>?_;exact⟨_,⟨λh=>(by cases h),λh=>by have:=eU.2 h.2.1;rw[kA]at this;cases this⟩,E.ab [1,3],I⟩
  refine RN 18 E I λa E=>?_;exact⟨_,⟨λh=>(by cases h),λh=>by have:=fa.2 h.1;rw[bP]at this;cases this⟩,E.ab [1,3],I⟩
 clear E;(try clear I);rintro a w ⟨z1,c5,E,I⟩;refine bZ (M:=λa w=>∃ z:Bool,(z=true↔(fv cf.aH 0 8∧fv cf.bo 1 16∧fv cf.ba 1 3∧fv cf.order 0 3))∧Fr a 73 [(1,pt b1),(3,.bool z1),(4,.bool z)]∧V W w (aa b1 28 (b7 cf)::L)) ?_ ?_
 ·
  refine bd 2 E I (og I) λr1 a w E ⟨fa,I⟩=>?_;refine BY 1 E I (λbP a E=>?_) λbP a E=>?_
  ·
   refine bd 2 E I (og I) λr2 a w E ⟨eU,I⟩=>?_;refine BY 2 E I (λfb a E=>?_) λfb a E=>?_
   ·
    refine bd 2 E I (og I) λr3 a w E ⟨jP,I⟩=>?_;refine BY 2 E I (λmU a E=>?_) λmU a E=>?_
    ·
     refine bd 2 E I (og I) λVJ a w E ⟨p0,I⟩=>?_;refine RN 2 E I λa E=>?_;exact⟨_,⟨λh=>⟨fa.1 bP,eU.1 fb,jP.1 mU,p0.1 h⟩,λh=>p0.2 h.2.2.2⟩,E.ab [1,3,4],I⟩
    refine RN 5 E I λa E=>?_;exact⟨_,⟨λh=>(by cases h),λh=>by have:=jP.2 h.2.2.1;rw[mU]at this;cases this⟩,E.ab [1,3,4],I⟩
   refine RN 10 E I λa E=>?_;exact⟨_,⟨λh=>(by cases h),λh=>by have:=eU.2 h.2.1;rw[fb]at this;cases this⟩,E.ab [1,3,4],I⟩
  refine RN 15 E I λa E=>?_;exact⟨_,⟨λh=>(by cases h),λh=>by have:=fa.2 h.1;rw[bP]at this;cases this⟩,E.ab [1,3,4],I⟩
 clear E;(try clear I);rintro a w ⟨z2,eN,E,I⟩;refine BY 3 E I (λmM a E=>?_) λmM a E=>?_
 ·
  refine BY 3 E I (λdE a E=>?_) λdE a E=>?_
  ·
   refine BY 4 E I (λfb a E=>?_) λfb a E=>?_
   ·
    have En:cf.order=0∨cf.ba=2:=.inl fb;refine bd 8 E I (og I) λr1 a w E ⟨fa,I⟩=>?_;refine BY 2 E I (λpc a E=>?_) λpc a E=>?_
    ·
     refine bd 2 E I (og I) λr2 a w E ⟨eU,I⟩=>?_;refine BY 2 E I (λtY a E=>?_) λtY a E=>?_
     ·
      refine bd 2 E I (og I) λr3 a w E ⟨jP,I⟩=>?_;refine RT 2 E I ?_;exact⟨_,rfl,⟨λh=>⟨c5.1 mM,eN.1 dE,En,fa.1 pc,eU.1 tY,jP.1 h⟩,λh=>jP.2 h.2.2.2.2.2⟩,I.sub⟩
     refine RT 5 E I ?_;exact⟨_,rfl,⟨λh=>(by cases h),λh=>by have:=eU.2 h.2.2.2.2.1;rw[tY]at this;cases this⟩,I.sub⟩
    refine RT 10 E I ?_;exact⟨_,rfl,⟨λh=>(by cases h),λh=>by have:=fa.2 h.2.2.2.1;rw[pc]at this;cases this⟩,I.sub⟩
   refine BY 6 E I (λkz a E=>?_) λkz a E=>?_
   ·
    have En:cf.order=0∨cf.ba=2:=.inr kz;refine bd 2 E I (og I) λr1 a w E ⟨fa,I⟩=>?_;refine BY 2 E I (λpc a E=>?_) λpc a E=>?_
    ·
     refine bd 2 E I (og I) λr2 a w E ⟨eU,I⟩=>?_;refine BY 2 E I (λtY a E=>?_) λtY a E=>?_
     ·
      refine bd 2 E I (og I) λr3 a w E ⟨jP,I⟩=>?_;refine RT 2 E I ?_;exact⟨_,rfl,⟨λh=>⟨c5.1 mM,eN.1 dE,En,fa.1 pc,eU.1 tY,jP.1 h⟩,λh=>jP.2 h.2.2.2.2.2⟩,I.sub⟩
     refine RT 5 E I ?_;exact⟨_,rfl,⟨λh=>(by cases h),λh=>by have:=eU.2 h.2.2.2.2.1;rw[tY]at this;cases this⟩,I.sub⟩
    refine RT 10 E I ?_;exact⟨_,rfl,⟨λh=>(by cases h),λh=>by have:=fa.2 h.2.2.2.1;rw[pc]at this;cases this⟩,I.sub⟩
   refine RT 15 E I ?_;exact⟨_,rfl,⟨λh=>(by cases h),λh=>by have:=h.2.2.1;omega⟩,I.sub⟩
  refine RT 25 E I ?_;exact⟨_,rfl,⟨λh=>(by cases h),λh=>by have:=eN.2 h.2.1;rw[dE]at this;cases this⟩,I.sub⟩
 refine RT 28 E I ?_;exact⟨_,rfl,⟨λh=>(by cases h),λh=>by have:=c5.2 h.1;rw[mM]at this;cases this⟩,I.sub⟩
theorem XS (I:V W w L)(h:¬ fg cf):Calls prog 96 #[.agg (b7 cf).toArray] w λe w'=>e=.returned (.tuple #[.pointer none,.int .i64 1])∧V W w' L:=by
 refine EN func96 ntmps96 rfl rfl λa E=>?_;refine BX 1 E I λb1 a w E I=>?_;change V W w (aa b1 28 (b7 cf)::_) at I;refine bd 5 E I (Kl I) λr a w E ⟨hr,I⟩=>?_;rw[show r=false from by cases hh:r with | false=>rfl | true=>exact absurd (hr.1 hh) h]at E;refine RN 1 E I λa E=>?_;replace E:=E.eo 7;refine RT 4 E I ?_;exact⟨rfl,I.sub⟩
theorem Km {n me aH bo:Nat}{id ba order cr workers room:Int}(I:V W w L)(h:fg ⟨n,me,id,aH,bo,ba,order,cr,workers,room⟩) :
   Calls prog 96 #[.agg (b7 ⟨n,me,id,aH,bo,ba,order,cr,workers,room⟩).toArray] w λe w'=>∃ B,e=.returned (.tuple #[pt B.cb,.int .i64 0])∧V W w' (az B (fh ⟨n,me,id,aH,bo,ba,order,cr,workers,room⟩)::L):=by
 have hh:=h;obtain⟨⟨h1,h2,h3⟩,⟨h4,h5,h6,h7⟩,h8,h9,fF,mH⟩:=hh;simp only[fv] at *;refine EN func96 ntmps96 rfl rfl λa E=>?_;refine BX 1 E I λb1 a w E I=>?_;change V W w (aa b1 28 (b7 ⟨n,me,id,aH,bo,ba,order,cr,workers,room⟩)::_) at I;refine bd 5 E I (Kl I) λr a w E ⟨hr,I⟩=>?_;rw[hr.2 h]at E;refine RN 1 E I λa E=>?_;replace E:=E.aN 7;refine RN 1 E I λa E=>?_;refine bZ (M:=λa w=>∃ cb qb aB,Fr a 34 [(1,pt b1),(4,pt cb)]∧V W w (aa cb 257 [.int .i64 n,.int .i64 me,.int .i64 id,.int .i64 aH,.int .i64 bo,.int .i64 ba,.int .i64 order,.int .i64 cr,.int .i64 workers,.int .i64 room,pt qb,.slice none 0 0,.slice none 0 0,.slice none 0 0,.int .i64 0,.bool false]::Qu qb aB (List.replicate n (List.replicate aH 0))::aa b1 28 (b7 ⟨n,me,id,aH,bo,ba,order,cr,workers,room⟩)::L)) ?_ ?_
 ·
  refine aY 0 (λw0 w'=>Rd w' b1 0 (b7 ⟨n,me,id,aH,bo,ba,order,cr,workers,room⟩)) [2,4,5] [1,3,3000,3002,1004,1005,6,1007,8] E I λa w E I hH=>?_;have U:=hH.at w I.ai;refine RH 2 E I hH U λa E=>?_;refine QH E (λw hc=>bO E underlying28 rfl Ty.t28 (hc)) U λa E=>?_;simp only[b7]at E;refine RH 0 E I hH U λa E=>?_;refine QH E (λw hc=>ag E (hc 0 _ rfl)) U λa E=>?_;refine RH 0 E I hH U λa E=>?_;refine SS E (ag E (U 3 _ rfl)) λa E=>?_;refine RH 0 E I hH U λa E=>?_;refine a2 0 E I (XB (n:=n) (d:=aH) I (by omega) (by omega)) λqb aB a w E I=>?_;replace U:=hH.at w I.ai;refine RH 1 E I hH U λa E=>?_;refine gF E rfl I rfl λTx a w E I ho=>?_;clear ho;refine RN 1 E I λa E=>?_;exact⟨_,qb,aB,E.ab [1,4],I⟩
 clear E;(try clear I);rintro a w ⟨cb,qb,aB,E,I⟩;refine RN 5 E I λa E=>?_;replace I:=I.bH 259 5 none;refine aS (λμ a w=>∃ (i:Nat) (ad:Option Addr) (c:Nat),(μ=n-i∧i≤n)∧Fr a 34 [(1,pt b1),(4,pt cb),(17,.int .i64 n),(18,.int .i64 i)]∧V W w (aa cb 257 [.int .i64 n,.int .i64 me,.int .i64 id,.int .i64 aH,.int .i64 bo,.int .i64 ba,.int .i64 order,.int .i64 cr,.int .i64 workers,.int .i64 room,pt qb,.slice ad i c,.slice none 0 0,.slice none 0 0,.int .i64 0,.bool false]::Sl 259 5 ad i c (rows iA (List.replicate i (fw aH)))::Qu qb aB (List.replicate n (List.replicate aH 0))::aa b1 28 (b7 ⟨n,me,id,aH,bo,ba,order,cr,workers,room⟩)::L)) (n) (⟨0,none,0,⟨rfl,by omega⟩,E.ab [1,4,17,18],(I.perm (List.Perm.swap _ _ _):V W w (aa cb 257 _::Sl 259 5 none 0 0 []::_))⟩) ?_;clear E I;rintro μ a w ⟨i,ad,c,⟨rfl,hi⟩,E,I⟩;refine IF 3 E I (λan a E=>?_) λan a E=>?_
 ·
  refine bL 1 [6,7,8] [0,1,2,3,5,3004,1006,1007,1008,1009,10,11,1012] E I λa w E I hH U=>?_;refine RH 8 E I hH U λa E=>?_;refine cm E rfl I underlying255 Ty.t259 rfl rfl rfl rfl (by decide) (by decide) λHt a w E I ho=>?_;replace U:=U.trans ho;clear ho;refine RH 0 E I hH U λa E=>?_;refine cJ E rfl I underlying255 Ty.t259 rfl rfl I.ai rfl (XR (fw aH)) (by decide) (by decide) (by omega) λKn Ko a w E I=>?_;rw[show rows iA (List.replicate i (fw aH))++_=rows iA (List.replicate (i+1) (fw aH)) from by rw[replicate_succ',j5];rfl]at I;refine ST 2 E I (λa w E I=>?_);refine RN 2 E I λa E=>?_;exact⟨n-(i+1),by omega,i+1,Kn,Ko,⟨rfl,by omega⟩,E.ab [1,4,17,18],I.sub⟩
 obtain rfl:i=n:=by omega
 replace I:=I.bH 100 1 none;replace I:=I.bH 135 1 none;refine RT 4 E I ?_;obtain⟨bp,op,rfl,_⟩:=(I.pick (Sl 259 5 ad i c (rows iA (List.replicate i (fw aH))))).bY ad (by omega);refine⟨⟨cb,qb,aB,bp,op⟩,rfl,?_⟩;refine az.close (A:=⟨c,none,0,none,0⟩) ?_;have hl:(fh ⟨i,me,id,aH,bo,ba,order,cr,workers,room⟩).ps.length=i:=by simp[fh]
 rw[il,hl];exact I.sub (M:=aa cb 257 [.int .i64 i,.int .i64 me,.int .i64 id,.int .i64 aH,.int .i64 bo,.int .i64 ba,.int .i64 order,.int .i64 cr,.int .i64 workers,.int .i64 room,pt qb,.slice (some ⟨bp,op,none⟩) i c,.slice none 0 0,.slice none 0 0,.int .i64 0,.bool false]::Sl 259 5 (some ⟨bp,op,none⟩) i c (rows iA (List.replicate i (fw aH)))::Sl 100 1 none 0 0 []::Sl 135 1 none 0 0 []::Qu qb aB (List.replicate i (List.replicate aH 0))::L)
theorem Kp (I:V W w (az B k::L)):Calls prog 292 #[pt B.cb] w λe w'=>e=.returned (.agg (b7 (e4 k)).toArray)∧V W w' (az B k::L):=by
 obtain⟨A,I⟩:=az.open I;refine EN func292 ntmps292 rfl rfl λa E=>?_;refine AL 1 E I λb2 a w E I=>?_;refine RN 4 E I λa E=>?_;replace E:=E.aN 4;refine SA 6 E I λa w E I=>?_;refine RT 0 E I ?_;exact⟨rfl,az.close I.tail⟩
theorem oh (I:V W w (az B k::L)):Calls prog 134 #[pt B.cb] w λe w'=>e=.returned (pt B.qb)∧V W w' (az B k::L):=by
 obtain⟨A,I⟩:=az.open I;refine EN func134 ntmps134 rfl rfl λa E=>?_;refine RN 6 E I λa E=>?_;replace E:=E.aN 4;refine RT 7 E I ?_;exact⟨rfl,az.close I⟩
theorem az.Eo (I:V W w (az B k::L)):∃ D:SP,V W w (Qu B.qb B.aB k.ls::D::L)∧∀ (w':World) (L':List SP) (kj:List (List UInt8)),V W w' (Qu B.qb B.aB kj::D::L')→V W w' (az B { k with ls:=kj }::L'):=by
 obtain⟨A,I⟩:=az.open I;refine⟨λh=>ck [aa B.cb 257 (il k B A),Sl 259 5 (some ⟨B.bp,B.op,none⟩) k.ps.length A.cP (rows iA k.ps),Sl 100 1 A.cj k.mr.length A.cM (c6 k.mr),Sl 135 1 A.adE k.ev.length A.cE (k.ev.map cy)] h,?_,λw' L' kj I=>?_⟩
 ·refine V.perm (L:=(λh=>ck [aa B.cb 257 (il k B A),Sl 259 5 (some ⟨B.bp,B.op,none⟩) k.ps.length A.cP (rows iA k.ps),Sl 100 1 A.cj k.mr.length A.cM (c6 k.mr),Sl 135 1 A.adE k.ev.length A.cE (k.ev.map cy)] h)::Qu B.qb B.aB k.ls::L) ?_ (List.Perm.swap _ _ _);exact V.shut (M:=[_,_,_,_]) I λ_ h=>h
 ·have h1:=(I.perm (List.Perm.swap _ _ _)).open (M:=[_,_,_,_]) λ_ h=>h;exact az.close (k:={ k with ls:=kj }) (A:=A) h1
theorem az.qu (I:V W w (az B k::L)):∃ D:SP,V W w (Qu B.qb B.aB k.ls::D::L)∧∀ (w':World) (L':List SP),V W w' (Qu B.qb B.aB k.ls::D::L')→V W w' (az B k::L'):=by
 obtain⟨D,h1,h2⟩:=az.Eo I;exact⟨D,h1,λw' L' h=>h2 w' L' k.ls h⟩
theorem sG (I:V W w (az B k::L))(hk:WC k):Calls prog 275 #[pt B.cb] w λe w'=>e=.returned (.int .i64 (aF k))∧V W w' (az B k::L):=by
 have eA:k.me<k.ls.length:=by rw[hk.ls];exact hk.me
 refine EN func275 ntmps275 rfl rfl λa E=>?_;refine CL 4 E I (oh I) λa w E I=>?_;refine CL 1 E I (Kp I) λa w E I=>?_;refine RN 0 E I λa E=>?_;refine SS E (Hk E underlying28 rfl underlying3 rfl rfl) λa E=>?_;obtain⟨D,I,hD⟩:=az.qu I;refine CL 0 E I (sE I eA) λa w E I=>?_;refine CL 0 E I (xM I eA) λa w E I=>?_;refine RT 1 E I ?_;exact⟨rfl,hD _ _ I⟩
theorem xP (I:V W w (az B k::L)):Calls prog 179 #[pt B.cb] w λe w'=>e=.returned (.bool k.cl)∧V W w' (az B k::L):=by
 obtain⟨A,I⟩:=az.open I;refine EN func179 ntmps179 rfl rfl λa E=>?_;refine RN 6 E I λa E=>?_;replace E:=E.aN 5;refine RT 6 E I ?_;exact⟨rfl,az.close I⟩
theorem Kq (I:V W w (az B k::L)):Calls prog 133 #[pt B.cb] w λe w'=>e=.returned (.int .i64 k.mr.length)∧V W w' (az B k::L):=by
 obtain⟨A,I⟩:=az.open I;refine EN func133 ntmps133 rfl rfl λa E=>?_;refine RN 6 E I λa E=>?_;replace E:=E.aN 4;refine RT 8 E I ?_;exact⟨rfl,az.close I⟩
theorem Ep (I:V W w (az B k::L))(he:sF e)(hl:k.ev.length≤100):Calls prog 204 #[pt B.cb,.agg (bS e).toArray] w λr w'=>r=.returned (.tuple #[])∧V W w' (az B { k with ev:=k.ev++[e] }::L):=by
 obtain⟨A,I⟩:=az.open I;refine EN func204 ntmps204 rfl rfl λa E=>?_;refine BX 1 E I λb3 a w E I=>?_;change V W w (aa b3 102 (bS e)::_) at I;refine CL 2 E I (XM I he) λa w E I=>?_;refine AL 3 E I λb4 a w E I=>?_;refine SA 0 E I λa w E I=>?_;refine RN 3 E I λa E=>?_;replace E:=E.eo 11;refine bL 1 [5,6] [0,1,2,3,3004,1005,1006,1007,8,9,1010] E I λa w E I hH U=>?_;refine RH 6 E I hH U λa E=>?_;refine cm E rfl I underlying90 Ty.t135 rfl rfl rfl rfl (by decide) (by decide) λsm a w E I ho=>?_;replace U:=U.trans ho;clear ho;refine RH 0 E I hH U λa E=>?_;refine cJ E rfl I underlying90 Ty.t135 rfl rfl I.ai rfl (by simpa using Ek e) (by decide) (by decide) (by omega) λzw zx a w E I=>?_;rw[show List.map cy k.ev++_=List.map cy (k.ev++[e]) from by rw[cU];rfl,show k.ev.length+1=(k.ev++[e]).length from by simp]at I;rw[show k.ev.length+1=(k.ev++[e]).length from by simp]at E;refine ST 2 E I (λa w E I=>?_);refine RT 0 E I ?_;exact⟨rfl,az.mk' (k:={ k with ev:=k.ev++[e] }) I { A with adE:=zw,cE:=zx }⟩
structure q7 (w:World)(B:pj)(k:Ks):Prop where
 cf:Rd w B.cb 0 [.int .i64 k.n,.int .i64 k.me,.int .i64 k.id,.int .i64 k.aH,.int .i64 k.bo,.int .i64 k.ba,.int .i64 k.order,.int .i64 k.cr,.int .i64 k.workers,.int .i64 k.room,pt B.qb]
 now:w.cell? ⟨B.cb,14,none⟩=some (.int .i64 k.now)
 cl:w.cell? ⟨B.cb,15,none⟩=some (.bool k.cl)
 pe:∀ (i:Nat) (p:Pe),k.ps[i]?=some p→Rd w B.bp (B.op+i*5) (iA p)
 aef:∃ ad c,w.cell? ⟨B.cb,12,none⟩=some (.slice ad k.mr.length c)
 pl:∃ c,w.cell? ⟨B.cb,11,none⟩=some (.slice (some ⟨B.bp,B.op,none⟩) k.ps.length c)
theorem jv {α:Type}{f:α→List Value}{sz:Nat}(hf:∀ x,(f x).length=sz){l:List α}{i:Nat}{x:α}{b o:Nat}(h:Rd w b o (rows f l))(hx:l[i]?=some x):Rd w b (o+i*sz) (f x):=by
 obtain⟨hi,rfl⟩:=a1.1 hx;have h1:=h.part (i*sz) sz
 rwa [uS hf l i hi]at h1
theorem az.rd (I:V W w (az B k::L)):q7 w B k:=by
 obtain⟨A,I⟩:=az.open I;refine⟨I.pD 11,I.bu rfl,I.bu rfl,λi p hp=>?_,⟨_,_,I.bu rfl⟩,⟨_,I.bu rfl⟩⟩;have hi:=(a1.1 hp).1;exact jv ju (I.cX B.bp B.op (by omega)) hp
end
theorem Af {l:List Nat}{i:Nat}(h:i<l.length):(c6 l)[i]?=some (.int .u32 (l.getD i 0:Nat)):=by
 rw[c6,bn,aO h,bl,aO h];rfl
theorem tZ {k:Ks}{i:Nat}(h:i<k.ps.length):k.ps[i]?=some (au k i):=by
 rw[au,bl,aO h];rfl
theorem Kr {k:Ks}{i:Nat}(h:i<k.ps.length):k.ps[i]=au k i:=by
 rw[au,bl,aO h];rfl
section
variable {W w:World}{L L':List SP}{n c i:Nat}{ad:Option Addr}{k:Ks}{A:oe}{B:pj}{x:UInt8}
theorem Kt (I:V W w (az B k::L))(hk:WC k):Calls prog 175 #[pt B.cb] w λr w'=>r=.returned (.tuple #[])∧V W w' (az B (kJ k)::L):=by
 have eE:k.ps.length=k.n:=hk.ps;obtain⟨A0,I⟩:=az.open I;refine EN func175 ntmps175 rfl rfl λa E=>?_;refine RN 7 E I λa E=>?_;replace I:=az.close I;refine aS (λμ a w=>∃ (i:Nat),(μ=k.ps.length-i∧i≤k.ps.length)∧Fr a 71 [(0,pt B.cb),(8,.int .i64 k.ps.length),(9,.int .i64 i)]∧V W w (az B (gi k i)::L)) (k.ps.length) (⟨0,⟨rfl,by omega⟩,E.ab [0,8,9],I⟩) ?_;clear E I;rintro μ a w ⟨i,⟨rfl,hi⟩,E,I⟩;refine IF 3 E I (λaj a E=>?_) λaj a E=>?_
 ·
  have aJ:i<k.ps.length:=by omega
  have jG:=hk.gi (i:=i) (by omega);have eK:=Aa k i;have e8:gi k (i+1)=kI (gi k i) i:=rfl;rw[kI]at e8;generalize gi k i=kk at I jG eK e8;rw[← eK]at aJ;have ij:=jG.pg (i:=i) (by rw[← jG.ps];exact aJ);have eZ:=tZ aJ;have Ju:i<8:=by have:=jG.n;have:=jG.ps;omega
  obtain⟨A,I⟩:=az.open I;have fc:=jv ju (I.cX B.bp B.op (by omega)) eZ;refine RN 14 E I λa E=>?_;have fc:Rd w.drew B.bp (B.op+i*5) (iA (au kk i)):=fc;have js:Rd w.drew B.cb 0 (il kk B A):=I.drew.ai;refine qv 0 (Old w.drew) [13,14,31,35,36,37,38] [0,1,2,1003,4,5,6,7,8,10,11,12,3009,1013,1014,15,16,17,18,19,20,1021,22,23,24,25,26,28,29,30,32,33,34,3027,3031,1035,1036,1037,1038,39,40] E I λa E=>?_;replace I:=I.drew;have hH:=Hd.gq I;have U:=Old.refl w.drew;generalize w.drew=w at I hH U fc js ⊢;refine RH 3 E I hH U λa E=>?_;refine SS E (ag E (fc 2 _ rfl)) λa E=>?_;refine RH 2 E I hH U λa E=>?_;refine E.by (s:=23) (λiM E=>?_) (λiM E=>?_)
  ·
   refine RH 35 E I hH U λa E=>?_;refine RN 3 E I λa E=>?_;rw[ae (λh=>by have:=h.2.1;omega)]at e8;exact⟨k.ps.length-(i+1),by omega,i+1,⟨rfl,by omega⟩,E.ab [0,8,9],by rw[e8];exact az.close I⟩
  refine RH 6 E I hH U λa E=>?_;refine QH E (λw hc=>ag E (hc.cell (fc 2 _ rfl))) U λa E=>?_;refine RH 0 E I hH U λa E=>?_;refine bz E (cW E rfl (s:=23)) (ag E (js 12 _ rfl)) rfl λa E=>?_;refine RH 4 E I hH U λa E=>?_;refine E.by (s:=35) (λXT E=>?_) (λXT E=>?_)
  ·
   refine RH 23 E I hH U λa E=>?_;refine RN 3 E I λa E=>?_;rw[ae (λh=>by have:=h.2.2.1;omega)]at e8;exact⟨k.ps.length-(i+1),by omega,i+1,⟨rfl,by omega⟩,E.ab [0,8,9],by rw[e8];exact az.close I⟩
  refine RH 3 E I hH U λa E=>?_;refine bz E (cW E rfl (s:=35)) (ag E (fc 4 _ rfl)) rfl λa E=>?_;refine RH 2 E I hH U λa E=>?_;refine E.by (s:=41) (λl8 E=>?_) (λl8 E=>?_)
  ·
   refine RH 17 E I hH U λa E=>?_;refine RN 3 E I λa E=>?_;rw[ae (λh=>by have:=h.1;rw[l8]at this;cases this)]at e8;exact⟨k.ps.length-(i+1),by omega,i+1,⟨rfl,by omega⟩,E.ab [0,8,9],by rw[e8];exact az.close I⟩
  have lR:(au kk i).frame-1<kk.mr.length:=by omega
  obtain⟨Er,Es,eA,ld⟩:=I.bY A.cj (by omega);have xQ:=js 12 _ rfl;rw[eA]at xQ;refine RH 9 E I hH U λa E=>?_;refine QH E (λw hc=>ag E (hc.cell (fc 3 _ rfl))) U λa E=>?_;refine QH E (λw hc=>ag E (hc.cell (xQ))) U λa E=>?_;refine RH 0 E I hH U λa E=>?_;refine bz E (cW E rfl (s:=41)) (ag E (fc 2 _ rfl)) rfl λa E=>?_;refine RH 1 E I hH U λa E=>?_;rw[show (((au kk i).frame:Nat):Int)-1=(((au kk i).frame-1:Nat):Int) from by omega]at E;refine RH 1 E I hH U λa E=>?_;refine bz E (cW E rfl (s:=41)) (ag E (ld ((au kk i).frame-1) _ (Af lR))) rfl λa E=>?_;refine RH 2 E I hH U λa E=>?_;refine IF 0 E I (λan a E=>?_) λan a E=>?_
  ·
   refine RN 2 E I λa E=>?_;rw[ae (λh=>by have:=h.2.2.2;omega)]at e8;exact⟨k.ps.length-(i+1),by omega,i+1,⟨rfl,by omega⟩,E.ab [0,8,9],by rw[e8];exact az.close I⟩
  refine RN 1 E I λa E=>?_;rw[al ⟨l8,by omega,by omega,by omega⟩]at e8;refine RN 3 E I λa E=>?_;refine lN (off:=B.op) (k:=i*5+4) E rfl I Ty.t4 rfl (by omega) (by rw[iT ju];omega) λa w E I=>?_;rw[pM ju kk.ps { au kk i with apart:=true } aJ (by decide) (by rw[Kr aJ];rfl)]at I;have ia:(kk.ps.set i { au kk i with apart:=true }).length=kk.ps.length:=br;rw[show il kk B A=il { kk with ps:=kk.ps.set i { au kk i with apart:=true } } B A from by simp only[il,ia],← ia]at I;replace I:=az.mk' (L':=L) (B:=B) (k:={ kk with ps:=kk.ps.set i { au kk i with apart:=true } }) I A;refine RN 5 E I λa E=>?_;refine SS E (ag E (((az.rd I).pe i { au kk i with apart:=true } (by rw[getElem?_set_self aJ])) 2 _ rfl)) λa E=>?_;refine CL 1 E I (Ep (e:=(3,i,(au kk i).frame)) I ⟨by simp,by simp,by have:=jG.n;have:=jG.ps;show i<8;omega,ij.2.2.1,.inl rfl⟩ (by have:=jG.kK;show kk.ev.length≤100;omega)) λa w E I=>?_;refine RN 2 E I λa E=>?_;exact⟨k.ps.length-(i+1),by omega,i+1,⟨rfl,by omega⟩,E.ab [0,8,9],by rw[e8];exact I⟩
 refine RT 0 E I ?_;obtain rfl:i=k.ps.length:=by omega
 exact⟨rfl,I⟩
theorem XU {s:Nat}(I:V W w (az B k::L))(hk:WC k)(hl:k.mr.length<1000)(xf:s<4294967296):Calls prog 138 #[pt B.cb,.int .u32 s] w λr w'=>r=.returned (.tuple #[])∧V W w' (az B (k7 k s)::L):=by
 have xR : WC { k with mr := k.mr ++ [s] } := { hk with
     mr:=by show (k.mr++[s]).length≤1000;rw[aK,ja];omega
     q4:=λx hx=>by
      rcases eV.1 hx with hx | hx
      ·exact hk.q4 x hx
      ·rw[mem_singleton]at hx;rw[hx];exact xf }
 obtain⟨A,I⟩:=az.open I;refine EN func138 ntmps138 rfl rfl λa E=>?_;refine RN 5 E I λa E=>?_;replace E:=E.aN 6;refine RN 7 E I λa E=>?_;rw[bq (by omega)]at E;refine RN 8 E I λa E=>?_;refine cm E rfl I underlying69 Ty.t100 rfl rfl rfl rfl (by decide) (by decide) λIc a w E I ho=>?_;clear ho;refine RN 0 E I λa E=>?_;refine cJ E rfl I underlying69 Ty.t100 rfl rfl I.ai rfl (by simp[Value.oneCell']) (by decide) (by decide) (by omega) λqB qC a w E I=>?_;rw[show c6 k.mr++_=c6 (k.mr++[s]) from by rw[c6,c6,cU];rfl,show k.mr.length+1=(k.mr++[s]).length from by simp]at I;rw[show k.mr.length+1=(k.mr++[s]).length from by simp]at E;refine ST 2 E I (λa w E I=>?_);refine RN 0 E I λa E=>?_;replace I:=az.mk' (B:=B) (L':=L) (k:={ k with mr:=k.mr++[s] }) I { A with cj:=qB,cM:=qC };refine CL 1 E I (Kt I xR) λa w E I=>?_;refine RT 0 E I ?_;exact⟨rfl,by rw[k7,al hl];exact I⟩
theorem XV (I:V W w (az B k::L)):Calls prog 296 #[pt B.cb] w λr w'=>∃ ad c,r=.returned (.slice ad k.ev.length c)∧V W w' (Sl 135 1 ad k.ev.length c (k.ev.map cy)::az B { k with ev:=[] }::L):=by
 obtain⟨A,I⟩:=az.open I;refine EN func296 ntmps296 rfl rfl λa E=>?_;refine RN 6 E I λa E=>?_;replace E:=E.aN 5;refine ST 11 E I (λa w E I=>?_);refine RT 3 E I ?_;refine⟨A.adE,A.cE,rfl,?_⟩;replace I:=I.bH 135 1 none;refine V.perm (L:=az B { k with ev:=[] }::Sl 135 1 A.adE k.ev.length A.cE (k.ev.map cy)::L) ?_ (List.Perm.swap _ _ _);refine az.close (A:=⟨A.cP,A.cj,A.cM,none,0⟩) ?_;exact I.sub (M:=aa B.cb 257 [.int .i64 k.n,.int .i64 k.me,.int .i64 k.id,.int .i64 k.aH,.int .i64 k.bo,.int .i64 k.ba,.int .i64 k.order,.int .i64 k.cr,.int .i64 k.workers,.int .i64 k.room,pt B.qb,.slice (some ⟨B.bp,B.op,none⟩) k.ps.length A.cP,.slice A.cj k.mr.length A.cM,.slice none 0 0,.int .i64 k.now,.bool k.cl]::Sl 259 5 (some ⟨B.bp,B.op,none⟩) k.ps.length A.cP (rows iA k.ps)::Sl 100 1 A.cj k.mr.length A.cM (c6 k.mr)::Sl 135 1 none 0 0 []::Qu B.qb B.aB k.ls::Sl 135 1 A.adE k.ev.length A.cE (k.ev.map cy)::L)
theorem XW (I:V W w (az B k::L))(hk:WC k):Calls prog 297 #[pt B.cb,.int .u8 (x.toNat:Nat)] w λr w'=>r=.returned (.int .i64 (c3 x k).1)∧V W w' (az B (c3 x k).2::L):=by
 have eA:k.me<k.ls.length:=by rw[hk.ls];exact hk.me
 have gL:=hk.lG;have fq:aU k.ls≤aF k:=hk.nq;refine EN func297 ntmps297 rfl rfl λa E=>?_;refine CL 5 E I (xP I) λa w E I=>?_;refine IF 1 E I (λaj a E=>?_) λaj a E=>?_
 ·
  refine RT 2 E I ?_;exact⟨by rw[c3,al aj],by rw[c3,al aj];exact I⟩
 have cd:¬ k.cl=true:=by rw[aj];decide
 refine CL 2 E I (sG I hk) λa w E I=>?_;refine IF 2 E I (λan a E=>?_) λan a E=>?_
 ·
  refine RT 2 E I ?_;exact⟨by rw[c3,ae cd,al (by omega)],by rw[c3,ae cd,al (by omega)];exact I⟩
 refine aY 1 (λw0 w'=>q7 w' B k) [1,6,7,12] [0,2,3,4,8,9,10,11,3005,3012,1001,1006,1007,13,14] E I λa w E I hH=>?_;have U:=hH.at w (az.rd I);refine RH 8 E I hH U λa E=>?_;refine QH E (λw hc=>ag E (hc.cf 10 _ rfl)) U λa E=>?_;refine QH E (λw hc=>ag E (hc.cf 4 _ rfl)) U λa E=>?_;refine RH 0 E I hH U λa E=>?_;refine CL 0 E I (sG I hk) λa w E I=>?_;replace U:=hH.at w (az.rd I);obtain⟨D,I,hD⟩:=az.qu I;refine RH 0 E I hH U λa E=>?_;refine CL 0 E I (q3 I hk.kL (by rw[hk.ls];exact hk.n.2)) λa w E I=>?_;replace U:=hH.at w (az.rd (hD _ _ I));replace I:=hD _ _ I;refine RH 3 E I hH U λa E=>?_;refine IF 0 E I (λay a E=>?_) λay a E=>?_
 ·
  refine RT 2 E I ?_;exact⟨by rw[c3,ae cd,ae (by omega),al (by rw[ax];omega)],by rw[c3,ae cd,ae (by omega),al (by rw[ax];omega)];exact I⟩
 refine aY 1 (λw0 w'=>q7 w' B k) [8] [0,1,2,4,5,6,7,10,3003,1008,1009,1011,12] E I λa w E I hH=>?_;have U:=hH.at w (az.rd I);refine RH 8 E I hH U λa E=>?_;refine QH E (λw hc=>ag E (hc.cf 10 _ rfl)) U λa E=>?_;refine RH 0 E I hH U λa E=>?_;refine SS E (ag E (U.cf 1 _ rfl)) λa E=>?_;obtain⟨D,I,hD⟩:=az.Eo I;refine RH 0 E I hH U λa E=>?_;refine CL 0 E I (sE I eA) λa w E I=>?_;refine CL 0 E I (Xw I eA (by simp only[aF]at an;omega)) λa w E I=>?_;refine RN 1 E I λa E=>?_;refine RT 0 E I ?_;have ua:c3 x k=(0,{ k with ls:=k.ls.set k.me (k.ls.getD k.me []++[x]) }):=by rw[c3,ae cd,ae (by omega),ae (by rw[ax];omega)]
 rw[ua];exact⟨rfl,hD _ _ _ I⟩
end
def mh (l:List Nat):List Value:=l.map λi:Nat=>Value.int .i64 (i:Int)
theorem Et {l:List Nat}{i j:Nat}(h:l[i]?=some j):(mh l)[i]?=some (.int .i64 (j:Int)):=by rw[mh,bn,h];rfl
def kM (k:Ks)(i:Nat):List Nat:=(List.range i).filter (·≠k.me)
theorem Eu (k:Ks)(i:Nat):kM k (i+1)=if i=k.me then kM k i else kM k i++[i]:=by
 rw[kM,range_succ,List.filter_append];by_cases h:i=k.me
 ·rw[al h];simp[h,kM]
 ·rw[ae h];simp[h,kM]
theorem Ku (k:Ks):∀ i,(kM k i).length≤i:=λi=>by
 have:=length_filter_le (λx=>decide (x≠k.me)) (List.range i);rw[length_range]at this;exact this
abbrev Mx:=Option Addr×Nat×Ml
abbrev bW (x:Mx):List Value:=[.int .i64 x.2.2.1,.int .i64 x.2.2.2.1,.slice x.1 x.2.2.2.2.length x.2.1]
theorem oj (x:Mx):(bW x).length=3:=rfl
theorem XX (x:Mx):∀ v∈bW x,v.oneCell'=true:=by
 intro v hv;simp[bW]at hv;rcases hv with rfl | rfl | rfl <;> rfl
def bX (x:Mx):SP:=Sl 5 1 x.1 x.2.2.2.2.length x.2.1 (bc x.2.2.2.2)
def cv (e:TypeId)(ad:Option Addr)(n c:Nat)(ms:List Ml):SP:=λh=>∃ xs:List Mx,(xs.map (·.2.2)=ms∧ms.length=n)∧ck [Sl e 3 ad n c (rows bW xs),ah bX xs] h
section
variable {W w:World}{L L':List SP}{n c i e to:Nat}{ad adP:Option Addr}{k:Ks}{A:oe}{B:pj}{x:UInt8}{ms:List Ml}{p:Pk}
theorem cv.open (I:V W w (cv e ad n c ms::L)):∃ xs:List Mx,xs.map (·.2.2)=ms∧ms.length=n∧V W w (Sl e 3 ad n c (rows bW xs)::ah bX xs::L):=by
 obtain⟨xs,⟨h1,h2⟩,I⟩:=I.jj (ι:=List Mx) (p:=λxs=>xs.map (·.2.2)=ms∧ms.length=n) (B:=λxs h=>ck [Sl e 3 ad n c (rows bW xs),ah bX xs] h) λ_ ⟨xs,h1,h2⟩=>⟨xs,h1,h2⟩;exact⟨xs,h1,h2,I.open (M:=[_,_]) λ_ h=>h⟩
theorem cv.close {xs:List Mx}(I:V W w (Sl e 3 ad n c (rows bW xs)::ah bX xs::L))(h1:xs.map (·.2.2)=ms)(h2:ms.length=n):V W w (cv e ad n c ms::L) :=
 V.shut (M:=[_,_]) I λ_ h=>⟨xs,⟨h1,h2⟩,h⟩
theorem cv.nil (I:V W w L):V W w (cv e none 0 0 []::L):=cv.close (xs:=[]) (V.bH (V.iG I) e 3 none) rfl rfl
theorem Ew (I:V W w (az B k::L))(hk:WC k):Calls prog 315 #[pt B.cb] w λr w'=>∃ ad c,r=.returned (.slice ad (bB k).length c)∧V W w' (Sl 3 1 ad (bB k).length c (mh (bB k))::az B k::L):=by
 have gz:=hk.ps;have hn:=hk.n;obtain⟨A,I⟩:=az.open I;refine EN func315 ntmps315 rfl rfl λa E=>?_;refine RN 12 E I λa E=>?_;rw[gz]at E;replace I:=az.close I;replace I:=I.bH 3 1 none;refine aS (λμ a w=>∃ (i:Nat) (ad:Option Addr) (c:Nat),(μ=k.n-i∧i≤k.n)∧Fr a 26 [(0,pt B.cb),(3,.slice ad (kM k i).length c),(9,.int .i64 k.n),(10,.int .i64 i)]∧V W w (Sl 3 1 ad (kM k i).length c (mh (kM k i))::az B k::L)) (k.n) (⟨0,none,0,⟨rfl,by omega⟩,E.ab [0,3,9,10],I⟩) ?_;clear E I;rintro μ a w ⟨i,ad,c,⟨rfl,hi⟩,E,I⟩;refine IF 3 E I (λaj a E=>?_) λaj a E=>?_
 ·
  have dX:=Ku k i;have lf:=Eu k i;refine RN 10 E I λa E=>?_;refine SS E (ag E (((az.rd I.tail).cf 1 _ rfl))) λa E=>?_;refine IF 1 E I (λan a E=>?_) λan a E=>?_
  ·
   rw[ae (by omega)]at lf;refine RN 2 E I λa E=>?_;refine cm E rfl I underlying53 Ty.t3 rfl rfl rfl rfl (by decide) (by decide) λtE a w E I ho=>?_;clear ho;refine RN 0 E I λa E=>?_;refine cJ E rfl I underlying53 Ty.t3 rfl rfl I.ai rfl (by simp[Value.oneCell']) (by decide) (by decide) (by omega) λgj gk a w E I=>?_;rw[show mh (kM k i)++_=mh (kM k (i+1)) from by rw[lf,mh,mh,cU];rfl,show (kM k i).length+1=(kM k (i+1)).length from by rw[lf,aK];rfl]at I;rw[show (kM k i).length+1=(kM k (i+1)).length from by rw[lf,aK];rfl]at E;refine RN 3 E I λa E=>?_;exact⟨k.n-(i+1),by omega,i+1,gj,gk,⟨rfl,by omega⟩,E.ab [0,3,9,10],I.sub⟩
  rw[al (by omega)]at lf;refine RN 2 E I λa E=>?_;exact⟨k.n-(i+1),by omega,i+1,ad,c,⟨rfl,by omega⟩,by rw[lf];exact E.ab [0,3,9,10],by rw[lf];exact I⟩
 refine RT 3 E I ?_;obtain rfl:i=k.n:=by omega
 exact⟨ad,c,rfl,I⟩
def sH (k:Ks)(to:Nat)(p:Pk):Pk:={ p with aV:=k.me,to:=to,id:=k.id }
theorem Kv (I:V W w (az B k::L))(lD:p.sum<4294967296)(hp:∀ w',V W w' (az B k::L)→a6 w' adP p.ak.length p.ak) :
   Calls prog 316 #[pt B.cb,.agg (dM p adP c).toArray,.int .i64 to] w λr w'=>∃ av c',r=.returned (.agg (bW (av,c',(k.me,to,aR (sH k to p)))).toArray)∧V W w' (bX (av,c',(k.me,to,aR (sH k to p)))::az B k::L):=by
 refine EN func316 ntmps316 rfl rfl λa E=>?_;refine BX 1 E I λb4 a w E I=>?_;simp only[dM]at I;refine AL 0 E I λcG a w E I=>?_;refine aY 1 (λw0 w'=>q7 w' B k) [10,12,13,14] [0,1,2,3,5,6,7,8,9,3004,11,3010,1012,1013,1014,15,1016] E I λa w E I hH=>?_;have U:=hH.at w (az.rd (I.pick (az B k)));refine RH 9 E I hH U λa E=>?_;refine QH E (λw hc=>ag E (hc.cf 1 _ rfl)) U λa E=>?_;refine RH 1 E I hH U λa E=>?_;refine QH E (λw hc=>ag E (hc.cf 2 _ rfl)) U λa E=>?_;refine RH 0 E I hH U λa E=>?_;refine ST 0 E I (λa w E I=>?_);replace U:=hH.at w (az.rd (I.pick (az B k)));refine RH 1 E I hH U λa E=>?_;refine ST 0 E I (λa w E I=>?_);replace U:=hH.at w (az.rd (I.pick (az B k)));refine RH 1 E I hH U λa E=>?_;refine ST 0 E I (λa w E I=>?_);refine aY 1 (λw0 w'=>Rd w' b4 0 (dM (sH k to p) adP c)) [3,4,5] [0,2,3001,3003,1004,1005,6,1007] E I λa w E I hH=>?_;have U:=hH.at w (I.ai (b:=b4));refine RH 2 E I hH U λa E=>?_;refine QH E (λw hc=>ag E (hc 1 _ rfl)) U λa E=>?_;refine QH E (λw hc=>ag E (hc 2 _ rfl)) U λa E=>?_;refine RH 0 E I hH U λa E=>?_;refine SS E (bO E underlying203 rfl Ty.t203 (U)) λa E=>?_;refine RH 0 E I hH U λa E=>?_;refine a2 0 E I (JG (p:=sH k to p) (ad:=adP) (c:=c) I lD (λw' hw=>hp w' hw.sub)) λad2 c2 a w E I=>?_;replace U:=hH.at w (I.ai (b:=b4));refine RH 1 E I hH U λa E=>?_;refine SA 0 E I λa w E I=>?_;refine RT 0 E I ?_;exact⟨ad2,c2,rfl,I.sub (M:=Sl 5 1 ad2 (aR (sH k to p)).length c2 (bc (aR (sH k to p)))::az B k::L)⟩
theorem Kw {l:List Nat}(h:0<l.length):l.getD (l.length-1) 0=l.getLastD 0:=by
 rw[getLastD_eq_getLast?,List.getLast?_eq_getElem?,bl]
theorem XY (k:Ks)(to:Nat):sH k to ⟨1,0,0,0,(au k to).has,(k.ls.getD to []).length,k.mr.length,k.mr.getLastD 0,((k.ls.getD k.me []).drop (au k to).has).take 32⟩=dS k to:=rfl
set_option maxHeartbeats 1000000 in
theorem XZ (I:V W w (az B k::L))(hk:WC k)(sI:to<k.n):Calls prog 319 #[pt B.cb,.int .i64 to] w λr w'=>∃ av c',r=.returned (.agg (bW (av,c',(k.me,to,aR (dS k to)))).toArray)∧V W w' (bX (av,c',(k.me,to,aR (dS k to)))::az B k::L):=by
 have eA:k.me<k.ls.length:=by rw[hk.ls];exact hk.me
 have eL:to<k.ls.length:=by rw[hk.ls];exact sI
 have X0:to<k.ps.length:=by rw[hk.ps];exact sI
 have ij:=hk.pg sI;have lR:=hk.lF hk.me;have eZ:=tZ X0;have hn:=hk.n;have Ky:=hk.mr;obtain⟨A,I⟩:=az.open I;refine EN func319 ntmps319 rfl rfl λa E=>?_;refine AL 1 E I λb4 a w E I=>?_;refine RN 0 E I λa E=>?_;refine bZ (M:=λa w=>∃ b5:Nat,Fr a 62 [(0,pt B.cb),(1,.int .i64 to),(4,pt b4),(5,pt b5)]∧V W w (aa b5 203 [.int .i64 1,.int .i64 0,.int .i64 0,.int .i64 0,.int .i64 (au k to).has,.slice none 0 0,.int .i64 (k.ls.getD to []).length,.int .i64 k.mr.length,.int .u32 0]::aa b4 124 [.int .i64 0,.int .i64 0,.slice none 0 0]::aa B.cb 257 (il k B A)::Sl 259 5 (some ⟨B.bp,B.op,none⟩) k.ps.length A.cP (rows iA k.ps)::Sl 100 1 A.cj k.mr.length A.cM (c6 k.mr)::Sl 135 1 A.adE k.ev.length A.cE (k.ev.map cy)::Qu B.qb B.aB k.ls::L)) ?_ ?_
 ·
  refine aY 0 (λw0 w'=>Rd w' B.cb 0 (il k B A)∧Rd w' B.bp (B.op+to*5) (iA (au k to))) [11,13,14,18,19,21] [0,1,2,4,8,9,10,12,15,16,17,3003,5,6,3007,3011,3018,3019,2013,2014,20,1021,1022] E I λa w E I hH=>?_;have U:=hH.at w ⟨I.ai (b:=B.cb),jv ju (I.cX B.bp B.op (by omega)) eZ⟩;refine RH 11 E I hH U λa E=>?_;refine QH E (λw hc=>ag E (hc.1 11 _ rfl)) U λa E=>?_;refine RH 2 E I hH U λa E=>?_;refine QH E (λw hc=>ag E (hc.2 0 _ rfl)) U λa E=>?_;refine QH E (λw hc=>ag E (hc.1 10 _ rfl)) U λa E=>?_;refine QH E (λw hc=>ag E (hc.1 12 _ rfl)) U λa E=>?_;refine RH 1 E I hH U λa E=>?_;refine DN [(13,[2014,20,1021,1022]),(21,[1013,1014,20,1022])] (by kernel_rfl) rfl ⟨⟨_,rfl,?_⟩,⟨_,rfl,?_⟩,trivial⟩
  ·
   refine RH 0 E I hH U λa E=>?_;refine CL 0 E I (sE (I.pick (Qu B.qb B.aB k.ls)) eL) λa w E I=>?_;replace U:=hH.at w ⟨I.ai (b:=B.cb),jv ju (I.cX B.bp B.op (by omega)) eZ⟩;refine RH 0 E I hH U λa E=>?_;refine DN [(14,[20,1021,1022]),(21,[1014,20,1022])] (by kernel_rfl) rfl ⟨⟨_,rfl,?_⟩,⟨_,rfl,?_⟩,trivial⟩
   ·
    refine RH 0 E I hH U λa E=>?_;refine CL 0 E I (xM (I.pick (Qu B.qb B.aB k.ls)) eL) λa w E I=>?_;replace U:=hH.at w ⟨I.ai (b:=B.cb),jv ju (I.cX B.bp B.op (by omega)) eZ⟩;refine RH 1 E I hH U λa E=>?_;refine eS E rfl I Ty.t203 rfl λb5 a w E I ho=>?_;clear ho;replace U:=hH.at w ⟨I.ai (b:=B.cb),jv ju (I.cX B.bp B.op (by omega)) eZ⟩;refine RH 0 E I hH U λa E=>?_;refine SA 0 E I λa w E I=>?_;refine RN 0 E I λa E=>?_;exact⟨_,E.ab [0,1,4,5],I.sub⟩
   refine RH 0 E I hH U λa E=>?_;refine eS E rfl I Ty.t203 rfl λb5 a w E I ho=>?_;clear ho;replace U:=hH.at w ⟨I.ai (b:=B.cb),jv ju (I.cX B.bp B.op (by omega)) eZ⟩;refine RH 0 E I hH U λa E=>?_;refine CL 0 E I (xM (I.pick (Qu B.qb B.aB k.ls)) eL) λa w E I=>?_;replace U:=hH.at w ⟨I.ai (b:=B.cb),jv ju (I.cX B.bp B.op (by omega)) eZ⟩;refine RH 1 E I hH U λa E=>?_;refine SA 0 E I λa w E I=>?_;refine RN 0 E I λa E=>?_;exact⟨_,E.ab [0,1,4,5],I.sub⟩
  refine RH 0 E I hH U λa E=>?_;refine eS E rfl I Ty.t203 rfl λb5 a w E I ho=>?_;clear ho;replace U:=hH.at w ⟨I.ai (b:=B.cb),jv ju (I.cX B.bp B.op (by omega)) eZ⟩;refine RH 0 E I hH U λa E=>?_;refine CL 0 E I (sE (I.pick (Qu B.qb B.aB k.ls)) eL) λa w E I=>?_;replace U:=hH.at w ⟨I.ai (b:=B.cb),jv ju (I.cX B.bp B.op (by omega)) eZ⟩;refine RH 0 E I hH U λa E=>?_;refine CL 0 E I (xM (I.pick (Qu B.qb B.aB k.ls)) eL) λa w E I=>?_;replace U:=hH.at w ⟨I.ai (b:=B.cb),jv ju (I.cX B.bp B.op (by omega)) eZ⟩;refine RH 1 E I hH U λa E=>?_;refine SA 0 E I λa w E I=>?_;refine RN 0 E I λa E=>?_;exact⟨_,E.ab [0,1,4,5],I.sub⟩
 clear E;(try clear I);rintro a w ⟨b5,E,I⟩;refine bZ (M:=λa w=>∃ (c0:Option Addr) (dQ:Nat),Fr a 62 [(0,pt B.cb),(1,.int .i64 to),(4,pt b4),(5,pt b5)]∧V W w (aa b5 203 [.int .i64 1,.int .i64 0,.int .i64 0,.int .i64 0,.int .i64 (au k to).has,.slice c0 (((k.ls.getD k.me []).drop (au k to).has).take 32).length dQ,.int .i64 (k.ls.getD to []).length,.int .i64 k.mr.length,.int .u32 0]::Sl 5 1 c0 (((k.ls.getD k.me []).drop (au k to).has).take 32).length dQ (bc (((k.ls.getD k.me []).drop (au k to).has).take 32))::aa b4 124 [.int .i64 0,.int .i64 0,.slice none 0 0]::aa B.cb 257 (il k B A)::Sl 259 5 (some ⟨B.bp,B.op,none⟩) k.ps.length A.cP (rows iA k.ps)::Sl 100 1 A.cj k.mr.length A.cM (c6 k.mr)::Sl 135 1 A.adE k.ev.length A.cE (k.ev.map cy)::Qu B.qb B.aB k.ls::L)) ?_ ?_
 ·
  refine aY 0 (λw0 w'=>Rd w' B.cb 0 (il k B A)∧Rd w' b5 0 [.int .i64 1,.int .i64 0,.int .i64 0,.int .i64 0,.int .i64 (au k to).has,.slice none 0 0,.int .i64 (k.ls.getD to []).length,.int .i64 k.mr.length,.int .u32 0]) [8,9,11] [0,1,2,4,5,6,7,10,3003,3008,3011,1009,1012,13,1014] E I λa w E I hH=>?_;have U:=hH.at w ⟨I.ai (b:=B.cb),I.ai (b:=b5)⟩;refine RH 8 E I hH U λa E=>?_;refine QH E (λw hc=>ag E (hc.1 10 _ rfl)) U λa E=>?_;refine QH E (λw hc=>ag E (hc.1 1 _ rfl)) U λa E=>?_;refine QH E (λw hc=>ag E (hc.2 4 _ rfl)) U λa E=>?_;refine RH 0 E I hH U λa E=>?_;refine CL 0 E I (sE (I.pick (Qu B.qb B.aB k.ls)) eA) λa w E I=>?_;replace U:=hH.at w ⟨I.ai (b:=B.cb),I.ai (b:=b5)⟩;refine RH 0 E I hH U λa E=>?_;refine a2 0 E I (Xy (k:=32) (I.pick (Qu B.qb B.aB k.ls)) eA lR ij.1 (by decide)) λc0 dQ a w E I=>?_;refine ST 1 E I (λa w E I=>?_);refine RN 0 E I λa E=>?_;exact⟨c0,dQ,E.ab [0,1,4,5],I.sub⟩
 clear E;(try clear I);rintro a w ⟨c0,dQ,E,I⟩;refine bZ (M:=λa w=>Fr a 62 [(0,pt B.cb),(1,.int .i64 to),(4,pt b4),(5,pt b5)]∧V W w (aa b5 203 [.int .i64 1,.int .i64 0,.int .i64 0,.int .i64 0,.int .i64 (au k to).has,.slice c0 (((k.ls.getD k.me []).drop (au k to).has).take 32).length dQ,.int .i64 (k.ls.getD to []).length,.int .i64 k.mr.length,.int .u32 (k.mr.getLastD 0:Nat)]::Sl 5 1 c0 (((k.ls.getD k.me []).drop (au k to).has).take 32).length dQ (bc (((k.ls.getD k.me []).drop (au k to).has).take 32))::aa b4 124 [.int .i64 0,.int .i64 0,.slice none 0 0]::az B k::L)) ?_ ?_
 ·
  refine IF 10 E I (λaj a E=>?_) λaj a E=>?_
  ·
   obtain⟨Er,Es,Ey,ld⟩:=(I.pick (Sl 100 1 A.cj k.mr.length A.cM (c6 k.mr))).bY A.cj (by omega);refine RN 4 E I λa E=>?_;rw[Ey]at E;refine RN 2 E I λa E=>?_;rw[show ((k.mr.length:Nat):Int)-1=((k.mr.length-1:Nat):Int) from by omega]at E;refine RN 1 E I λa E=>?_;refine SS E (ag E (ld (k.mr.length-1) _ (Af (by omega)))) λa E=>?_;refine ST 1 E I (λa w E I=>?_);refine RN 0 E I λa E=>?_;rw[Kw (by omega)]at I;exact⟨E.ab [0,1,4,5],(az.fold I B k A).sub⟩
  refine RN 0 E I λa E=>?_;have h0:k.mr.getLastD 0=0:=by rw[g6 (l:=k.mr) (by omega)];rfl
  exact⟨E.ab [0,1,4,5],by rw[h0];exact (az.fold I B k A).sub⟩
 clear E;(try clear I);rintro a w ⟨E,I⟩;refine a2 4 E I (Kv (p:=⟨1,0,0,0,(au k to).has,(k.ls.getD to []).length,k.mr.length,k.mr.getLastD 0,((k.ls.getD k.me []).drop (au k to).has).take 32⟩) (adP:=c0) (c:=dQ) (I.pick (az B k)) (by
  show k.mr.getLastD 0<4294967296;rw[getLastD_eq_getLast?];cases hl:k.mr.getLast? with
  | none=>decide
  | some s=>exact hk.q4 s (List.mem_of_getLast? hl)) (λw' hw=>(hw.pick (Sl 5 1 c0 (((k.ls.getD k.me []).drop (au k to).has).take 32).length dQ (bc (((k.ls.getD k.me []).drop (au k to).has).take 32)))).cF c0 _ rfl rfl)) λad2 c2 a w E I=>?_
 rw[XY]at E I;refine SA 0 E I λa w E I=>?_;refine RT 0 E I ?_;exact⟨ad2,c2,rfl,I.sub⟩
def Ag (k:Ks)(j:Nat):List Ml:=((bB k).take j).map λi=>(k.me,i,aR (dS k i))
def Ah (k:Ks)(j:Nat):List Ml:=((bB k).take j).map λi=>(k.me,i,aR (ig k i))
theorem Kz (k:Ks):(bB k).length≤k.n:=Ku k k.n
theorem X1 (I:V W w (az B k::L))(hk:WC k):Calls prog 298 #[pt B.cb] w λr w'=>∃ ad c,r=.returned (.slice ad (cu k).1.length c)∧V W w' (cv 124 ad (cu k).1.length c (cu k).1::az B (cu k).2::L):=by
 have hn:=hk.n;have dX:=Kz k;refine EN func298 ntmps298 rfl rfl λa E=>?_;refine CL 5 E I (xP I) λa w E I=>?_;refine IF 0 E I (λaj a E=>?_) λaj a E=>?_
 ·
  refine RT 2 E I ?_;exact⟨none,0,by rw[cu,al aj];rfl,by rw[cu,al aj];exact cv.nil I⟩
 have hq:cu k=((bB k).map λi=>(k.me,i,aR (ig k i)),{ k with cl:=true }):=by rw[cu,ae (by rw[aj];decide)]
 obtain⟨A,I⟩:=az.open I;refine ST 4 E I (λa w E I=>?_);refine RN 0 E I λa E=>?_;replace I:=az.mk' (B:=B) (L':=L) (k:={ k with cl:=true }) I A;refine a2 5 E I (Ew I (by exact (hk.ob).1 |> λh=>by rw[hq]at h;exact h)) λmi co a w E I=>?_;refine RN 2 E I λa E=>?_;replace I:=V.bH (V.iG (f:=bX) I) 124 3 none;replace E:Fr a 27 ((14,.int .i64 (0:Nat))::(13,.int .i64 (bB k).length)::(12,.slice mi (bB k).length co)::(3,.slice none 0 0)::(0,pt B.cb)::[]):=E.ab [14,13,12,3,0];refine aS (λμ a w=>∃ (j:Nat) (xs:List Mx) (ad:Option Addr) (c:Nat),(μ=(bB k).length-j∧j≤(bB k).length∧xs.map (·.2.2)=Ah k j∧xs.length=j)∧Fr a 27 [(0,pt B.cb),(3,.slice ad j c),(12,.slice mi (bB k).length co),(13,.int .i64 (bB k).length),(14,.int .i64 j)]∧V W w (Sl 124 3 ad j c (rows bW xs)::ah bX xs::Sl 3 1 mi (bB k).length co (mh (bB k))::az B { k with cl:=true }::L)) ((bB k).length) (⟨0,[],none,0,⟨rfl,by omega,rfl,rfl⟩,E.ab [0,3,12,13,14],I⟩) ?_;clear E I;rintro μ a w ⟨j,xs,ad,c,⟨rfl,hj,eG,ch⟩,E,I⟩;refine IF 3 E I (λan a E=>?_) λan a E=>?_
 ·
  obtain⟨i,hi⟩:∃ i,(bB k)[j]?=some i:=⟨_,aO (by omega)⟩;obtain⟨kq,oo,rfl,gA⟩:=(I.pick (Sl 3 1 mi (bB k).length co (mh (bB k)))).bY mi (by omega);refine RN 3 E I λa E=>?_;refine SS E (ag E (gA j _ (Et hi))) λa E=>?_;refine a2 5 E I (Kv (k:={ k with cl:=true }) (to:=i) (p:=⟨2,0,0,0,0,0,0,0,[]⟩) (adP:=none) (c:=0) (I.pick (az B { k with cl:=true })) (by decide) (λw' hw=>a6.nil)) λad2 c2 a w E I=>?_;rw[show sH { k with cl:=true } i ⟨2,0,0,0,0,0,0,0,[]⟩=ig k i from rfl]at E I;refine RN 0 E I λa E=>?_;refine cm E rfl I underlying108 Ty.t124 rfl rfl rfl rfl (by decide) (by decide) λxl a w E I ho=>?_;clear ho;refine RN 0 E I λa E=>?_;refine cJ E rfl I underlying108 Ty.t124 rfl rfl I.ai rfl (by simp[Value.oneCell']) (by decide) (by decide) (by omega) λKA KB a w E I=>?_;rw[show rows bW xs++_=rows bW (xs++[(ad2,c2,(k.me,i,aR (ig k i)))]) from by rw[j5];rfl]at I;refine RN 3 E I λa E=>?_;have dy:=V.jB (f:=bX) (x:=(ad2,c2,(k.me,i,aR (ig k i)))) (I.sub (M:=bX (ad2,c2,(k.me,i,aR (ig k i)))::ah bX xs::Sl 124 3 KA (j+1) KB (rows bW (xs++[(ad2,c2,(k.me,i,aR (ig k i)))]))::Sl 3 1 (some ⟨kq,oo,none⟩) (bB k).length co (mh (bB k))::az B { k with cl:=true }::L));exact⟨(bB k).length-(j+1),by omega,j+1,xs++[(ad2,c2,(k.me,i,aR (ig k i)))],KA,KB,⟨rfl,by omega,by
   have eO:j<(bB k).length:=by omega
   rw[cU,eG,Ah,Ah,iU eO,cU,(a1.1 hi).2];rfl,by rw[aK,ch];rfl⟩,E.ab [0,3,12,13,14],dy.sub⟩
 refine RT 3 E I ?_;obtain rfl:j=(bB k).length:=by omega
 rw[Ah,take_length]at eG;have ia:((bB k).map λi=>(k.me,i,aR (ig k i))).length=(bB k).length:=bf _;rw[hq];refine⟨ad,c,by rw[ia],?_⟩;rw[ia];exact cv.close (xs:=xs) I.sub eG ia
end
theorem KC {α:Type}{p:α→Bool}:∀ {l:List α} {j:Nat} {x:α},(∀ y∈l.take j,p y=false)→l[j]?=some x→p x=true→l.find? p=some x
 | [],j,x,_,h,_=>by simp at h
 | y::l,0,x,_,h,hp=>by
  obtain rfl:y=x:=by simpa using h
  rw[List.find?_cons,hp]
 | y::l,j+1,x,E,h,hp=>by
  rw[List.find?_cons,E y (by simp)];exact KC (j:=j) (λz hz=>E z (by rw[take_succ_cons];exact gP _ hz)) (by simpa using h) hp
theorem KD {α:Type}{p:α→Bool}{l:List α}(h:∀ y∈l,p y=false):l.find? p=none:=by
 rw[List.find?_eq_none];intro y hy hp;rw[h y hy]at hp;cases hp
section
variable {W w:World}{L L' R:List SP}{n c i e to:Nat}{ad adP:Option Addr}{k:Ks}{A:oe}{B:pj}{x:UInt8}{p:Pk}{bs:List UInt8}
theorem X2 (I:V W w (az B k::L))(hk:WC k)(oI:k.now≤1000000):Calls prog 300 #[pt B.cb] w λr w'=>∃ ad c,r=.returned (.slice ad (bm k).1.length c)∧V W w' (cv 124 ad (bm k).1.length c (bm k).1::az B (bm k).2::L):=by
 have hn:=hk.n;refine EN func300 ntmps300 rfl rfl λa E=>?_;refine CL 5 E I (xP I) λa w E I=>?_;refine IF 0 E I (λaj a E=>?_) λaj a E=>?_
 ·
  refine RT 2 E I ?_;exact⟨none,0,by rw[bm,al aj];rfl,by rw[bm,al aj];exact cv.nil I⟩
 have hq:bm k=(match (bB { k with now:=k.now+1 }).find? (λi=>decide (jd { k with now:=k.now+1 } i)) with
  | some i=>([],{ k with now:=k.now+1,ev:=k.ev++[(2,i,0)],cl:=true })
  | none=>((bB { k with now:=k.now+1 }).map λi=>(k.me,i,aR (dS { k with now:=k.now+1 } i)),{ k with now:=k.now+1 })):=by rw[bm,ae (by rw[aj];decide)];rfl
 obtain⟨A,I⟩:=az.open I;refine RN 6 E I λa E=>?_;rw[show ((k.now:Nat):Int)+1=((k.now+1:Nat):Int) from by omega]at E;refine ST 2 E I (λa w E I=>?_);refine RN 0 E I λa E=>?_;replace I:=az.fold I B { k with now:=k.now+1 } A;have eT:WC { k with now:=k.now+1 }:=hk.Ac;have pn:=hk.kK;have Ez:({ k with now:=k.now+1 }:Ks).now≤1000001:=by show k.now+1≤_;omega
 have EA:({ k with now:=k.now+1 }:Ks).ev.length≤9:=pn;have hY:bm k=(match (bB { k with now:=k.now+1 }).find? (λi=>decide (jd { k with now:=k.now+1 } i)) with
  | some i=>([],{ ({ k with now:=k.now+1 }:Ks) with ev:=({ k with now:=k.now+1 }:Ks).ev++[(2,i,0)],cl:=true })
  | none=>((bB { k with now:=k.now+1 }).map λi=>(({ k with now:=k.now+1 }:Ks).me,i,aR (dS { k with now:=k.now+1 } i)),{ k with now:=k.now+1 })):=hq
 clear hq;have EB:2≤({ k with now:=k.now+1 }:Ks).n∧({ k with now:=k.now+1 }:Ks).n≤8:=hn;generalize ({ k with now:=k.now+1 }:Ks)=k1 at I eT hY Ez EA EB;have dX:=Kz k1;refine a2 5 E I (Ew I eT) λmi co a w E I=>?_;refine RN 2 E I λa E=>?_;replace E:Fr a 61 ((20,.int .i64 (0:Nat))::(19,.int .i64 (bB k1).length)::(18,.slice mi (bB k1).length co)::(3,.slice none 0 0)::(0,pt B.cb)::[]):=E.ab [20,19,18,3,0];refine aS (λμ a w=>∃ (j:Nat),(μ=(bB k1).length-j∧j≤(bB k1).length∧∀ y∈(bB k1).take j,decide (jd k1 y)=false)∧Fr a 61 [(0,pt B.cb),(3,.slice none 0 0),(18,.slice mi (bB k1).length co),(19,.int .i64 (bB k1).length),(20,.int .i64 j)]∧V W w (Sl 3 1 mi (bB k1).length co (mh (bB k1))::az B k1::L)) ((bB k1).length) (⟨0,⟨rfl,by omega,λy hy=>by simp at hy⟩,E.ab [0,3,18,19,20],I⟩) ?_;clear E I;rintro μ a w ⟨j,⟨rfl,hj,bQ⟩,E,I⟩;refine IF 3 E I (λan a E=>?_) λan a E=>?_
 ·
  have eO:j<(bB k1).length:=by omega
  obtain⟨i,hi⟩:∃ i,(bB k1)[j]?=some i:=⟨_,aO eO⟩;obtain⟨kq,oo,rfl,gA⟩:=I.bY mi (by omega);have cD:=(vK.1 (bE hi)).1;have ij:=eT.pg cD;have aJ:i<k1.ps.length:=by rw[eT.ps];exact cD
  have qL:=az.rd (I.tail);obtain⟨cP,eE⟩:=qL.pl;refine RN 3 E I λa E=>?_;refine SS E (ag E (gA j _ (Et hi))) λa E=>?_;refine RN 2 E I λa E=>?_;have sJ:q7 w.drew B k1:=az.rd (I.drew.tail);have tp:w.drew.cell? ⟨B.cb,11,none⟩=some (.slice (some ⟨B.bp,B.op,none⟩) k1.ps.length cP):=eE;refine qv 0 (Old w.drew) [7,9,10,11] [0,1,2,4,5,6,8,3003,1007,1009,1010,1011,12,13] E I λa E=>?_;replace I:=I.drew;have hH:=Hd.gq I;have U:=Old.refl w.drew;generalize w.drew=w at I hH U sJ tp ⊢;refine RH 7 E I hH U λa E=>?_;refine QH E (λw hc=>ag E (hc.cell (sJ.now))) U λa E=>?_;refine RH 0 E I hH U λa E=>?_;refine SS E (ag E (tp)) λa E=>?_;refine RH 2 E I hH U λa E=>?_;refine SS E (ag E (sJ.pe i _ (tZ aJ) 1 _ rfl)) λa E=>?_;refine RH 2 E I hH U λa E=>?_;refine IF 0 E I (λay a E=>?_) λay a E=>?_
  ·
   have hlt:jd k1 i:=by rw[jd];omega
   rw[KC bQ hi (dd hlt)]at hY;refine CL 4 E I (Ep (e:=(2,i,0)) (I.pick (az B k1)) ⟨by simp,by simp,by show i<8;omega,by simp,.inr rfl⟩ (by omega)) λa w E I=>?_;refine RN 1 E I λa E=>?_;obtain⟨A2,I⟩:=az.open I;refine ST 3 E I (λa w E I=>?_);refine RN 0 E I λa E=>?_;replace I:=az.fold I B { k1 with ev:=k1.ev++[(2,i,0)],cl:=true } A2;refine RT 2 E I ?_;rw[hY];exact⟨none,0,rfl,cv.nil I.sub⟩
  have hlt:¬ jd k1 i:=by rw[jd];omega
  refine RN 2 E I λa E=>?_;exact⟨(bB k1).length-(j+1),by omega,j+1,⟨rfl,by omega,λy hy=>by
   rw[iU eO,eV,mem_singleton]at hy;rcases hy with hy | rfl
   ·exact bQ y hy
   ·rw[(a1.1 hi).2];exact bq hlt⟩,E.ab [0,3,18,19,20],I⟩
 obtain rfl:j=(bB k1).length:=by omega
 rw[take_length]at bQ;rw[KD bQ]at hY;clear bQ;refine a2 3 E I (Ew (I.tail) eT) λxS xT a w E I=>?_;refine RN 2 E I λa E=>?_;replace I:=V.bH (V.iG (f:=bX) I) 124 3 none;replace E:Fr a 61 ((49,.int .i64 (0:Nat))::(48,.int .i64 (bB k1).length)::(47,.slice xS (bB k1).length xT)::(3,.slice none 0 0)::(0,pt B.cb)::[]):=E.ab [49,48,47,3,0];refine aS (λμ a w=>∃ (j:Nat) (xs:List Mx) (ad:Option Addr) (c:Nat),(μ=(bB k1).length-j∧j≤(bB k1).length∧xs.map (·.2.2)=Ag k1 j∧xs.length=j)∧Fr a 61 [(0,pt B.cb),(3,.slice ad j c),(47,.slice xS (bB k1).length xT),(48,.int .i64 (bB k1).length),(49,.int .i64 j)]∧V W w (Sl 124 3 ad j c (rows bW xs)::ah bX xs::Sl 3 1 xS (bB k1).length xT (mh (bB k1))::az B k1::L)) ((bB k1).length) (⟨0,[],none,0,⟨rfl,by omega,rfl,rfl⟩,E.ab [0,3,47,48,49],I⟩) ?_;clear E I;rintro μ a w ⟨j,xs,ad,c,⟨rfl,hj,eG,ch⟩,E,I⟩;refine IF 3 E I (λbg a E=>?_) λbg a E=>?_
 ·
  obtain⟨i,hi⟩:∃ i,(bB k1)[j]?=some i:=⟨_,aO (by omega)⟩;obtain⟨kq,oo,rfl,gA⟩:=(I.pick (Sl 3 1 xS (bB k1).length xT (mh (bB k1)))).bY xS (by omega);have cD:=(vK.1 (bE hi)).1;refine RN 3 E I λa E=>?_;refine SS E (ag E (gA j _ (Et hi))) λa E=>?_;refine a2 4 E I (XZ (to:=i) (I.pick (az B k1)) eT cD) λad2 c2 a w E I=>?_;refine RN 0 E I λa E=>?_;refine cm E rfl I underlying108 Ty.t124 rfl rfl rfl rfl (by decide) (by decide) λb57 a w E I ho=>?_;clear ho;refine RN 0 E I λa E=>?_;refine cJ E rfl I underlying108 Ty.t124 rfl rfl I.ai rfl (by simp[Value.oneCell']) (by decide) (by decide) (by omega) λKE KF a w E I=>?_;rw[show rows bW xs++_=rows bW (xs++[(ad2,c2,(k1.me,i,aR (dS k1 i)))]) from by rw[j5];rfl]at I;refine RN 3 E I λa E=>?_;have dy:=V.jB (f:=bX) (x:=(ad2,c2,(k1.me,i,aR (dS k1 i)))) (I.sub (M:=bX (ad2,c2,(k1.me,i,aR (dS k1 i)))::ah bX xs::Sl 124 3 KE (j+1) KF (rows bW (xs++[(ad2,c2,(k1.me,i,aR (dS k1 i)))]))::Sl 3 1 (some ⟨kq,oo,none⟩) (bB k1).length xT (mh (bB k1))::az B k1::L));exact⟨(bB k1).length-(j+1),by omega,j+1,xs++[(ad2,c2,(k1.me,i,aR (dS k1 i)))],KE,KF,⟨rfl,by omega,by
   have eO:j<(bB k1).length:=by omega
   rw[cU,eG,Ag,Ag,iU eO,cU,(a1.1 hi).2];rfl,by rw[aK,ch];rfl⟩,E.ab [0,3,47,48,49],dy.sub⟩
 refine RT 3 E I ?_;obtain rfl:j=(bB k1).length:=by omega
 rw[Ag,take_length]at eG;have ia:((bB k1).map λi=>(k1.me,i,aR (dS k1 i))).length=(bB k1).length:=bf _;rw[hY];refine⟨ad,c,by rw[ia],?_⟩;rw[ia];exact cv.close (xs:=xs) I.sub eG ia
theorem WC.peer (h:WC k){q:Pe}(hi:i<k.n)(hq:q.has≤1000∧q.frame≤1000∧q.sum<4294967296)(hh:q.heard≤k.now)(E:q.apart=(au k i).apart):WC { k with ps:=k.ps.set i q } :=
 h.z8 (ev:=k.ev) (cl:=k.cl) hq hh h.bF (by rw[Eb (by rw[h.ps];exact hi) E];exact h.oa)
theorem WC.line (h:WC k){l:List UInt8}(hl:l.length≤1000):WC { k with ls:=k.ls.set i l } :=
 { h with
  ls:=by show (k.ls.set i l).length=_;rw[br];exact h.ls
  mY:=λy hy=>by
   rcases mem_set hy with hy | rfl
   ·exact h.mY y hy
   ·exact hl }
theorem KG {ls:List (List UInt8)}{i j:Nat}{l:List UInt8}(h:i≠j):(ls.set i l).getD j []=ls.getD j []:=by
 rw[bl,getElem?_set_ne h,← bl]
theorem az.KH (I:V W w L)(B:pj)(k:Ks)(A:oe)(q1 q2:Pe)[kk:fD L [aa B.cb 257 (il { k with ps:=k.ps.set i q1 } B A),Sl 259 5 (some ⟨B.bp,B.op,none⟩) (k.ps.set i q1).length A.cP (rows iA (k.ps.set i q2)),Sl 100 1 A.cj k.mr.length A.cM (c6 k.mr),Sl 135 1 A.adE k.ev.length A.cE (k.ev.map cy),Qu B.qb B.aB k.ls] R]:V W w (az B { k with ps:=k.ps.set i q2 }::R):=by
 have h1:=I.perm kk.perm;rw[show il { k with ps:=k.ps.set i q1 } B A=il { k with ps:=k.ps.set i q2 } B A from by simp only[il,br],show (k.ps.set i q1).length=(k.ps.set i q2).length from by simp only[br]]at h1;exact az.close (A:=A) h1
theorem az.X3 (I:V W w L)(B:pj)(k:Ks)(A:oe)(q2:Pe)[kk:fD L [aa B.cb 257 (il k B A),Sl 259 5 (some ⟨B.bp,B.op,none⟩) k.ps.length A.cP (rows iA (k.ps.set i q2)),Sl 100 1 A.cj k.mr.length A.cM (c6 k.mr),Sl 135 1 A.adE k.ev.length A.cE (k.ev.map cy),Qu B.qb B.aB k.ls] R]:V W w (az B { k with ps:=k.ps.set i q2 }::R):=by
 have h1:=I.perm kk.perm;rw[show il k B A=il { k with ps:=k.ps.set i q2 } B A from by simp only[il,br],show k.ps.length=(k.ps.set i q2).length from by simp only[br]]at h1;exact az.close (A:=A) h1
theorem Ai (h:k.cl=true):dB bs k=(6,k):=by rw[dB,al h]
theorem KI (h:k.cl=false)(hd:eu bs=none):dB bs k=(1,k):=by rw[dB,ae (by rw[h];decide),hd]
theorem vN (h:k.cl=false)(hd:eu bs=some p)(hx:p.to≠k.me∨(k.n:Int)≤p.aV∨p.id≠k.id):dB bs k=(1,k):=by
 rw[dB,ae (by rw[h];decide),hd];show (if _ then _ else _)=_;rw[al hx]
theorem KJ (h:k.cl=false)(hd:eu bs=some p)(hx:¬ (p.to≠k.me∨(k.n:Int)≤p.aV∨p.id≠k.id)):dB bs k=(0,fR k p):=by
 rw[dB,ae (by rw[h];decide),hd];show (if _ then _ else _)=_;rw[ae hx]
set_option maxHeartbeats 2000000 in
theorem X4 (I:V W w (az B k::L))(hk:WC k)(hb:bs.length≤65536)(hc:bs.length≤c)(hp:∀ w',V W w' L→a6 w' ad bs.length bs) :
   Calls prog 299 #[pt B.cb,.slice ad bs.length c] w λr w'=>r=.returned (.int .i64 (dB bs k).1)∧V W w' (az B (dB bs k).2::L):=by
 have hn:=hk.n;refine EN func299 ntmps299 rfl rfl λa E=>?_;refine CL 5 E I (xP I) λa w E I=>?_;refine IF 0 E I (λaj a E=>?_) λaj a E=>?_
 ·
  refine RT 2 E I ?_;exact⟨by rw[Ai aj],by rw[Ai aj];exact I⟩
 refine jE 2 E I (Xb I hb hc (λw' hw=>hp w' hw.tail)) ?_;clear E I;rintro e w ⟨p,adP,cP,ok,rfl,hd,I⟩;refine⟨_,rfl,λa E=>?_⟩;refine AL 3 E I λb5 a w E I=>?_;refine SA 0 E I λa w E I=>?_;refine RN 3 E I λa E=>?_;obtain⟨A,I⟩:=az.open (I.pick (az B k));refine bL 0 [9,19,29] [0,1,2,3,5,6,7,8,3004,1009,10,11,12,13,15,16,17,18,3014,1019,20,21,22,23,25,26,27,28,3024,1029,30,31] E I λa w E I hH U=>?_;refine RH 3 E I hH U λa E=>?_;refine E.by (s:=17) (λbw E=>?_) (λbw E=>?_)
 ·
  have dm:ok=false:=by cases ok with | false=>rfl | true=>exact absurd rfl bw
  have da:eu bs=none:=by
   rcases hd with ⟨h,_⟩ | ⟨_,h,_⟩
   ·rw[dm]at h;cases h
   ·exact h
  refine RH 29 E I hH U λa E=>?_;refine RT 3 E I ?_;rw[KI aj da];exact⟨rfl,(az.fold I B k A).sub⟩
 have dm:ok=true:=by cases ok with | true=>rfl | false=>exact absurd bw (by decide)
 have po:eu bs=some p:=by
  rcases hd with ⟨_,h⟩ | ⟨h,_⟩
  ·exact h
  ·rw[dm]at h;cases h
 obtain⟨sK,gz,_⟩:=DE po;have EC:=sK.1;refine RH 10 E I hH U λa E=>?_;refine E.by (s:=27) (λhS E=>?_) (λhS E=>?_)
 ·
  refine RH 19 E I hH U λa E=>?_;refine RT 3 E I ?_;rw[vN aj po (.inl hS)];exact⟨rfl,(az.fold I B k A).sub⟩
 refine RH 10 E I hH U λa E=>?_;refine E.by (s:=37) (λo9 E=>?_) (λo9 E=>?_)
 ·
  refine RH 9 E I hH U λa E=>?_;refine RT 3 E I ?_;rw[vN aj po (.inr (.inl o9))];exact⟨rfl,(az.fold I B k A).sub⟩
 refine RH 9 E I hH U λa E=>?_;refine IF 0 E I (λan a E=>?_) λan a E=>?_
 ·
  refine RT 2 E I ?_;rw[vN aj po (.inr (.inr an))];exact⟨rfl,(az.fold I B k A).sub⟩
 have bQ:¬ (p.to≠k.me∨(k.n:Int)≤p.aV∨p.id≠k.id):=by
  rintro (h | h | h)
  ·exact h hS
  ·omega
  ·exact h an
 rw[KJ aj po bQ];clear hd dm;obtain⟨fr,fq⟩:=Int.eq_ofNat_of_zero_le EC.1;have g2:fr<k.n:=by omega
 have gw:fr<k.ls.length:=by rw[hk.ls];exact g2
 have mZ:fr<k.ps.length:=by rw[hk.ps];exact g2
 have ED:fr≠k.me:=by have:=sK.2.2.1;omega
 have ij:=hk.pg g2;have jt:p.aV.toNat=fr:=by omega
 refine bL 1 [5] [0,1,2,4,3003,1005,6,7] E I λa w E I hH U=>?_;refine RH 6 E I hH U λa E=>?_;rw[fq]at E;refine RH 2 E I hH U λa E=>?_;refine RN 8 E I λa E=>?_;refine lN (off:=B.op) (k:=fr*5+1) E rfl I Ty.t3 rfl (by omega) (by rw[iT ju];omega) λa w E I=>?_;rw[pM ju k.ps { au k fr with heard:=k.now } mZ (by decide) (by rw[Kr mZ];rfl)]at I;have cc:=hk.peer (q:={ au k fr with heard:=k.now }) g2 ⟨ij.1,ij.2.2⟩ (bh _) rfl;replace I:=az.X3 (i:=fr) I B k A { au k fr with heard:=k.now };refine IF 5 E I (λay a E=>?_) λay a E=>?_
 ·
  refine RN 4 E I λa E=>?_;rw[fq]at E;refine CL 1 E I (Ep (e:=(1,fr,0)) I ⟨by simp,by simp,by show fr<8;omega,by simp,.inr rfl⟩ (by have:=hk.kK;show k.ev.length≤100;omega)) λa w E I=>?_;refine RN 1 E I λa E=>?_;obtain⟨A2,I⟩:=az.open I;refine ST 3 E I (λa w E I=>?_);refine RN 0 E I λa E=>?_;replace I:=az.fold I B { k with ps:=k.ps.set fr { au k fr with heard:=k.now },ev:=k.ev++[(1,fr,0)],cl:=true } A2;refine RT 2 E I ?_;refine⟨rfl,?_⟩;rw[fR,al ay,jt];exact I.sub
 refine RN 1 E I λa E=>?_;have gV:eJ p.first∧eJ p.db∧eJ p.frame∧p.ak.length≤32:=by
  rcases sK.2.2.2.2 with h | h
  ·exact h.2
  ·exact absurd h.1 ay
 simp only[eJ]at gV;obtain⟨fi,vO⟩:=Int.eq_ofNat_of_zero_le gV.1.1;obtain⟨kN,Aj⟩:=Int.eq_ofNat_of_zero_le gV.2.1.1;obtain⟨jW,EE⟩:=Int.eq_ofNat_of_zero_le gV.2.2.1.1;obtain⟨D,I,hD⟩:=az.Eo I;have KK:∀ w' L',V W w' (Qu B.qb B.aB k.ls::D::L')→q7 w' B { k with ps:=k.ps.set fr { au k fr with heard:=k.now } }:=λw' L' h=>az.rd (hD w' L' _ h);refine aY 0 (λw0 w'=>Rd w' b5 0 (dM p adP cP)∧q7 w' B { k with ps:=k.ps.set fr { au k fr with heard:=k.now } }) [5,6,8,10] [0,1,2,4,7,9,3003,3005,3008,3010,1006,1011] E I λa w E I hH=>?_;have U:=hH.at w ⟨I.ai (b:=b5),KK _ _ I⟩;refine RH 6 E I hH U λa E=>?_;refine QH E (λw hc=>ag E (hc.2.cf 10 _ rfl)) U λa E=>?_;refine QH E (λw hc=>ag E (hc.1 1 _ rfl)) U λa E=>?_;rw[fq]at E;refine RH 0 E I hH U λa E=>?_;refine QH E (λw hc=>ag E (hc.1 4 _ rfl)) U λa E=>?_;rw[vO]at E;refine RH 0 E I hH U λa E=>?_;refine QH E (λw hc=>ag E (hc.1 5 _ rfl)) U λa E=>?_;refine RH 0 E I hH U λa E=>?_;refine CL 0 E I (sE I gw) λa w E I=>?_;replace U:=hH.at w ⟨I.ai (b:=b5),KK _ _ I⟩;refine RH 0 E I hH U λa E=>?_;refine a2 0 E I (Xx (fr:=fi) (bs:=p.ak) I gw (hk.lF g2) (by omega) (λw' hw=>(hw.pick (Sl 5 1 adP p.ak.length cP (bc p.ak))).cF adP p.ak rfl rfl)) λKL er a w E I=>?_;refine RN 0 E I λa E=>?_;replace I:=hD _ _ _ I;have mE:=cc.line (i:=fr) (l:=dr (k.ls.getD fr []) fi p.ak) (q0 (hk.lF g2)).2;have gL:aF ({ k with ls:=k.ls.set fr (dr (k.ls.getD fr []) fi p.ak),ps:=k.ps.set fr { au k fr with heard:=k.now } }:Ks)=aF k:=by
  show ((k.ls.set fr _).getD k.me []).length=_;rw[KG ED];rfl
 have vP:(k.ps.set fr { au k fr with heard:=k.now })[fr]?=some { au k fr with heard:=k.now }:=getElem?_set_self mZ;refine bZ (M:=λa w=>∃ hh:Nat,hh=(if (au k fr).has<kN∧kN≤aF k then kN else (au k fr).has)∧Fr a 127 [(0,pt B.cb),(5,pt b5),(7,.pointer (some ⟨B.bp,B.op+fr*5,none⟩))]∧V W w (az B { k with ls:=k.ls.set fr (dr (k.ls.getD fr []) fi p.ak),ps:=k.ps.set fr { au k fr with heard:=k.now,has:=hh } }::aa b5 203 (dM p adP cP)::L)) ?_ ?_
 ·
  refine aY 1 (λw0 w'=>Rd w' b5 0 (dM p adP cP)∧q7 w' B { k with ls:=k.ls.set fr (dr (k.ls.getD fr []) fi p.ak),ps:=k.ps.set fr { au k fr with heard:=k.now } }) [5,11] [0,2,3,4,3001,1005,6,7,8,10,3009,1011,12,13] E I λa w E I hH=>?_;have U:=hH.at w ⟨I.ai (b:=b5),az.rd I⟩;refine RH 4 E I hH U λa E=>?_;refine QH E (λw hc=>ag E (hc.1 6 _ rfl)) U λa E=>?_;refine RH 0 E I hH U λa E=>?_;refine SS E (ag E (U.2.pe fr _ vP 0 (.int .i64 (au k fr).has) rfl)) λa E=>?_;refine RH 2 E I hH U λa E=>?_;refine E.by (s:=91) (λjr E=>?_) (λjr E=>?_)
  ·
   refine RH 2 E I hH U λa E=>?_;refine QH E (λw hc=>ag E (hc.1 6 _ rfl)) U λa E=>?_;refine RH 0 E I hH U λa E=>?_;refine CL 0 E I (sG I mE) λa w E I=>?_;replace U:=hH.at w ⟨I.ai (b:=b5),az.rd I⟩;rw[gL]at E;refine RH 2 E I hH U λa E=>?_;refine IF 0 E I (λbg a E=>?_) λbg a E=>?_
   ·
    obtain⟨A2,I⟩:=az.open I;refine RN 3 E I λa E=>?_;rw[Aj]at E;refine RN 2 E I λa E=>?_;refine lN (off:=B.op) (k:=fr*5+0) E rfl I Ty.t3 rfl (by omega) (by rw[iT ju,br];omega) λa w E I=>?_;rw[pM ju (k.ps.set fr { au k fr with heard:=k.now }) { au k fr with heard:=k.now,has:=kN } (by rw[br];exact mZ) (by decide) (by rw[getElem_set_self];rfl),set_set]at I;replace I:=az.KH (i:=fr) I B { k with ls:=k.ls.set fr (dr (k.ls.getD fr []) fi p.ak) } A2 { au k fr with heard:=k.now } { au k fr with heard:=k.now,has:=kN };refine RN 0 E I λa E=>?_;exact⟨kN,by rw[al ⟨by omega,by omega⟩],E.ab [0,5,7],I.sub⟩
   refine RN 0 E I λa E=>?_;exact⟨_,by rw[ae (by omega)],E.ab [0,5,7],I.sub⟩
  refine RH 6 E I hH U λa E=>?_;refine RN 1 E I λa E=>?_;exact⟨_,by rw[ae (by omega)],E.ab [0,5,7],I.sub⟩
 clear E;(try clear I);rintro a w ⟨hh,xU,E,I⟩;refine bZ (M:=λa w=>∃ q:Pe,(q=fQ k.now (aF k) p (au k fr)∧WC { k with ls:=k.ls.set fr (dr (k.ls.getD fr []) fi p.ak),ps:=k.ps.set fr q })∧Fr a 127 [(0,pt B.cb)]∧V W w (az B { k with ls:=k.ls.set fr (dr (k.ls.getD fr []) fi p.ak),ps:=k.ps.set fr q }::aa b5 203 (dM p adP cP)::L)) ?_ ?_
 ·
  refine bL 1 [9] [0,1001,2,3,4,6,7,8,3005,1009,10,11] E I λa w E I hH U=>?_;have vQ:(k.ps.set fr { au k fr with heard:=k.now,has:=hh })[fr]?=some { au k fr with heard:=k.now,has:=hh }:=getElem?_set_self mZ;have qL:q7 w B { k with ls:=k.ls.set fr (dr (k.ls.getD fr []) fi p.ak),ps:=k.ps.set fr { au k fr with heard:=k.now,has:=hh } }:=az.rd I;have EF:p.db.toNat=kN:=by omega
  have EG:p.frame.toNat=jW:=by omega
  have hP:fQ k.now (aF k) p (au k fr)=(if 0<p.frame∧((au k fr).frame:Int)≤p.frame then { au k fr with heard:=k.now,has:=hh,frame:=jW,sum:=p.sum } else { au k fr with heard:=k.now,has:=hh }):=by
   rw[fQ,EF,EG,xU]
  have ub:hh≤1000:=by rw[xU];split <;> omega
  refine RH 4 E I hH U λa E=>?_;refine E.by (s:=106) (λbP E=>?_) (λbP E=>?_)
  ·
   refine RH 5 E I hH U λa E=>?_;refine bz E (cW E rfl (s:=106)) (ag E (qL.pe fr _ vQ 2 (.int .i64 (au k fr).frame) rfl)) rfl λa E=>?_;refine RH 2 E I hH U λa E=>?_;refine IF 0 E I (λbM a E=>?_) λbM a E=>?_
   ·
    refine RN 0 E I λa E=>?_;obtain⟨A3,I⟩:=az.open I;refine aY 0 (λw0 w'=>Rd w' b5 0 (dM p adP cP)) [5,8] [0,1,2,4,3003,6,7,3005,1008,9,10,1011] E I λa w E I hH=>?_;have U:=hH.at w (I.ai (b:=b5));refine RH 4 E I hH U λa E=>?_;refine QH E (λw hc=>ag E (hc 7 _ rfl)) U λa E=>?_;rw[EE]at E;refine RH 2 E I hH U λa E=>?_;refine QH E (λw hc=>ag E (hc 8 _ rfl)) U λa E=>?_;refine RH 0 E I hH U λa E=>?_;refine lN (off:=B.op) (k:=fr*5+2) E rfl I Ty.t3 rfl (by omega) (by rw[iT ju,br];omega) λa w E I=>?_;replace U:=hH.at w (I.ai (b:=b5));rw[pM ju (k.ps.set fr { au k fr with heard:=k.now,has:=hh }) { au k fr with heard:=k.now,has:=hh,frame:=jW } (by rw[br];exact mZ) (by decide) (by rw[getElem_set_self];rfl),set_set]at I;refine RH 2 E I hH U λa E=>?_;refine lN (off:=B.op) (k:=fr*5+3) E rfl I Ty.t100 rfl (by omega) (by rw[iT ju,br];omega) λa w E I=>?_;rw[pM ju (k.ps.set fr { au k fr with heard:=k.now,has:=hh,frame:=jW }) { au k fr with heard:=k.now,has:=hh,frame:=jW,sum:=p.sum } (by rw[br];exact mZ) (by decide) (by rw[getElem_set_self];rfl),set_set]at I;replace I:=az.KH (i:=fr) I B { k with ls:=k.ls.set fr (dr (k.ls.getD fr []) fi p.ak) } A3 { au k fr with heard:=k.now,has:=hh } { au k fr with heard:=k.now,has:=hh,frame:=jW,sum:=p.sum };refine RN 0 E I λa E=>?_;exact⟨_,⟨by rw[hP,al (by omega)],(hk.peer (q:={ au k fr with heard:=k.now,has:=hh,frame:=jW,sum:=p.sum }) g2 ⟨ub,by show jW≤1000;omega,gz⟩ (bh _) rfl).line (q0 (hk.lF g2)).2⟩,E.ab [0],I.sub⟩
   refine RN 0 E I λa E=>?_;exact⟨_,⟨by rw[hP,ae (by omega)],(hk.peer (q:={ au k fr with heard:=k.now,has:=hh }) g2 ⟨ub,ij.2.2⟩ (bh _) rfl).line (q0 (hk.lF g2)).2⟩,E.ab [0],I⟩
  refine RH 8 E I hH U λa E=>?_;refine RN 1 E I λa E=>?_;exact⟨_,⟨by rw[hP,ae (by omega)],(hk.peer (q:={ au k fr with heard:=k.now,has:=hh }) g2 ⟨ub,ij.2.2⟩ (bh _) rfl).line (q0 (hk.lF g2)).2⟩,E.ab [0],I⟩
 clear E;(try clear I);rintro a w ⟨q,⟨X5,n0⟩,E,I⟩;refine CL 2 E I (Kt I n0) λa w E I=>?_;refine RT 2 E I ?_;refine⟨rfl,?_⟩;have xV:p.first.toNat=fi:=by omega
 rw[fR,ae ay,jt,xV,← X5];exact I.sub
end
end
section
section
variable {W w:World}{L:List SP}{c cO cP q:Nat}{ao adP:Option Addr}{b:List UInt8}{g:Nat→Int}{p:Pr}{fr:Int}{bad:Bool}
def Jv (q:Nat)(g:Nat→Int)(bad:Bool):SP:=λh=>(dP g∧bad=false)∧aa q 296 (ints .i32 32 g) h
theorem Jv.open (I:V W w (Jv q g bad::L)):(dP g∧bad=false)∧V W w (aa q 296 (ints .i32 32 g)::L):=by
 obtain⟨_,h1,h2⟩:=I.jj (ι:=Unit) (p:=λ_=>dP g∧bad=false) (B:=λ_=>aa q 296 (ints .i32 32 g)) (λh ⟨h1,h2⟩=>⟨(),h1,h2⟩);exact⟨h1,h2⟩
theorem Jv.close (I:V W w (aa q 296 (ints .i32 32 g)::L))(h1:dP g):V W w (Jv q g false::L) :=
 V.shut (M:=[_]) I (λ_ ⟨_,_,_,a,b,x,_⟩=>⟨⟨h1,rfl⟩,a _ _ x⟩)
theorem X6 {c:Nat}(hc:c<32)(I:V W w (Jv q g bad::L)):Calls prog 351 (List.toArray [pt q,.int .i64 c]) w λe w'=>e=.returned (.int .i32 (g c))∧V W w' (Jv q g bad::L):=by
 have hj:=Jv.open I;clear I;obtain⟨⟨h1,rfl⟩,I⟩:=hj;refine EN func351 ntmps351 rfl rfl λa E=>?_;refine RN 8 E I λa E=>?_;refine SS E (ag E (I.bu (fO _ hc))) λa E=>?_;refine RT 1 E I ?_;exact⟨rfl,Jv.close I h1⟩
theorem X7 {c:Nat}{v:Int}(hc:c<32)(hv:dp v)(I:V W w (Jv q g bad::L)):Calls prog 352 (List.toArray [pt q,.int .i64 c,.int .i32 v]) w λe w' =>
   ∃ (g':Nat→Int) (fp:Bool),e=.returned (.tuple #[])∧((fp=true∧g'=g)∨(fp=false∧bad=false∧g'=ca g c v))∧V W w' (Jv q g' fp::L):=by
 have hj:=Jv.open I;clear I;obtain⟨⟨h1,rfl⟩,I⟩:=hj;refine EN func352 ntmps352 rfl rfl λa E=>?_;refine ST 6 E I (λa w E I=>?_) (hlt:=(by rw[di];exact hc));rw[ints_set]at I;refine RT 0 E I ?_;exact⟨ca g c v,false,rfl,.inr ⟨rfl,rfl,rfl⟩,Jv.close I (ni h1 hv)⟩
theorem X8:xh W 294 ⟨q,0,none⟩ 351 352 (Jv q) where
 nV:=λad w=>by kernel_rfl
 nW:=(by kernel_rfl)
 zm:=λad w=>by kernel_rfl
 u1:=(by kernel_rfl)
 ok:=λw L g bad h=>(Jv.open h).1.1
 get:=λw L g bad c hc h=>X6 hc h
 set:=λw L g bad c v hc hv h=>X7 hc hv h
theorem KM (I:V W w (aA W p ao cO::L))(aZ:dj p)(aE:p.title.size≤1000000000)(hg:dP g)(hb:b.length≤1099511627776)(hp:∀ w',V W w' L→a6 w' adP b.length b) :
   Calls prog 137 #[.agg (bJ p ao cO).toArray,.agg (ints .i32 32 g).toArray,.int .i64 fr,.slice adP b.length cP] w λe w'=>e=.returned (.agg (ints .i32 32 (eY p fr b g)).toArray)∧V W w' (aA W p ao cO::L):=by
 refine EN func137 ntmps137 rfl rfl λa E=>?_;refine BX 1 E I λb4 a w E I=>?_;change V W w (aa b4 45 (bJ p ao cO)::_) at I;refine BX 0 E I λb5 a w E I=>?_;refine AL 0 E I λb8 a w E I=>?_;change V W w (aa b8 183 (ints .i32 32 (λ_=>0))::_) at I;refine RN 2 E I λa E=>?_;refine SK (bz E rfl (G9 E Ty.P4 Ty.t296 (cs:=ints .i32 32 g) rfl) rfl ?_);clear E a;intro a E;refine BX 0 E I λEH a w E I=>?_;refine RN 7 E I λa E=>?_;replace I:=Jv.close (I.jy EH) hg;refine jD 0 E I (IS (M:=X8 (q:=EH)) (L:=aa b8 183 (ints .i32 32 (λ_=>0))::L) (I.sub (M:=Jv EH g false::aA W p ao cO::aa b8 183 (ints .i32 32 (λ_=>0))::L)) aZ aE hb (λw' hw=>hp w' hw.tail)) λg' fp KL a w E ⟨nZ,I⟩=>?_;refine RN 1 E I λa E=>?_;have hj:=Jv.open I;clear I;obtain⟨⟨hg',rfl⟩,I⟩:=hj;obtain⟨_,rfl⟩:=nZ rfl;refine SA 4 E I λa w E I=>?_;refine RT 0 E I ?_;exact⟨rfl,I.sub⟩
theorem KN {P:List (List UInt8)}{zs:List ea}(I:V W w (aA W p ao cO::L))(aZ:dj p)(aE:p.title.size≤1000000000)(hg:dP g)(hP:P.length≤65536∧∀ b∈P,b.length≤1099511627776)(hf:-1099511627776≤fr∧fr≤1099511627776)(hz:zs.map (·.2.2)=P)(hp:∀ w',V W w' L→iH w' adP zs) :
   Calls prog 280 #[.agg (bJ p ao cO).toArray,.agg (ints .i32 32 g).toArray,.int .i64 fr,.slice adP P.length cP] w λe w'=>e=.returned (.agg (ints .i32 32 (foldI p fr g P)).toArray)∧V W w' (aA W p ao cO::L):=by
 have iR:zs.length=P.length:=by rw[← hz,bf]
 have so:=hP.1;refine EN func280 ntmps280 rfl rfl λa E=>?_;refine BX 1 E I λb4 a w E I=>?_;change V W w (aa b4 45 (bJ p ao cO)::_) at I;refine BX 0 E I λb5 a w E I=>?_;refine AL 0 E I λb8 a w E I=>?_;change V W w (aa b8 183 (ints .i32 32 (λ_=>0))::_) at I;refine RN 5 E I λa E=>?_;refine aS (λμ a w=>∃ (i:Nat) (g':Nat→Int),(μ=P.length-i∧i≤P.length∧dP g'∧foldI p fr g P=foldI p (fr+i) g' (P.drop i))∧Fr a 27 [(2,.int .i64 fr),(4,pt b4),(5,pt b5),(8,pt b8),(11,.slice adP P.length cP),(12,.int .i64 P.length),(13,.int .i64 i)]∧V W w (aa b5 183 (ints .i32 32 g')::aa b4 45 (bJ p ao cO)::aa b8 183 (ints .i32 32 (λ_=>0))::aA W p ao cO::L)) (P.length) (⟨0,g,⟨by simp,by simp,hg,by simp⟩,E.ab [2,4,5,8,11,12,13],I.sub⟩) ?_;clear E I;rintro μ a w ⟨i,g',⟨rfl,hi,eI,lv⟩,E,I⟩;refine IF 3 E I (λaj a E=>?_) λaj a E=>?_
 ·
  obtain⟨z,kg⟩:∃ z,zs[i]?=some z:=⟨_,aO (by omega)⟩;have pR:P[i]?=some z.2.2:=by rw[← hz,bn,kg];rfl
  obtain⟨bp,op,rfl,cK⟩:=(hp _ (I.sub (M:=L))).1 (by omega);have EI:=cK i (aI z) (by rw[bn,kg];rfl);have pq:=hP.2 _ (bE pR);have Df:foldI p fr g P=foldI p (fr+(i+1:Nat)) (eY p (fr+i) z.2.2 g') (P.drop (i+1)):=by
   rw[lv,j6 (by omega),foldI];have:P[i]'(by omega)=z.2.2:=by rw[aO (by omega)]at pR;exact Option.some.inj pR
   rw[this]
   congr 1
   omega
  refine RN 4 E I λa E=>?_;refine SS E (ag E (EI)) λa E=>?_;rw[aI]at E;refine CL 8 E I (KM (I.pick (aA W p ao cO)) aZ aE eI pq (λw' hw=>(hp w' hw.sub).2 z (bE kg))) λa w E I=>?_;refine SA 0 E I λa w E I=>?_;refine RN 2 E I λa E=>?_;exact⟨P.length-(i+1),by omega,i+1,_,⟨rfl,by omega,Ke aZ eI,Df⟩,E.ab [2,4,5,8,11,12,13],I.sub⟩
 refine RN 1 E I λa E=>?_;obtain rfl:i=P.length:=by omega
 rw[List.drop_length,foldI]at lv;refine SA 1 E I λa w E I=>?_;refine RT 0 E I ?_;exact⟨by rw[lv],I.sub⟩
end
end
section
theorem p7 (k:IntKind)(m:Nat)(x:Int):List.replicate m (Value.int k x)=ints k m (λ_=>x):=by
 apply ext_getElem (by simp[ints,fn]);intro i h1 h2;simp[ints,fn]
abbrev dk (b:Gs)(adT:Option Addr)(cT:Nat):List Value:=[.int .i64 b.kind,.int .i64 b.order,.slice adT b.table.length cT]
theorem X9 (l:List UInt8)(k:Nat):bc (l.drop k)=(bc l).drop k:=by rw[bc,bc,map_drop]
section
variable {W w:World}{L:List SP}{n c m cT:Nat}{ad adT:Option Addr}{past:List UInt8}{b:Gs}
theorem xW (I:V W w L):Calls prog 98 #[.agg (dk b adT cT).toArray] w λe w'=>∃ r:Bool,e=.returned (.bool r)∧(r=true↔c1 b)∧V W w' L:=by
 refine EN func98 ntmps98 rfl rfl λa E=>?_;refine BX 1 E I λb1 a w E I=>?_;change V W w (aa b1 186 (dk b adT cT)::_) at I;refine IF 8 E I (λaj a E=>?_) λaj a E=>?_
 ·
  refine BY 5 E I (λbP a E=>?_) λbP a E=>?_
  ·
   refine RT 6 E I ?_;exact⟨_,rfl,(by rw[cn,c1];omega),I.sub⟩
  refine RT 6 E I ?_;exact⟨_,rfl,⟨λh=>(by cases h),λh=>by rw[c1]at h;exfalso;omega⟩,I.sub⟩
 refine IF 3 E I (λan a E=>?_) λan a E=>?_
 ·
  refine BY 5 E I (λbP a E=>?_) λbP a E=>?_
  ·
   refine BY 5 E I (λfb a E=>?_) λfb a E=>?_
   ·
    refine RT 6 E I ?_;exact⟨_,rfl,(by rw[cn,c1];omega),I.sub⟩
   refine RT 6 E I ?_;exact⟨_,rfl,⟨λh=>(by cases h),λh=>by rw[c1]at h;exfalso;omega⟩,I.sub⟩
  refine RT 11 E I ?_;exact⟨_,rfl,⟨λh=>(by cases h),λh=>by rw[c1]at h;exfalso;omega⟩,I.sub⟩
 refine IF 3 E I (λay a E=>?_) λay a E=>?_
 ·
  refine BY 5 E I (λbP a E=>?_) λbP a E=>?_
  ·
   refine BY 6 E I (λtK a E=>?_) λtK a E=>?_
   ·
    refine RT 6 E I ?_;exact⟨_,rfl,(by rw[cn,c1];omega),I.sub⟩
   refine RT 6 E I ?_;exact⟨_,rfl,⟨λh=>(by cases h),λh=>by rw[c1]at h;exfalso;omega⟩,I.sub⟩
  refine RT 12 E I ?_;exact⟨_,rfl,⟨λh=>(by cases h),λh=>by rw[c1]at h;exfalso;omega⟩,I.sub⟩
 refine RT 2 E I ?_;exact⟨_,rfl,⟨λh=>(by cases h),λh=>by rw[c1]at h;exfalso;omega⟩,I.sub⟩
theorem KO (I:V W w L)(hb:c1 b)(eE:past.length≤4000)(jJ:past.length≤c)(hp:∀ w',V W w' L→a6 w' ad past.length past) :
   Calls prog 324 #[.agg (dk b adT cT).toArray,.slice ad past.length c] w λe w'=>e=.returned (.agg (ints .i64 256 (gB b past)).toArray)∧V W w' L:=by
 simp only[c1]at hb;refine EN func324 ntmps324 rfl rfl λa E=>?_;refine BX 1 E I λb2 a w E I=>?_;change V W w (aa b2 186 (dk b adT cT)::_) at I;refine AL 0 E I λb4 a w E I=>?_;rw[p7]at I;refine AL 1 E I λb5 a w E I=>?_;rw[p7]at I;refine BY 6 E I (λbP a E=>?_) λbP a E=>?_
 ·
  refine SA 9 E I λa w E I=>?_;refine RT 0 E I ?_;exact⟨by rw[gB,ae (by omega)],I.sub⟩
 refine IF 6 E I (λaj a E=>?_) λaj a E=>?_
 ·
  refine SA 2 E I λa w E I=>?_;refine RT 0 E I ?_;exact⟨by rw[gB,al (by omega),xJ (by omega)],I.sub⟩
 refine RN 1 E I λa E=>?_;have cc:b.kind=2:=by omega
 obtain⟨o,ho⟩:∃ o:Nat,b.order=(o:Int):=⟨b.order.toNat,by omega⟩;rw[dk,ho]at I;have dX:o≤past.length:=by omega
 have kF:gB b past=gY o past past.length:=by rw[gB,al cc,ho,Int.toNat_natCast]
 refine RN 6 E I λa E=>?_;rw[show ((past.length:Nat):Int)-(o:Int)=((past.length-o:Nat):Int) from by omega]at E;refine RN 7 E I λa E=>?_;rw[show past.length-(past.length-o)=o from by omega]at E;have Ya:o≤3:=by omega
 refine aS (λμ a w=>∃ (i:Nat),(μ=past.length-i∧o≤i∧i≤past.length)∧Fr a 52 [(1,.slice ad past.length c),(2,pt b2),(4,pt b4),(5,pt b5),(6,.slice (fm ad (past.length-o) c 1) o (c-(past.length-o))),(7,.int .i64 i)]∧V W w (aa b5 320 (ints .i64 256 (gY o past i))::aa b4 320 (ints .i64 256 (λ_=>0))::aa b2 186 [.int .i64 b.kind,.int .i64 o,.slice adT b.table.length cT]::L)) (past.length-o) (⟨o,⟨rfl,bh _,dX⟩,E.ab [1,2,4,5,6,7],by rw[xJ (bh _)];exact I.sub⟩) ?_;clear E I;rintro μ a w ⟨i,⟨rfl,EJ,hi⟩,E,I⟩;refine IF 6 E I (λan a E=>?_) λan a E=>?_
 ·
  have aJ:i<past.length:=by omega
  have m8:=zZ o past i past[i].toNat;have p1:=lz past[i];refine RN 7 E I λa E=>?_;rw[show ((i:Nat):Int)-(o:Int)=((i-o:Nat):Int) from by omega]at E;refine RN 2 E I λa E=>?_;rw[show i-(i-o)=o from by omega]at E;refine CL 1 E I (JM I ((hp _ I.tail.tail.tail).xK (lo:=i-o) (n:=o) (by omega) jJ) (by have:=(hp _ I.tail.tail.tail).xK (lo:=past.length-o) (n:=o) (by omega) jJ;exact this)) λa w E I=>?_;refine IF 0 E I (λay a E=>?_) λay a E=>?_
  ·
   obtain⟨bb,oo,rfl,hr⟩:=(hp _ I.tail.tail.tail).get (by omega);refine RN 3 E I λa E=>?_;refine SS E (ag E (hr i _ (dR aJ))) λa E=>?_;refine RN 1 E I λa E=>?_;refine SS E (ag E (I.bu (fO _ p1))) λa E=>?_;refine ST 2 E I (λa w E I=>?_) (hlt:=(by rw[di];omega));rw[ints_set]at I;refine RN 3 E I λa E=>?_;exact⟨past.length-(i+1),by omega,i+1,⟨rfl,by omega,by omega⟩,E.ab [1,2,4,5,6,7],by
    rw[show gY o past (i+1)=λj=>if j=past[i].toNat then gY o past i past[i].toNat+1 else gY o past i j from by
     rw[gY,al ⟨EJ,by rw[xI,← ay,fX (l:=past.drop (past.length-o)) (by rw[c7];omega)]⟩,bl,aO aJ];rfl]
    exact I.sub⟩
  refine RN 3 E I λa E=>?_;exact⟨past.length-(i+1),by omega,i+1,⟨rfl,by omega,by omega⟩,E.ab [1,2,4,5,6,7],by
   rw[show gY o past (i+1)=gY o past i from by
    rw[gY,ae (λh=>by
     have h2:=h.2;rw[xI,← fX (l:=past.drop (past.length-o)) (i:=o) (by rw[c7];omega)]at h2;rw[h2]at ay;cases ay)]]
   exact I.sub⟩
 obtain rfl:i=past.length:=by omega
 refine SA 2 E I λa w E I=>?_;refine RT 0 E I ?_;exact⟨by rw[kF],I.sub⟩
theorem KP (I:V W w L)(eE:past.length≤4000)(hp:∀ w',V W w' L→a6 w' ad past.length past) :
   Calls prog 326 #[.slice ad past.length c] w λe w'=>e=.returned (.int .u8 ((ic past).toNat:Nat))∧V W w' L:=by
 refine EN func326 ntmps326 rfl rfl λa E=>?_;refine IF 7 E I (λaj a E=>?_) λaj a E=>?_
 ·
  refine RT 2 E I ?_;exact⟨by rw[ic,g6 (l:=past) (by omega)];rfl,I⟩
 refine RN 1 E I λa E=>?_;obtain⟨bb,oo,rfl,hr⟩:=(hp _ I).get (by omega);refine RN 4 E I λa E=>?_;rw[show ((past.length:Nat):Int)-1=((past.length-1:Nat):Int) from by omega]at E;refine RN 1 E I λa E=>?_;refine SS E (ag E (hr (past.length-1) _ (dR (by omega)))) λa E=>?_;refine RT 1 E I ?_;refine⟨?_,I⟩;have h0:past≠[]:=λh=>by rw[h]at aj;simp at aj
 rw[ic,getLastD_eq_getLast?,List.getLast?_eq_getElem?,aO (by omega)];rfl
theorem KQ (I:V W w L)(hb:c1 b)(eE:past.length≤4000)(jJ:past.length≤c)(hp:∀ w',V W w' L→a6 w' ad past.length past)(ht:∀ w',V W w' L→a6 w' adT b.table.length b.table) :
   Calls prog 325 #[.agg (dk b adT cT).toArray,.slice ad past.length c] w λe w'=>e=.returned (.int .u8 ((mX b past).toNat:Nat))∧V W w' L:=by
 have kV:=hb;simp only[c1]at kV;refine EN func325 ntmps325 rfl rfl λa E=>?_;refine BX 1 E I λb2 a w E I=>?_;change V W w (aa b2 186 (dk b adT cT)::_) at I;refine IF 6 E I (λaj a E=>?_) λaj a E=>?_
 ·
  refine bL 1 [5,6,7] [0,2,3,4,3001,1005,1006,1007,8,1009,10] E I λa w E I hH U=>?_;obtain⟨Yb,Yc,rfl,oX⟩:=(ht _ I.tail).get (by omega);have EK:past.length%b.table.length<b.table.length:=Nat.mod_lt _ (by omega);refine RH 8 E I hH U λa E=>?_;rw[nH]at E;refine RH 1 E I hH U λa E=>?_;refine SS E (ag E (oX (past.length%b.table.length) _ (kH EK))) λa E=>?_;refine RH 1 E I hH U λa E=>?_;refine RT 0 E I ?_;exact⟨by rw[mX,al (by omega)],I.sub⟩
 refine CL 3 E I (KO I hb eE jJ (λw' hw=>hp w' hw.tail)) λa w E I=>?_;refine AL 0 E I λb5 a w E I=>?_;rw[p7]at I;refine SA 0 E I λa w E I=>?_;refine CL 2 E I (KP I eE (λw' hw=>hp w' hw.tail.tail)) λa w E I=>?_;refine RN 5 E I λa E=>?_;have EL:=lz (ic past);refine aS (λμ a w=>∃ (i:Nat),(μ=256-i∧i≤256)∧Fr a 41 [(2,pt b2),(5,pt b5),(6,.int .u8 (lE (gB b past) (ic past).toNat i:Nat)),(27,.agg (ints .i64 256 (gB b past)).toArray),(28,.int .i64 i)]∧V W w (aa b5 320 (ints .i64 256 (gB b past))::aa b2 186 (dk b adT cT)::L)) (256) (⟨0,⟨rfl,by omega⟩,E.ab [2,5,6,27,28],I.sub⟩) ?_;clear E I;rintro μ a w ⟨i,⟨rfl,hi⟩,E,I⟩;refine IF 3 E I (λan a E=>?_) λan a E=>?_
 ·
  have nN:=D8 (w:=gB b past) EL (i:=i) hi;have Ak:i<256:=by omega
  refine RN 3 E I λa E=>?_;refine SS E (rI E underlying320 underlying3 rfl Ty.t3 (by omega) (fO _ Ak)) λa E=>?_;refine RN 6 E I λa E=>?_;refine SS E (ag E (I.bu (fO _ nN))) λa E=>?_;refine IF 1 E I (λay a E=>?_) λay a E=>?_
  ·
   refine SX 1 E I (by rw[wrap_u8];omega) λa E=>?_;refine RN 3 E I λa E=>?_;exact⟨256-(i+1),by omega,i+1,⟨rfl,by omega⟩,by rw[show lE (gB b past) (ic past).toNat (i+1)=i from by rw[lE,al (by omega)]];exact E.ab [2,5,6,27,28],I.sub⟩
  refine RN 2 E I λa E=>?_;exact⟨256-(i+1),by omega,i+1,⟨rfl,by omega⟩,by rw[show lE (gB b past) (ic past).toNat (i+1)=lE (gB b past) (ic past).toNat i from by rw[lE,ae (by omega)]];exact E.ab [2,5,6,27,28],I.sub⟩
 obtain rfl:i=256:=by omega
 have nN:=D8 (w:=gB b past) EL (i:=256) (by omega);refine RT 3 E I ?_;exact⟨by rw[mX,ae (by omega),UInt8.toNat_ofNat',Nat.mod_eq_of_lt (by omega)],I.sub⟩
theorem Yd (I:V W w L)(eE:past.length≤4000)(hp:∀ w',V W w' L→a6 w' ad past.length past) :
   Calls prog 329 #[.slice ad past.length c] w λe w'=>∃ av c',e=.returned (.slice av past.length c')∧V W w' (Sl 5 1 av past.length c' (bc past)::L):=by
 obtain⟨h1,h2,h3⟩:=hp _ I;cases oV:ad with
 | none =>
  have h0:=h2 oV;rw[g6 (l:=past) h0];refine EN func329 ntmps329 rfl rfl λa E=>?_;refine RN 6 E I λa E=>?_;replace E:=E.eo 4;refine RT 3 E I ?_;exact⟨_,_,rfl,I.bH _ _ _⟩
 | some a =>
  rw[← oV];refine EN func329 ntmps329 rfl rfl λa E=>?_;refine RN 6 E I λa E=>?_;rw[show ad.isNone=false from by rw[oV];rfl]at E;replace E:=E.aN 4;refine RN 2 E I λa E=>?_;refine tc E rfl I underlying22 Ty.t5 rfl λb5 a w E I ho=>?_;clear ho;replace I:V W w (Sl 5 1 (some ⟨b5,0,none⟩) 0 0 []::L):=I.tail.bH _ _ _;refine RN 1 E I λa E=>?_;refine gW E rfl I underlying22 Ty.t5 rfl rfl (by decide) (λh0=>(hp _ I.tail).get h0) (by rw[dx];omega) (ek _) (by omega) λrQ qx a w E I=>?_;rw[nil_append,Nat.zero_add]at I;rw[Nat.zero_add]at E;refine RT 1 E I ?_;exact⟨_,_,rfl,I⟩
theorem Ye {to:Int}(I:V W w L)(hb:c1 b)(eE:past.length≤1001)(jJ:past.length≤c)(hn:m≤1000)(hp:∀ w',V W w' L→a6 w' ad past.length past)(ht:∀ w',V W w' L→a6 w' adT b.table.length b.table) :
   Calls prog 311 #[.agg (dk b adT cT).toArray,.slice ad past.length c,.int .i64 m] w λe w'=>∃ av c',e=.returned (.slice av m c')∧V W w' (Sl 5 1 av m c' (bc (jT b past m))::L):=by
 refine EN func311 ntmps311 rfl rfl λa E=>?_;refine BX 1 E I λb3 a w E I=>?_;change V W w (aa b3 186 (dk b adT cT)::_) at I;refine bd 4 E I (xW I) λr a w E ⟨hr,I⟩=>?_;rw[hr.2 hb]at E;refine RN 1 E I λa E=>?_;replace E:=E.aN 10;refine a2 3 E I (Yd I (by omega) (λw' hw=>hp w' hw.tail)) λk6 eF a w E I=>?_;refine RN 6 E I λa E=>?_;rw[show min (max (m:Int) 0) 1000=(m:Int) from by omega]at E;refine RN 1 E I λa E=>?_;refine aS (λμ a w=>∃ (i:Nat) (ad2:Option Addr) (c2:Nat),(μ=m-i∧i≤m)∧Fr a 29 [(1,.slice ad past.length c),(3,pt b3),(7,.slice ad2 (eg b past i).length c2),(15,.int .i64 m),(16,.int .i64 i)]∧V W w (Sl 5 1 ad2 (eg b past i).length c2 (bc (eg b past i))::aa b3 186 (dk b adT cT)::L)) (m) (⟨0,k6,eF,⟨rfl,by omega⟩,E.ab [1,3,7,15,16],I⟩) ?_;clear E I;rintro μ a w ⟨i,ad2,c2,⟨rfl,hi⟩,E,I⟩;refine IF 3 E I (λan a E=>?_) λan a E=>?_
 ·
  have cd:=ie b past i;have EM:=(I.sl ad2).2;refine CL 4 E I (KQ I hb (by omega) EM (λw' hw=>hw.cF ad2 (eg b past i) rfl rfl) (λw' hw=>ht w' hw.tail.tail)) λa w E I=>?_;refine RN 0 E I λa E=>?_;refine cm E rfl I underlying22 Ty.t5 rfl rfl rfl rfl (by decide) (by decide) λtE a w E I ho=>?_;clear ho;refine RN 0 E I λa E=>?_;refine cJ E rfl I underlying22 Ty.t5 rfl rfl I.ai rfl (ek [mX b (eg b past i)]) (by decide) (by decide) (by omega) λgj gk a w E I=>?_;rw[show bc (eg b past i)++_=bc (eg b past (i+1)) from (fI _ [_]).symm,show (eg b past i).length+1=(eg b past (i+1)).length from by rw[ie,ie];omega]at I;rw[show (eg b past i).length+1=(eg b past (i+1)).length from by rw[ie,ie];omega]at E;refine RN 3 E I λa E=>?_;exact⟨m-(i+1),by omega,i+1,gj,gk,⟨rfl,by omega⟩,E.ab [1,3,7,15,16],I.sub⟩
 obtain rfl:i=m:=by omega
 have cd:=ie b past i;refine RT 6 E I ?_;have h1:=I.Bv ad2 past.length (eg b past i).length (by omega) (bh _);rw[show (eg b past i).length-past.length=i from by omega,Nat.mul_one,Nat.mul_one,← X9,fX (by rw[dx,c7];omega),show List.drop past.length (eg b past i)=jT b past i from rfl]at h1;refine⟨_,_,by rw[show (eg b past i).length-past.length=i from by omega],h1.sub⟩
end
end
end Go.Proofs.YteoldcfapaiobaaGreat
