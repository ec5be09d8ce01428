/- quintainref21.Player. -/
import Derived.Test.YteoldcfapaiobaaGreatE12RefC
import Derived.Test.YteoldcfapaiobaaGreatE11Mul
import Derived.Test.YteoldcfapaiobaaGreatE09Core
namespace Go.Proofs.YteoldcfapaiobaaGreat
open Tryz
open List (mem_cons_self length_range take_succ_cons getElem?_drop set_eq_take_append_cons_drop perm_middle getElem?_append_right drop_left take_zero foldl_cons nil_append map_cons set_append_right set_append_left mem_range drop_eq_nil_of_le getElem_map eraseIdx_eq_take_drop_succ cons_append take_length append_nil mem_or_eq_of_mem_set getElem_mem map_take map_drop mem_singleton foldl_append length_filter_le flatMap_cons)
open Go.RowKit
set_option linter.unusedVariables false
set_option linter.unusedSimpArgs false
set_option maxRecDepth 10000
set_option synthInstance.maxSize 4000
set_option synthInstance.maxHeartbeats 400000
section
structure fT where
 pb:Nat
 core:nM
 aq:Option Addr
 cO:Nat
 adT:Option Addr
 cT:Nat
 gs:Gs
abbrev eT (p:Pr)(B:fT)(g:Nat→Int):List Value:=[pt B.core.cb,.string p.title,.slice B.aq p.ops.length B.cO,.int .i64 B.gs.kind,.int .i64 B.gs.order,.slice B.adT B.gs.table.length B.cT]++ints .i32 32 g
theorem M1 {w:World}{b:Nat}{p:Pr}{B:fT}{g:Nat→Int}(h:Rd w b 0 (eT p B g)):Rd w b 1 (bP p B.aq B.cO):=h.part 1 2
theorem aa1 {w:World}{b:Nat}{p:Pr}{B:fT}{g:Nat→Int}(h:Rd w b 0 (eT p B g)):Rd w b 3 (di B.gs B.adT B.cT):=h.part 3 3
theorem Bu {w:World}{b:Nat}{p:Pr}{B:fT}{g:Nat→Int}(h:Rd w b 0 (eT p B g)):Rd w b 6 (ints .i32 32 g):=by
 have h1:=h.part 6 32
 rwa [show ((eT p B g).drop 6).take 32=ints .i32 32 g from by
  show (ints .i32 32 g).take 32=_;exact fX (by rw[dd];exact a7 _)]at h1
theorem M3 (p:Pr)(B:fT)(g:Nat→Int):(eT p B g).length=38:=by rw[eT,aL,dd];rfl
theorem aa2 (p:Pr)(B:fT)(g g':Nat→Int):cG (eT p B g) 6 (ints .i32 32 g')=eT p B g':=by
 rw[cG,dd,drop_eq_nil_of_le (by rw[M3];exact a7 _),append_nil,eT,eT]
 congr 1
def b0 (W:World)(B:fT)(p:Pr)(s:Pl):SP:=λh=>cn [aa B.pb 51 (eT p B s.g),aZ B.core s.k,aA W p B.aq B.cO] h
section
variable {W w:World}{L R:List SP}{n c i cP cT:Nat}{ad adP adT:Option Addr}{B:fT}{x:UInt8}{p:Pr}{s:Pl}{bs tb:List UInt8}{k:Ks}{C:nM}{A:mH}
theorem b0.open (I:U W w (b0 W B p s::L)):U W w (aa B.pb 51 (eT p B s.g)::aZ B.core s.k::aA W p B.aq B.cO::L) :=
 I.open (M:=[_,_,_]) λ_ h=>h
theorem b0.fold (I:U W w L)(B:fT)(p:Pr)(s:Pl)[kk:fD L [aa B.pb 51 (eT p B s.g),aZ B.core s.k,aA W p B.aq B.cO] R]:U W w (b0 W B p s::R) :=
 U.shut (M:=[_,_,_]) (I.perm kk.perm) λ_ h=>h
theorem Gf (I:U W w (bM C.lb C.lo C.cL k.ls::aa C.cb 72 (cR k C A)::L))(hk:WC k):Calls prog 19 #[pt C.cb] w λr w'=>r=.returned (.int .i64 (aw k))∧U W w' (bM C.lb C.lo C.cL k.ls::aa C.cb 72 (cR k C A)::L):=by
 have hn:=hk.n;have eQ:=hk.ls;refine EN func19 ntmps19 rfl rfl λa E=>?_;refine RN 7 E I λa E=>?_;obtain⟨xs,ba,I⟩:=bM.open I;have bW:xs.length=k.ls.length:=by rw[← ba,fS]
 rw[← bW]at E;refine CL 0 E I (Bg (xs:=xs) I (by omega) (by omega) (λw' hw=>U.oN hw)) λa w E I=>?_;refine RT 1 E I ?_;exact⟨by rw[ba];rfl,bM.close I ba⟩
theorem Gg (I:U W w (b0 W B p s::L))(hw:WP p s)(a6:dh p)(aG:p.title.size≤1000000000):Calls prog 66 #[pt B.pb] w λr w'=>r=.returned (.tuple #[])∧U W w' (b0 W B p (ew p s)::L):=by
 refine EN func66 ntmps66 rfl rfl λa E=>?_;refine RN 0 E I λa E=>?_;refine aO (λμ a w=>∃ (i:Nat),(μ=aw s.k-s.k.mr.length-i∧i≤aw s.k-s.k.mr.length)∧Fr a 60 [(0,pt B.pb)]∧U W w (b0 W B p (iw p i s)::L)) (aw s.k-s.k.mr.length) (⟨0,⟨rfl,by omega⟩,E.ab [0],I⟩) ?_;clear E I;rintro μ a w ⟨i,⟨rfl,hi⟩,E,I⟩;obtain⟨j9,eQ,l9⟩:=hw.qw i hi;have eM:iw p (i+1) s=nJ p (iw p i s):=E4 p i s;have CT:=hw.low;have vx:aw (iw p i s).k=aw s.k:=by rw[aw,eQ];rfl
 generalize FM:iw p i s=si at I j9 eQ l9 eM vx;replace I:=b0.open I;have bD:=j9.wc.k0;have iq:si.k.ls.length≤8:=by rw[j9.wc.ls];exact j9.wc.n.2
 have wJ:0<si.k.ls.length:=by rw[j9.wc.ls];have:=j9.wc.n;omega
 have ZE:aw si.k≤1000:=ft j9.wc.nc j9.wc.lx;obtain⟨A,I⟩:=aZ.open (I.pick (aZ B.core si.k));refine aV 2 (λw0 w'=>Rd w' B.pb 0 (eT p B si.g)∧Rd w' B.core.cb 0 (cR si.k B.core A)) [11,12] [0,1,2,8,9,10,3003,4,5,3006,7,1011,1012,13] E I λa w E I hH=>?_;have hC:=hH.at w ⟨I.ai (b:=B.pb),I.ai (b:=B.core.cb)⟩;refine RH 6 E I hH hC λa E=>?_;refine QH E (λw hc=>ae E (hc.1 0 _ rfl)) hC λa E=>?_;refine RH 2 E I hH hC λa E=>?_;refine QH E (λw hc=>ae E (hc.2 16 _ rfl)) hC λa E=>?_;refine RH 1 E I hH hC λa E=>?_;refine SS E (ae E (hC.1 0 _ rfl)) λa E=>?_;refine RH 0 E I hH hC λa E=>?_;refine CL 0 E I (Gf ((I.pick (aa B.core.cb 72 (cR si.k B.core A))).pick (bM B.core.lb B.core.lo B.core.cL si.k.ls)) j9.wc) λa w E I=>?_;replace hC:=hH.at w ⟨I.ai (b:=B.pb),I.ai (b:=B.core.cb)⟩;refine RH 1 E I hH hC λa E=>?_;refine IF 0 E I (λaj a E=>?_) λaj a E=>?_
 ·
  have qf:si.k.mr.length<aU si.k.ls:=by
   have:aU si.k.ls=aw si.k:=rfl;omega
  have ZF:si.k.mr.length<aw si.k:=qf;refine RN 11 E I λa E=>?_;obtain⟨xs,ba,I⟩:=bM.open (I.pick (bM B.core.lb B.core.lo B.core.cL si.k.ls));have bW:xs.length=si.k.ls.length:=by rw[← ba,fS]
  have ei:=m8 si.k.ls si.k.mr.length;refine aV 0 (λw0 w'=>Rd w' B.pb 0 (eT p B si.g)∧Rd w' B.core.cb 0 (cR si.k B.core A)) [8,13,14,15,16,18] [0,1,2,3,5,6,7,9,10,11,12,17,3004,3008,1013,1014,1015,1016,1018,1019,20,21,22,23,24,1025] E I λa w E I hH=>?_;have hC:=hH.at w ⟨I.ai (b:=B.pb),I.ai (b:=B.core.cb)⟩;refine RH 12 E I hH hC λa E=>?_;refine QH E (λw hc=>bS E underlying45 rfl Ty.t45 (M1 hc.1)) hC λa E=>?_;refine QH E (λw hc=>bS E underlying49 rfl Ty.t49 (Bu hc.1)) hC λa E=>?_;refine RH 0 E I hH hC λa E=>?_;refine SS E (ae E (hC.1 0 _ rfl)) λa E=>?_;refine RH 2 E I hH hC λa E=>?_;refine SS E (ae E (hC.2 10 _ rfl)) λa E=>?_;rw[← bW]at E;refine RH 0 E I hH hC λa E=>?_;refine aY 0 E I (FT (xs:=xs) (f:=si.k.mr.length) I (by omega) (by omega) (λw' hw=>U.oN hw) (by rw[ba];exact qf)) λiI iT a w E I=>?_;replace hC:=hH.at w ⟨I.ai (b:=B.pb),I.ai (b:=B.core.cb)⟩;rw[ba]at E I;refine RH 0 E I hH hC λa E=>?_;refine bh 0 E I (D3 (b:=bJ si.k.ls si.k.mr.length) (fr:=si.k.mr.length) (I.pick (aA W p B.aq B.cO)) a6 aG (j9.pJ a6) (by omega) (by omega) (λw' hw=>(hw.pick (Sl 5 1 iI (bJ si.k.ls si.k.mr.length).length iT (bc (bJ si.k.ls si.k.mr.length)))).cu iI _ rfl rfl)) λnst a w E ⟨pD,I⟩=>?_;refine RN 5 E I λa E=>?_;refine qK E rfl I Ty.t49 tD (by rw[dd,M3];decide) λa w E I=>?_;rw[aa2]at I;refine RN 0 E I λa E=>?_;replace I:=bM.close (I.sub (M:=Sl 65 1 (some ⟨B.core.lb,B.core.lo,none⟩) si.k.ls.length B.core.cL (xs.map aK)::ah a8 xs::aa B.pb 51 (eT p B (e0 p si.k.mr.length (bJ si.k.ls si.k.mr.length) si.g))::aA W p B.aq B.cO::aa B.core.cb 72 (cR si.k B.core A)::aa B.core.hb 3 (e6 si.k.ps)::aa B.core.dU 3 (eS si.k.ps)::aa B.core.wb 313 (rows e8 si.k.ps)::aa B.core.xb 4 (e7 si.k.ps)::Sl 100 1 A.cj si.k.mr.length A.cM (c0 si.k.mr)::Sl 102 3 A.adE si.k.ev.length A.cE (rows bU si.k.ev)::L)) ba;replace I:=aZ.fold I B.core si.k A;refine aV 0 (λw0 w'=>Rd w' B.pb 0 (eT p B (e0 p si.k.mr.length (bJ si.k.ls si.k.mr.length) si.g))) [7,8] [0,1,2,4,5,6,3003,1007,1008,1009] E I λa w E I hH=>?_;have hC:=hH.at w (I.ai (b:=B.pb));refine RH 6 E I hH hC λa E=>?_;refine QH E (λw hc=>ae E (hc 0 _ rfl)) hC λa E=>?_;refine RH 0 E I hH hC λa E=>?_;refine SS E (bS E underlying49 rfl Ty.t49 (Bu hC)) λa E=>?_;refine RH 0 E I hH hC λa E=>?_;refine CL 0 E I (Yj I) λa w E I=>?_;replace hC:=hH.at w (I.ai (b:=B.pb));refine RH 0 E I hH hC λa E=>?_;refine CL 0 E I (aaG (I.pick (aZ B.core si.k)) j9.wc (by omega) (Ea _)) λa w E I=>?_;refine RN 0 E I λa E=>?_;exact⟨aw s.k-s.k.mr.length-(i+1),by omega,i+1,⟨rfl,by omega⟩,E.ab [0],by
   rw[eM];show U W w (b0 W B p ⟨lu si.k (jk (gn (e0 p si.k.mr.length (bJ si.k.ls si.k.mr.length) si.g))),e0 p si.k.mr.length (bJ si.k.ls si.k.mr.length) si.g⟩::L);exact (b0.fold I B p ⟨lu si.k (jk (gn (e0 p si.k.mr.length (bJ si.k.ls si.k.mr.length) si.g))),e0 p si.k.mr.length (bJ si.k.ls si.k.mr.length) si.g⟩).sub⟩
 refine RT 0 E I ?_;obtain rfl:i=aw s.k-s.k.mr.length:=by
  have:aU si.k.ls=aw si.k:=rfl;omega
 refine⟨rfl,?_⟩;rw[ew,FM];exact (b0.fold (aZ.fold I B.core si.k A) B p si).sub
theorem aa3 (I:U W w (b0 W B p s::L))(hw:cw p s)(a6:dh p)(aG:p.title.size≤1000000000):Calls prog 71 #[pt B.pb,.int .u8 (x.toNat:Nat)] w λr w'=>r=.returned (.int .i64 (dE p x s).1)∧U W w' (b0 W B p (dE p x s).2::L):=by
 have h1:=ux x s.k;have ln:=hw.toWP.more (hw.wc.al x) (hw.held.al x) h1.1 h1.2;replace I:=b0.open I;refine EN func71 ntmps71 rfl rfl λa E=>?_;refine CL 8 E I (aaI (x:=x) (I.pick (aZ B.core s.k)) hw.wc) λa w E I=>?_;refine RN 1 E I λa E=>?_;replace I:=b0.fold I B p ⟨(cZ x s.k).2,s.g⟩;refine CL 2 E I (Gg I ln a6 aG) λa w E I=>?_;refine RT 3 E I ?_;exact⟨rfl,I⟩
theorem aa4 (I:U W w (b0 W B p s::L))(hw:cw p s)(a6:dh p)(aG:p.title.size≤1000000000)(hb:bs.length≤65536)(hc:bs.length≤c)(hp:∀ w',U W w' L→aX w' ad bs.length bs) :
   Calls prog 110 #[pt B.pb,.slice ad bs.length c] w λr w'=>r=.returned (.int .i64 (dF p bs s).1)∧U W w' (b0 W B p (dF p bs s).2::L):=by
 have h1:=rD bs s.k;have ln:=hw.toWP.more (hw.wc.recv bs).1 ((hw.wc.recv bs).2 hw.held) h1.1 h1.2;replace I:=b0.open I;refine EN func110 ntmps110 rfl rfl λa E=>?_;refine CL 8 E I (aaZ (bs:=bs) (ad:=ad) (c:=c) (I.pick (aZ B.core s.k)) hw.wc hw.held hb hc (λw' dc=>hp w' dc.tail.tail)) λa w E I=>?_;refine RN 1 E I λa E=>?_;replace I:=b0.fold I B p ⟨(dw bs s.k).2,s.g⟩;refine CL 2 E I (Gg I ln a6 aG) λa w E I=>?_;refine RT 3 E I ?_;exact⟨rfl,I⟩
theorem M4 (I:U W w (b0 W B p s::L))(hw:cw p s):Calls prog 77 #[pt B.pb] w λr w'=>∃ ad c,r=.returned (.tuple #[.slice ad 128 c,.int .i64 (lz s).2])∧U W w' (Sl 5 1 ad 128 c (bc (lz s).1)::b0 W B p s::L):=by
 replace I:=b0.open I;refine EN func77 ntmps77 rfl rfl λa E=>?_;refine aV 4 (λw0 w'=>Rd w' B.pb 0 (eT p B s.g)) [4,8] [0,1,2,5,6,7,3003,3008,1004,1009,10,11] E I λa w E I hH=>?_;have hC:=hH.at w (I.ai (b:=B.pb));refine RH 6 E I hH hC λa E=>?_;refine QH E (λw hc=>bS E underlying49 rfl Ty.t49 (Bu hc)) hC λa E=>?_;refine QH E (λw hc=>ae E (hc 0 _ rfl)) hC λa E=>?_;refine RH 0 E I hH hC λa E=>?_;refine aY 0 E I (uo I) λad c a w E I=>?_;replace hC:=hH.at w (I.ai (b:=B.pb));refine RH 0 E I hH hC λa E=>?_;refine CL 0 E I (F6 (I.pick (aZ B.core s.k)) hw.wc) λa w E I=>?_;refine RN 2 E I λa E=>?_;refine RT 0 E I ?_;exact⟨ad,c,rfl,(b0.fold I B p s).sub (M:=Sl 5 1 ad 128 c (bc (gn s.g))::b0 W B p s::L)⟩
theorem Gh (I:U W w (bM C.lb C.lo C.cL k.ls::aa C.cb 72 (cR k C A)::L))(hk:WC k):Calls prog 20 #[pt C.cb] w λr w'=>r=.returned (.int .i64 (aD k))∧U W w' (bM C.lb C.lo C.cL k.ls::aa C.cb 72 (cR k C A)::L):=by
 have ek:k.me<k.ls.length:=by rw[hk.ls];exact hk.me
 refine EN func20 ntmps20 rfl rfl λa E=>?_;refine bQ 3 [8] [0,1,2,4,5,6,7,3003,1008,9,10,1011,12,13] E I λa w E I hH hC=>?_;obtain⟨xs,ba,I⟩:=bM.open I;have bW:xs.length=k.ls.length:=by rw[← ba,fS]
 obtain⟨lX,ol,y,uJ,hy,ni,oM⟩:=(U.oN I).at (i:=k.me) (by omega);cases uJ;have iH:aD k=y.2.2.length:=by
  show (k.ls.getD k.me []).length=_;rw[← ba,rI hy]
 replace hH:=Hd.gy I;refine RH 11 E I hH hC λa E=>?_;refine SS E (ae E (ni)) λa E=>?_;rw[aK]at E;refine RH 2 E I hH hC λa E=>?_;refine RT 0 E I ?_;exact⟨by rw[iH],bM.close I ba⟩
theorem aa5 (I:U W w (b0 W B p s::L))(hw:cw p s)(a6:dh p)(aG:p.title.size≤1000000000)(fA:cX B.gs)(hT:aX W B.adT B.gs.table.length B.gs.table):Calls prog 78 #[pt B.pb] w λr w'=>∃ ad c,r=.returned (.tuple #[.slice ad 128 c,.int .i64 (fz p B.gs s).2])∧U W w' (Sl 5 1 ad 128 c (bc (fz p B.gs s).1)::b0 W B p s::L):=by
 have iq:s.k.ls.length≤8:=by rw[hw.wc.ls];exact hw.wc.n.2
 have wJ:0<s.k.ls.length:=by rw[hw.wc.ls];have:=hw.wc.n;omega
 have gS:=hw.wc.lx;have fp:aw s.k≤aD s.k:=hw.wc.nc;replace I:=b0.open I;refine EN func78 ntmps78 rfl rfl λa E=>?_;refine aV 5 (λw0 w'=>Rd w' B.pb 0 (eT p B s.g)) [4,8] [0,1,2,5,6,7,3003,3008,1004,1009,10] E I λa w E I hH=>?_;have hC:=hH.at w (I.ai (b:=B.pb));refine RH 6 E I hH hC λa E=>?_;refine QH E (λw hc=>ae E (hc 0 _ rfl)) hC λa E=>?_;refine QH E (λw hc=>ae E (hc 0 _ rfl)) hC λa E=>?_;refine RH 0 E I hH hC λa E=>?_;refine CL 0 E I (rL (I.pick (aZ B.core s.k)) hw.wc) λa w E I=>?_;replace hC:=hH.at w (I.ai (b:=B.pb));refine RH 0 E I hH hC λa E=>?_;refine CL 0 E I (F6 I hw.wc) λa w E I=>?_;refine RN 1 E I λa E=>?_;refine IF 0 E I (λaj a E=>?_) λaj a E=>?_
 ·
  replace I:=b0.fold I B p s;refine aY 2 E I (M4 I hw) λad c a w E I=>?_;refine RT 4 E I ?_;refine⟨ad,c,?_,?_⟩
  ·rw[fz,ak (by omega)]
  ·rw[fz,ak (by omega)];exact I
 refine RN 1 E I λa E=>?_;obtain⟨A,I⟩:=aZ.open (I.pick (aZ B.core s.k));refine aV 0 (λw0 w'=>Rd w' B.pb 0 (eT p B s.g)∧Rd w' B.core.cb 0 (cR s.k B.core A)) [7,11,12,16,17,18,19,23,27,28,29,31] [0,1,2,4,5,6,8,9,10,13,14,15,20,21,22,24,25,26,3003,3007,3011,3016,3017,3018,3019,3023,3027,2012,2028,2029,2030,1031,1032] E I λa w E I hH=>?_;have hC:=hH.at w ⟨I.ai (b:=B.pb),I.ai (b:=B.core.cb)⟩;refine RH 18 E I hH hC λa E=>?_;refine QH E (λw hc=>bS E underlying45 rfl Ty.t45 (M1 hc.1)) hC λa E=>?_;refine QH E (λw hc=>bS E underlying49 rfl Ty.t49 (Bu hc.1)) hC λa E=>?_;refine QH E (λw hc=>ae E (hc.1 0 _ rfl)) hC λa E=>?_;refine QH E (λw hc=>ae E (hc.1 0 _ rfl)) hC λa E=>?_;refine RH 2 E I hH hC λa E=>?_;refine QH E (λw hc=>ae E (hc.2 10 _ rfl)) hC λa E=>?_;refine QH E (λw hc=>bS E underlying47 rfl Ty.t47 (aa1 hc.1)) hC λa E=>?_;refine QH E (λw hc=>ae E (hc.1 0 _ rfl)) hC λa E=>?_;refine RH 0 E I hH hC λa E=>?_;refine DN [(12,[2028,2029,2030,1031,1032]),(31,[1012,1028,1029,1030,1032])] (by kernel_rfl) rfl ⟨⟨_,rfl,?_⟩,⟨_,rfl,?_⟩,trivial⟩
 ·
  refine RH 0 E I hH hC λa E=>?_;refine CL 0 E I (Gf ((I.pick (aa B.core.cb 72 (cR s.k B.core A))).pick (bM B.core.lb B.core.lo B.core.cL s.k.ls)) hw.wc) λa w E I=>?_;replace hC:=hH.at w ⟨I.ai (b:=B.pb),I.ai (b:=B.core.cb)⟩;refine RH 0 E I hH hC λa E=>?_;refine DN [(28,[2029,2030,1031,1032]),(31,[1028,1029,1030,1032])] (by kernel_rfl) rfl ⟨⟨_,rfl,?_⟩,⟨_,rfl,?_⟩,trivial⟩
  ·
   refine RH 0 E I hH hC λa E=>?_;refine CL 0 E I (Gh ((I.pick (aa B.core.cb 72 (cR s.k B.core A))).pick (bM B.core.lb B.core.lo B.core.cL s.k.ls)) hw.wc) λa w E I=>?_;replace hC:=hH.at w ⟨I.ai (b:=B.pb),I.ai (b:=B.core.cb)⟩;refine RH 0 E I hH hC λa E=>?_;refine DN [(29,[2030,1031,1032]),(31,[1029,1030,1032])] (by kernel_rfl) rfl ⟨⟨_,rfl,?_⟩,⟨_,rfl,?_⟩,trivial⟩
   ·
    obtain⟨xs,ba,I⟩:=bM.open (I.pick (bM B.core.lb B.core.lo B.core.cL s.k.ls));have bW:xs.length=s.k.ls.length:=by rw[← ba,fS]
    rw[← bW]at E;refine RH 0 E I hH hC λa E=>?_;refine jO 0 E I (Bh (xs:=xs) (b:=B.gs) (r:=0) (to:=aD s.k) (by decide) I fA (by omega) (by omega) (by rw[ba];exact hw.wc.na) gS (λw' dc=>U.oN dc) (λw' dc=>hT.gy dc)) λfR gf X a w E ⟨⟨ta,ik⟩,I⟩=>?_;replace hC:=hH.at w ⟨I.ai (b:=B.pb),I.ai (b:=B.core.cb)⟩;have mD:=ik rfl;subst mD;rw[wA,ba]at I;rw[ba]at E;have jj:(dq B.gs s.k.ls (aD s.k)).length=aD s.k-aU s.k.ls:=wa _ _ _;have mG:∀ b∈dq B.gs s.k.ls (aD s.k),b.length≤1099511627776:=λb hb=>by
     rw[dq,cV]at hb;obtain⟨i,_,rfl⟩:=hb;rw[m8,iS,bd];omega
    obtain⟨ys,fZ,gA,I⟩:=cg.open I;refine RH 0 E I hH hC λa E=>?_;refine DN [(30,[1031,1032]),(31,[1030,1032])] (by kernel_rfl) rfl ⟨⟨_,rfl,?_⟩,⟨_,rfl,?_⟩,trivial⟩
    ·
     refine RH 0 E I hH hC λa E=>?_;refine CL 0 E I (yL (P:=dq B.gs s.k.ls (aD s.k)) (zs:=ys) (fr:=aw s.k) (I.pick (aA W p B.aq B.cO)) jj a6 aG (hw.pJ a6) ⟨by omega,mG⟩ fZ (by omega) (λw' dc=>U.ma (dc.sub (M:=Sl 22 1 fR (aD s.k-aU s.k.ls) gf (ys.map aK)::ah a8 ys::[])))) λa w E ⟨pD,I⟩=>?_;refine RN 0 E I λa E=>?_;refine eV E rfl I Ty.t49 rfl λb4 a w E I ho=>?_;clear ho;replace hC:=hH.at w ⟨I.ai (b:=B.pb),I.ai (b:=B.core.cb)⟩;refine RH 0 E I hH hC λa E=>?_;refine SA 0 E I λa w E I=>?_;refine RN 0 E I λa E=>?_;replace I:=bM.close (I.sub (M:=Sl 65 1 (some ⟨B.core.lb,B.core.lo,none⟩) s.k.ls.length B.core.cL (xs.map aK)::ah a8 xs::aa b4 49 (ints .i32 32 (foldI p (aw s.k) s.g (dq B.gs s.k.ls (aD s.k))))::aa B.pb 51 (eT p B s.g)::aA W p B.aq B.cO::aa B.core.cb 72 (cR s.k B.core A)::aa B.core.hb 3 (e6 s.k.ps)::aa B.core.dU 3 (eS s.k.ps)::aa B.core.wb 313 (rows e8 s.k.ps)::aa B.core.xb 4 (e7 s.k.ps)::Sl 100 1 A.cj s.k.mr.length A.cM (c0 s.k.mr)::Sl 102 3 A.adE s.k.ev.length A.cE (rows bU s.k.ev)::L)) ba;replace I:=aZ.fold I B.core s.k A;refine aV 1 (λw0 w'=>Rd w' b4 0 (ints .i32 32 (foldI p (aw s.k) s.g (dq B.gs s.k.ls (aD s.k))))∧Rd w' B.pb 0 (eT p B s.g)) [1,5] [2,3,4,3000,3005,1001,1006,7,8] E I λa w E I hH=>?_;have hC:=hH.at w ⟨I.ai (b:=b4),I.ai (b:=B.pb)⟩;refine RH 3 E I hH hC λa E=>?_;refine QH E (λw hc=>bS E underlying49 rfl Ty.t49 (hc.1)) hC λa E=>?_;refine QH E (λw hc=>ae E (hc.2 0 _ rfl)) hC λa E=>?_;refine RH 0 E I hH hC λa E=>?_;refine aY 0 E I (uo I) λad2 c2 a w E I=>?_;replace hC:=hH.at w ⟨I.ai (b:=b4),I.ai (b:=B.pb)⟩;refine RH 0 E I hH hC λa E=>?_;refine CL 0 E I (rL (I.pick (aZ B.core s.k)) hw.wc) λa w E I=>?_;refine RN 2 E I λa E=>?_;refine RT 0 E I ?_;refine⟨ad2,c2,?_,?_⟩
     ·rw[fz,ag (by omega)]
     ·rw[fz,ag (by omega)];exact (b0.fold I B p s).sub (M:=Sl 5 1 ad2 128 c2 (bc (gn (foldI p (aw s.k) s.g (dq B.gs s.k.ls (aD s.k)))))::b0 W B p s::L)
    refine RH 0 E I hH hC λa E=>?_;refine eV E rfl I Ty.t49 rfl λb4 a w E I ho=>?_;clear ho;replace hC:=hH.at w ⟨I.ai (b:=B.pb),I.ai (b:=B.core.cb)⟩;refine RH 0 E I hH hC λa E=>?_;refine CL 0 E I (yL (P:=dq B.gs s.k.ls (aD s.k)) (zs:=ys) (fr:=aw s.k) (I.pick (aA W p B.aq B.cO)) jj a6 aG (hw.pJ a6) ⟨by omega,mG⟩ fZ (by omega) (λw' dc=>U.ma (dc.sub (M:=Sl 22 1 fR (aD s.k-aU s.k.ls) gf (ys.map aK)::ah a8 ys::[])))) λa w E ⟨pD,I⟩=>?_;refine SA 0 E I λa w E I=>?_;refine RN 0 E I λa E=>?_;replace I:=bM.close (I.sub (M:=Sl 65 1 (some ⟨B.core.lb,B.core.lo,none⟩) s.k.ls.length B.core.cL (xs.map aK)::ah a8 xs::aa b4 49 (ints .i32 32 (foldI p (aw s.k) s.g (dq B.gs s.k.ls (aD s.k))))::aa B.pb 51 (eT p B s.g)::aA W p B.aq B.cO::aa B.core.cb 72 (cR s.k B.core A)::aa B.core.hb 3 (e6 s.k.ps)::aa B.core.dU 3 (eS s.k.ps)::aa B.core.wb 313 (rows e8 s.k.ps)::aa B.core.xb 4 (e7 s.k.ps)::Sl 100 1 A.cj s.k.mr.length A.cM (c0 s.k.mr)::Sl 102 3 A.adE s.k.ev.length A.cE (rows bU s.k.ev)::L)) ba;replace I:=aZ.fold I B.core s.k A;refine aV 1 (λw0 w'=>Rd w' b4 0 (ints .i32 32 (foldI p (aw s.k) s.g (dq B.gs s.k.ls (aD s.k))))∧Rd w' B.pb 0 (eT p B s.g)) [1,5] [2,3,4,3000,3005,1001,1006,7,8] E I λa w E I hH=>?_;have hC:=hH.at w ⟨I.ai (b:=b4),I.ai (b:=B.pb)⟩;refine RH 3 E I hH hC λa E=>?_;refine QH E (λw hc=>bS E underlying49 rfl Ty.t49 (hc.1)) hC λa E=>?_;refine QH E (λw hc=>ae E (hc.2 0 _ rfl)) hC λa E=>?_;refine RH 0 E I hH hC λa E=>?_;refine aY 0 E I (uo I) λad2 c2 a w E I=>?_;replace hC:=hH.at w ⟨I.ai (b:=b4),I.ai (b:=B.pb)⟩;refine RH 0 E I hH hC λa E=>?_;refine CL 0 E I (rL (I.pick (aZ B.core s.k)) hw.wc) λa w E I=>?_;refine RN 2 E I λa E=>?_;refine RT 0 E I ?_;refine⟨ad2,c2,?_,?_⟩
    ·rw[fz,ag (by omega)]
    ·rw[fz,ag (by omega)];exact (b0.fold I B p s).sub (M:=Sl 5 1 ad2 128 c2 (bc (gn (foldI p (aw s.k) s.g (dq B.gs s.k.ls (aD s.k)))))::b0 W B p s::L)
   refine RH 0 E I hH hC λa E=>?_;refine eV E rfl I Ty.t49 rfl λb4 a w E I ho=>?_;clear ho;replace hC:=hH.at w ⟨I.ai (b:=B.pb),I.ai (b:=B.core.cb)⟩;obtain⟨xs,ba,I⟩:=bM.open (I.pick (bM B.core.lb B.core.lo B.core.cL s.k.ls));have bW:xs.length=s.k.ls.length:=by rw[← ba,fS]
   rw[← bW]at E;refine RH 0 E I hH hC λa E=>?_;refine jO 0 E I (Bh (xs:=xs) (b:=B.gs) (r:=0) (to:=aD s.k) (by decide) I fA (by omega) (by omega) (by rw[ba];exact hw.wc.na) gS (λw' dc=>U.oN dc) (λw' dc=>hT.gy dc)) λfR gf X a w E ⟨⟨ta,ik⟩,I⟩=>?_;replace hC:=hH.at w ⟨I.ai (b:=B.pb),I.ai (b:=B.core.cb)⟩;have mD:=ik rfl;subst mD;rw[wA,ba]at I;rw[ba]at E;have jj:(dq B.gs s.k.ls (aD s.k)).length=aD s.k-aU s.k.ls:=wa _ _ _;have mG:∀ b∈dq B.gs s.k.ls (aD s.k),b.length≤1099511627776:=λb hb=>by
    rw[dq,cV]at hb;obtain⟨i,_,rfl⟩:=hb;rw[m8,iS,bd];omega
   obtain⟨ys,fZ,gA,I⟩:=cg.open I;refine RH 0 E I hH hC λa E=>?_;refine CL 0 E I (yL (P:=dq B.gs s.k.ls (aD s.k)) (zs:=ys) (fr:=aw s.k) (I.pick (aA W p B.aq B.cO)) jj a6 aG (hw.pJ a6) ⟨by omega,mG⟩ fZ (by omega) (λw' dc=>U.ma (dc.sub (M:=Sl 22 1 fR (aD s.k-aU s.k.ls) gf (ys.map aK)::ah a8 ys::[])))) λa w E ⟨pD,I⟩=>?_;refine SA 0 E I λa w E I=>?_;refine RN 0 E I λa E=>?_;replace I:=bM.close (I.sub (M:=Sl 65 1 (some ⟨B.core.lb,B.core.lo,none⟩) s.k.ls.length B.core.cL (xs.map aK)::ah a8 xs::aa b4 49 (ints .i32 32 (foldI p (aw s.k) s.g (dq B.gs s.k.ls (aD s.k))))::aa B.pb 51 (eT p B s.g)::aA W p B.aq B.cO::aa B.core.cb 72 (cR s.k B.core A)::aa B.core.hb 3 (e6 s.k.ps)::aa B.core.dU 3 (eS s.k.ps)::aa B.core.wb 313 (rows e8 s.k.ps)::aa B.core.xb 4 (e7 s.k.ps)::Sl 100 1 A.cj s.k.mr.length A.cM (c0 s.k.mr)::Sl 102 3 A.adE s.k.ev.length A.cE (rows bU s.k.ev)::L)) ba;replace I:=aZ.fold I B.core s.k A;refine aV 1 (λw0 w'=>Rd w' b4 0 (ints .i32 32 (foldI p (aw s.k) s.g (dq B.gs s.k.ls (aD s.k))))∧Rd w' B.pb 0 (eT p B s.g)) [1,5] [2,3,4,3000,3005,1001,1006,7,8] E I λa w E I hH=>?_;have hC:=hH.at w ⟨I.ai (b:=b4),I.ai (b:=B.pb)⟩;refine RH 3 E I hH hC λa E=>?_;refine QH E (λw hc=>bS E underlying49 rfl Ty.t49 (hc.1)) hC λa E=>?_;refine QH E (λw hc=>ae E (hc.2 0 _ rfl)) hC λa E=>?_;refine RH 0 E I hH hC λa E=>?_;refine aY 0 E I (uo I) λad2 c2 a w E I=>?_;replace hC:=hH.at w ⟨I.ai (b:=b4),I.ai (b:=B.pb)⟩;refine RH 0 E I hH hC λa E=>?_;refine CL 0 E I (rL (I.pick (aZ B.core s.k)) hw.wc) λa w E I=>?_;refine RN 2 E I λa E=>?_;refine RT 0 E I ?_;refine⟨ad2,c2,?_,?_⟩
   ·rw[fz,ag (by omega)]
   ·rw[fz,ag (by omega)];exact (b0.fold I B p s).sub (M:=Sl 5 1 ad2 128 c2 (bc (gn (foldI p (aw s.k) s.g (dq B.gs s.k.ls (aD s.k)))))::b0 W B p s::L)
  refine RH 0 E I hH hC λa E=>?_;refine eV E rfl I Ty.t49 rfl λb4 a w E I ho=>?_;clear ho;replace hC:=hH.at w ⟨I.ai (b:=B.pb),I.ai (b:=B.core.cb)⟩;refine RH 0 E I hH hC λa E=>?_;refine CL 0 E I (Gh ((I.pick (aa B.core.cb 72 (cR s.k B.core A))).pick (bM B.core.lb B.core.lo B.core.cL s.k.ls)) hw.wc) λa w E I=>?_;replace hC:=hH.at w ⟨I.ai (b:=B.pb),I.ai (b:=B.core.cb)⟩;obtain⟨xs,ba,I⟩:=bM.open (I.pick (bM B.core.lb B.core.lo B.core.cL s.k.ls));have bW:xs.length=s.k.ls.length:=by rw[← ba,fS]
  rw[← bW]at E;refine RH 0 E I hH hC λa E=>?_;refine jO 0 E I (Bh (xs:=xs) (b:=B.gs) (r:=0) (to:=aD s.k) (by decide) I fA (by omega) (by omega) (by rw[ba];exact hw.wc.na) gS (λw' dc=>U.oN dc) (λw' dc=>hT.gy dc)) λfR gf X a w E ⟨⟨ta,ik⟩,I⟩=>?_;replace hC:=hH.at w ⟨I.ai (b:=B.pb),I.ai (b:=B.core.cb)⟩;have mD:=ik rfl;subst mD;rw[wA,ba]at I;rw[ba]at E;have jj:(dq B.gs s.k.ls (aD s.k)).length=aD s.k-aU s.k.ls:=wa _ _ _;have mG:∀ b∈dq B.gs s.k.ls (aD s.k),b.length≤1099511627776:=λb hb=>by
   rw[dq,cV]at hb;obtain⟨i,_,rfl⟩:=hb;rw[m8,iS,bd];omega
  obtain⟨ys,fZ,gA,I⟩:=cg.open I;refine RH 0 E I hH hC λa E=>?_;refine CL 0 E I (yL (P:=dq B.gs s.k.ls (aD s.k)) (zs:=ys) (fr:=aw s.k) (I.pick (aA W p B.aq B.cO)) jj a6 aG (hw.pJ a6) ⟨by omega,mG⟩ fZ (by omega) (λw' dc=>U.ma (dc.sub (M:=Sl 22 1 fR (aD s.k-aU s.k.ls) gf (ys.map aK)::ah a8 ys::[])))) λa w E ⟨pD,I⟩=>?_;refine SA 0 E I λa w E I=>?_;refine RN 0 E I λa E=>?_;replace I:=bM.close (I.sub (M:=Sl 65 1 (some ⟨B.core.lb,B.core.lo,none⟩) s.k.ls.length B.core.cL (xs.map aK)::ah a8 xs::aa b4 49 (ints .i32 32 (foldI p (aw s.k) s.g (dq B.gs s.k.ls (aD s.k))))::aa B.pb 51 (eT p B s.g)::aA W p B.aq B.cO::aa B.core.cb 72 (cR s.k B.core A)::aa B.core.hb 3 (e6 s.k.ps)::aa B.core.dU 3 (eS s.k.ps)::aa B.core.wb 313 (rows e8 s.k.ps)::aa B.core.xb 4 (e7 s.k.ps)::Sl 100 1 A.cj s.k.mr.length A.cM (c0 s.k.mr)::Sl 102 3 A.adE s.k.ev.length A.cE (rows bU s.k.ev)::L)) ba;replace I:=aZ.fold I B.core s.k A;refine aV 1 (λw0 w'=>Rd w' b4 0 (ints .i32 32 (foldI p (aw s.k) s.g (dq B.gs s.k.ls (aD s.k))))∧Rd w' B.pb 0 (eT p B s.g)) [1,5] [2,3,4,3000,3005,1001,1006,7,8] E I λa w E I hH=>?_;have hC:=hH.at w ⟨I.ai (b:=b4),I.ai (b:=B.pb)⟩;refine RH 3 E I hH hC λa E=>?_;refine QH E (λw hc=>bS E underlying49 rfl Ty.t49 (hc.1)) hC λa E=>?_;refine QH E (λw hc=>ae E (hc.2 0 _ rfl)) hC λa E=>?_;refine RH 0 E I hH hC λa E=>?_;refine aY 0 E I (uo I) λad2 c2 a w E I=>?_;replace hC:=hH.at w ⟨I.ai (b:=b4),I.ai (b:=B.pb)⟩;refine RH 0 E I hH hC λa E=>?_;refine CL 0 E I (rL (I.pick (aZ B.core s.k)) hw.wc) λa w E I=>?_;refine RN 2 E I λa E=>?_;refine RT 0 E I ?_;refine⟨ad2,c2,?_,?_⟩
  ·rw[fz,ag (by omega)]
  ·rw[fz,ag (by omega)];exact (b0.fold I B p s).sub (M:=Sl 5 1 ad2 128 c2 (bc (gn (foldI p (aw s.k) s.g (dq B.gs s.k.ls (aD s.k)))))::b0 W B p s::L)
 refine RH 0 E I hH hC λa E=>?_;refine eV E rfl I Ty.t49 rfl λb4 a w E I ho=>?_;clear ho;replace hC:=hH.at w ⟨I.ai (b:=B.pb),I.ai (b:=B.core.cb)⟩;refine RH 0 E I hH hC λa E=>?_;refine CL 0 E I (Gf ((I.pick (aa B.core.cb 72 (cR s.k B.core A))).pick (bM B.core.lb B.core.lo B.core.cL s.k.ls)) hw.wc) λa w E I=>?_;replace hC:=hH.at w ⟨I.ai (b:=B.pb),I.ai (b:=B.core.cb)⟩;refine RH 0 E I hH hC λa E=>?_;refine CL 0 E I (Gh ((I.pick (aa B.core.cb 72 (cR s.k B.core A))).pick (bM B.core.lb B.core.lo B.core.cL s.k.ls)) hw.wc) λa w E I=>?_;replace hC:=hH.at w ⟨I.ai (b:=B.pb),I.ai (b:=B.core.cb)⟩;obtain⟨xs,ba,I⟩:=bM.open (I.pick (bM B.core.lb B.core.lo B.core.cL s.k.ls));have bW:xs.length=s.k.ls.length:=by rw[← ba,fS]
 rw[← bW]at E;refine RH 0 E I hH hC λa E=>?_;refine jO 0 E I (Bh (xs:=xs) (b:=B.gs) (r:=0) (to:=aD s.k) (by decide) I fA (by omega) (by omega) (by rw[ba];exact hw.wc.na) gS (λw' dc=>U.oN dc) (λw' dc=>hT.gy dc)) λfR gf X a w E ⟨⟨ta,ik⟩,I⟩=>?_;replace hC:=hH.at w ⟨I.ai (b:=B.pb),I.ai (b:=B.core.cb)⟩;have mD:=ik rfl;subst mD;rw[wA,ba]at I;rw[ba]at E;have jj:(dq B.gs s.k.ls (aD s.k)).length=aD s.k-aU s.k.ls:=wa _ _ _;have mG:∀ b∈dq B.gs s.k.ls (aD s.k),b.length≤1099511627776:=λb hb=>by
  rw[dq,cV]at hb;obtain⟨i,_,rfl⟩:=hb;rw[m8,iS,bd];omega
 obtain⟨ys,fZ,gA,I⟩:=cg.open I;refine RH 0 E I hH hC λa E=>?_;refine CL 0 E I (yL (P:=dq B.gs s.k.ls (aD s.k)) (zs:=ys) (fr:=aw s.k) (I.pick (aA W p B.aq B.cO)) jj a6 aG (hw.pJ a6) ⟨by omega,mG⟩ fZ (by omega) (λw' dc=>U.ma (dc.sub (M:=Sl 22 1 fR (aD s.k-aU s.k.ls) gf (ys.map aK)::ah a8 ys::[])))) λa w E ⟨pD,I⟩=>?_;refine SA 0 E I λa w E I=>?_;refine RN 0 E I λa E=>?_;replace I:=bM.close (I.sub (M:=Sl 65 1 (some ⟨B.core.lb,B.core.lo,none⟩) s.k.ls.length B.core.cL (xs.map aK)::ah a8 xs::aa b4 49 (ints .i32 32 (foldI p (aw s.k) s.g (dq B.gs s.k.ls (aD s.k))))::aa B.pb 51 (eT p B s.g)::aA W p B.aq B.cO::aa B.core.cb 72 (cR s.k B.core A)::aa B.core.hb 3 (e6 s.k.ps)::aa B.core.dU 3 (eS s.k.ps)::aa B.core.wb 313 (rows e8 s.k.ps)::aa B.core.xb 4 (e7 s.k.ps)::Sl 100 1 A.cj s.k.mr.length A.cM (c0 s.k.mr)::Sl 102 3 A.adE s.k.ev.length A.cE (rows bU s.k.ev)::L)) ba;replace I:=aZ.fold I B.core s.k A;refine aV 1 (λw0 w'=>Rd w' b4 0 (ints .i32 32 (foldI p (aw s.k) s.g (dq B.gs s.k.ls (aD s.k))))∧Rd w' B.pb 0 (eT p B s.g)) [1,5] [2,3,4,3000,3005,1001,1006,7,8] E I λa w E I hH=>?_;have hC:=hH.at w ⟨I.ai (b:=b4),I.ai (b:=B.pb)⟩;refine RH 3 E I hH hC λa E=>?_;refine QH E (λw hc=>bS E underlying49 rfl Ty.t49 (hc.1)) hC λa E=>?_;refine QH E (λw hc=>ae E (hc.2 0 _ rfl)) hC λa E=>?_;refine RH 0 E I hH hC λa E=>?_;refine aY 0 E I (uo I) λad2 c2 a w E I=>?_;replace hC:=hH.at w ⟨I.ai (b:=b4),I.ai (b:=B.pb)⟩;refine RH 0 E I hH hC λa E=>?_;refine CL 0 E I (rL (I.pick (aZ B.core s.k)) hw.wc) λa w E I=>?_;refine RN 2 E I λa E=>?_;refine RT 0 E I ?_;refine⟨ad2,c2,?_,?_⟩
 ·rw[fz,ag (by omega)]
 ·rw[fz,ag (by omega)];exact (b0.fold I B p s).sub (M:=Sl 5 1 ad2 128 c2 (bc (gn (foldI p (aw s.k) s.g (dq B.gs s.k.ls (aD s.k)))))::b0 W B p s::L)
theorem aa6 {n me aJ bt:Nat}{id bf order cv workers room:Int}(I:U W w (aA W p adP cP::L))(hm:eR ⟨n,me,id,aJ,bt,bf,order,cv,workers,room⟩)(a6:dh p)(aG:p.title.size≤1000000000) :
   Calls prog 46 #[.agg (bT ⟨n,me,id,aJ,bt,bf,order,cv,workers,room⟩).toArray,.agg (bP p adP cP).toArray,.slice adT tb.length cT] w λr w'=>∃ B:fT,r=.returned (pt B.pb)∧(B.gs=⟨bf,order,tb⟩∧B.adT=adT)∧U W w' (b0 W B p (ey p ⟨n,me,id,aJ,bt,bf,order,cv,workers,room⟩)::L):=by
 refine EN func46 ntmps46 rfl rfl λa E=>?_;refine BX 1 E I λb3 a w E I=>?_;change U W w (aa b3 28 (bT ⟨n,me,id,aJ,bt,bf,order,cv,workers,room⟩)::_) at I;refine BX 0 E I λb4 a w E I=>?_;change U W w (aa b4 45 [.string p.title,.slice adP p.ops.length cP]::_) at I;refine aV 2 (λw0 w'=>Rd w' b3 0 (bT ⟨n,me,id,aJ,bt,bf,order,cv,workers,room⟩)∧Rd w' b4 0 [.string p.title,.slice adP p.ops.length cP]) [1,2,4,6,8] [3,5,7,3000,3002,3004,3006,3008,1001,9,1010,11] E I λa w E I hH=>?_;have hC:=hH.at w ⟨I.ai (b:=b3),I.ai (b:=b4)⟩;refine RH 3 E I hH hC λa E=>?_;refine QH E (λw hc=>bS E underlying28 rfl Ty.t28 (hc.1)) hC λa E=>?_;refine QH E (λw hc=>bS E underlying45 rfl Ty.t45 (hc.2)) hC λa E=>?_;refine QH E (λw hc=>ae E (hc.1 5 _ rfl)) hC λa E=>?_;refine QH E (λw hc=>ae E (hc.1 6 _ rfl)) hC λa E=>?_;refine RH 1 E I hH hC λa E=>?_;refine bh 0 E I (aaP I hm) λBc a w E I=>?_;replace hC:=hH.at w ⟨I.ai (b:=b3),I.ai (b:=b4)⟩;refine RH 1 E I hH hC λa E=>?_;refine w6 E rfl I rfl λsM a w E I ho=>?_;clear ho;change U W w (aa sM 51 (eT p ⟨sM,Bc,adP,cP,adT,cT,⟨bf,order,tb⟩⟩ oD)::_) at I;refine RN 1 E I λa E=>?_;replace I:=b0.fold I ⟨sM,Bc,adP,cP,adT,cT,⟨bf,order,tb⟩⟩ p ⟨ff ⟨n,me,id,aJ,bt,bf,order,cv,workers,room⟩,oD⟩;refine CL 2 E I (Gg I (wo hm) a6 aG) λa w E I=>?_;refine RT 3 E I ?_;have h9:U W w (b0 W ⟨sM,Bc,adP,cP,adT,cT,⟨bf,order,tb⟩⟩ p (ey p ⟨n,me,id,aJ,bt,bf,order,cv,workers,room⟩)::_):=I;exact⟨⟨sM,Bc,adP,cP,adT,cT,⟨bf,order,tb⟩⟩,rfl,⟨rfl,rfl⟩,h9.sub⟩
end
end
section
section
variable {W w:World}{L:List SP}{e:j6}
theorem aa7 (I:U W w L):Calls prog 79 #[.agg (bU e).toArray,.agg (bU e).toArray] w λr w'=>r=.returned (.bool true)∧U W w' L:=by
 refine EN func79 ntmps79 rfl rfl λa E=>?_;refine BX 1 E I λb2 a w E I=>?_;change U W w (aa b2 102 [.int .i64 e.1,.int .i64 e.2.1,.int .i64 e.2.2]::_) at I;refine BX 0 E I λb3 a w E I=>?_;change U W w (aa b3 102 [.int .i64 e.1,.int .i64 e.2.1,.int .i64 e.2.2]::_) at I;refine RN 8 E I λa E=>?_;rw[dg (by omega)]at E;refine RN 7 E I λa E=>?_;rw[dg (by omega)]at E;refine RT 7 E I ?_;exact⟨by simp,I.sub⟩
end
end
section
theorem M5 {k:Ks}(h:WC k):(br k).1.length≤1000:=by
 have hn:=h.n;have hl:∀ k:Ks,(bG k).length≤k.n:=λk=>by
  rw[bG];exact ft (length_filter_le _ _) (by rw[length_range];exact a7 _)
 unfold br;split
 ·simp
 ·simp only;split
  ·simp
  ·rw[bd];have:=hl { k with now:=k.now+1 };have h2:({ k with now:=k.now+1 }:Ks).n=k.n:=rfl;omega
theorem M6 {k:Ks}(h:WC k):(cy k).1.length≤1000:=by
 have hn:=h.n;unfold cy;split
 ·simp
 ·rw[bd,bG];have h2:=length_filter_le (λi=>decide (i≠k.me)) (List.range k.n);rw[length_range]at h2;show ((List.range k.n).filter (·≠k.me)).length≤1000;omega
theorem aa8 (p:Pr)(x:UInt8){s:Pl}(h:cw p s):(dE p x s).2.k.now=s.k.now:=by
 have he:=ux x s.k;have h1:=(K8 (h.toWP.more (h.wc.al x) (h.held.al x) he.1 he.2)).2.2.2.2.2.1;rw[dE,h1];show (cZ x s.k).2.now=_;by_cases h0:(cZ x s.k).1=0
 ·obtain⟨_,_,_,h4⟩:=uv h0;rw[h4]
 ·rw[uw h0]
theorem aa9 (k:Ks)(q:Pk):(fQ k q).now=k.now:=by
 unfold fQ;split
 ·rfl
 ·obtain⟨ps,ev,h9,_⟩:=wg { k with ls:=k.ls.set q.aW.toNat (dp (k.ls.getD q.aW.toNat []) q.first.toNat q.al),ps:=k.ps.set q.aW.toNat (fP k.now (aD k) q (au k q.aW.toNat)) };rw[h9]
theorem aba (p:Pr)(bs:List UInt8){s:Pl}(h:cw p s):(dF p bs s).2.k.now=s.k.now:=by
 have he:=rD bs s.k;have h1:=(K8 (h.toWP.more (h.wc.recv bs).1 ((h.wc.recv bs).2 h.held) he.1 he.2)).2.2.2.2.2.1;rw[dF,h1];show (dw bs s.k).2.now=_;by_cases h0:(dw bs s.k).1=0
 ·obtain⟨q,_,_,_,_,_,h6⟩:=AP h0;rw[h6,aa9]
 ·rw[wj h0]
theorem abb (k:Ks):(br k).2.now≤k.now+1:=by
 rcases wm k with h1 | ⟨hc,h1 | ⟨i,hi,h1⟩⟩ <;> rw[h1]
 ·exact Nat.le_succ _
 ·exact a7 _
 ·exact a7 _
theorem abc (k:Ks):(cy k).2.now=k.now:=by
 unfold cy;split <;> rfl
structure Bv (W:World)(t:TypeId)(ad:Addr)(uK uL uM uN uO uP uQ uR:FuncId)(p:Pr)(gs:Gs)(J:Nat→Pl→SP):Prop where
 Gi : o5 prog t "Press" uK
 cP:g9 prog uK=true
 Gj : o5 prog t "Receive" uL
 Gk:g9 prog uL=true
 Gl : o5 prog t "Tick" uM
 cT:g9 prog uM=true
 Gm : o5 prog t "Quit" uN
 Gn:g9 prog uN=true
 Gp : o5 prog t "Events" uO
 cE:g9 prog uO=true
 Bw : o5 prog t "Confirmed" uP
 By:g9 prog uP=true
 Gq : o5 prog t "Display" uQ
 Gr:g9 prog uQ=true
 Gt : o5 prog t "Closed" uR
 Gu:g9 prog uR=true
 al:∀ (w:World) (L:List SP) (i:Nat) (s:Pl) (x:UInt8),i≤1000000→cw p s→U W w (J i s::L)→Calls prog uK (List.toArray [.pointer (some ad),.int .u8 (x.toNat:Nat)]) w λr w'=>r=.returned (.int .i64 (dE p x s).1)∧U W w' (J (i+1) (dE p x s).2::L)
 recv:∀ (w:World) (L:List SP) (i:Nat) (s:Pl) (bs:List UInt8) (a:Option Addr) (c:Nat),i≤1000000→cw p s→bs.length≤65536→bs.length≤c→(∀ w',U W w' L→aX w' a bs.length bs)→U W w (J i s::L)→Calls prog uL (List.toArray [.pointer (some ad),.slice a bs.length c]) w λr w'=>r=.returned (.int .i64 (dF p bs s).1)∧U W w' (J (i+1) (dF p bs s).2::L)
 tick:∀ (w:World) (L:List SP) (i:Nat) (s:Pl),i≤1000000→cw p s→s.k.now≤1000000→U W w (J i s::L)→Calls prog uM (List.toArray [.pointer (some ad)]) w λr w'=>∃ a c,r=.returned (.slice a (br s.k).1.length c)∧U W w' (cm 124 a (br s.k).1.length c (br s.k).1::J (i+1) ⟨(br s.k).2,s.g⟩::L)
 oC:∀ (w:World) (L:List SP) (i:Nat) (s:Pl),i≤1000000→cw p s→U W w (J i s::L)→Calls prog uN (List.toArray [.pointer (some ad)]) w λr w'=>∃ a c,r=.returned (.slice a (cy s.k).1.length c)∧U W w' (cm 124 a (cy s.k).1.length c (cy s.k).1::J (i+1) ⟨(cy s.k).2,s.g⟩::L)
 events:∀ (w:World) (L:List SP) (i:Nat) (s:Pl),i≤1000000→cw p s→U W w (J i s::L)→Calls prog uO (List.toArray [.pointer (some ad)]) w λr w'=>∃ a c,r=.returned (.slice a s.k.ev.length c)∧U W w' (Sl 135 1 a s.k.ev.length c (s.k.ev.map cA)::J (i+1) ⟨{ s.k with ev:=[] },s.g⟩::L)
 Bz:∀ (w:World) (L:List SP) (i:Nat) (s:Pl),i≤1000000→cw p s→U W w (J i s::L)→Calls prog uP (List.toArray [.pointer (some ad)]) w λr w'=>∃ a c,r=.returned (.tuple #[.slice a 128 c,.int .i64 (lz s).2])∧U W w' (Sl 5 1 a 128 c (bc (lz s).1)::J i s::L)
 Gv:∀ (w:World) (L:List SP) (i:Nat) (s:Pl),i≤1000000→cw p s→U W w (J i s::L)→Calls prog uQ (List.toArray [.pointer (some ad)]) w λr w'=>∃ a c,r=.returned (.tuple #[.slice a 128 c,.int .i64 (fz p gs s).2])∧U W w' (Sl 5 1 a 128 c (bc (fz p gs s).1)::J i s::L)
 closed:∀ (w:World) (L:List SP) (i:Nat) (s:Pl),i≤1000000→cw p s→U W w (J i s::L)→Calls prog uR (List.toArray [.pointer (some ad)]) w λr w'=>r=.returned (.bool s.k.cl)∧U W w' (J i s::L)
section
variable {W w:World}{L:List SP}{i:Nat}{t:TypeId}{ad:Addr}{uK uL uM uN uO uP uQ uR:FuncId}{p:Pr}{gs:Gs}{J:Nat→Pl→SP}{B:fT}{s:Pl}{b:Bool}
theorem abd (M:Bv W t ad uK uL uM uN uO uP uQ uR p gs J)(hi:i≤1000000)(I:U W w (J i s::b0 W B p s::L))(hw:cw p s)(a6:dh p)(aG:p.title.size≤1000000000)(fA:cX B.gs)(hbg:B.gs=gs)(hT:aX W B.adT B.gs.table.length B.gs.table) :
   Calls prog 53 #[.iface t (.pointer (some ad)),pt B.pb] w λe w'=>e=.returned (.bool true)∧U W w' (J i s::b0 W B p s::L):=by
 subst hbg;refine EN func53 ntmps53 rfl rfl λa E=>?_;refine RN 4 E I λa E=>?_;refine jA E rfl M.Bw M.By rfl (M.Bz _ _ i s hi hw I) (by rfl) ?_;clear E I;rintro e w ⟨de,dL,rfl,I⟩;refine⟨_,rfl,λa E=>?_⟩;refine aY 7 E I (M4 (I.pick (b0 W B p s)) hw) λdG c2 a w E I=>?_;refine RN 7 E I λa E=>?_;refine jA E rfl M.Gq M.Gr rfl (M.Gv _ _ i s hi hw (I.pick (J i s))) (by rfl) ?_;clear E I;rintro e w ⟨a3,dC,rfl,I⟩;refine⟨_,rfl,λa E=>?_⟩;refine aY 7 E I (aa5 (I.pick (b0 W B p s)) hw a6 aG fA hT) λa4 hG a w E I=>?_;refine RN 5 E I λa E=>?_;have cp:(lz s).1.length=128:=ug _;have mn:(fz p B.gs s).1.length=128:=by
  rw[fz];split
  ·exact ug _
  ·exact ug _
 replace I:=I.sub (M:=Sl 5 1 a4 128 hG (bc (fz p B.gs s).1)::Sl 5 1 a3 128 dC (bc (fz p B.gs s).1)::Sl 5 1 dG 128 c2 (bc (lz s).1)::Sl 5 1 de 128 dL (bc (lz s).1)::b0 W B p s::J i s::L);obtain⟨A,I⟩:∃ A,U W w (Sl 5 1 a4 128 hG (bc (fz p B.gs s).1)::Sl 5 1 a3 128 dC (bc (fz p B.gs s).1)::Sl 5 1 dG 128 c2 (bc (lz s).1)::Sl 5 1 de 128 dL (bc (lz s).1)::aa B.core.cb 72 (cR s.k B.core A)::bM B.core.lb B.core.lo B.core.cL s.k.ls::aa B.core.hb 3 (e6 s.k.ps)::aa B.core.dU 3 (eS s.k.ps)::aa B.core.wb 313 (rows e8 s.k.ps)::aa B.core.xb 4 (e7 s.k.ps)::Sl 100 1 A.cj s.k.mr.length A.cM (c0 s.k.mr)::Sl 102 3 A.adE s.k.ev.length A.cE (rows bU s.k.ev)::aa B.pb 51 (eT p B s.g)::aA W p B.aq B.cO::J i s::L):=by
  obtain⟨A,h⟩:=aZ.open ((b0.open (I.pick (b0 W B p s))).pick (aZ B.core s.k));exact⟨A,h.sub⟩
 refine aV 1 (λw0 w'=>((aX w' de 128 (lz s).1∧aX w' dG 128 (lz s).1)∧aX w' a3 128 (fz p B.gs s).1∧aX w' a4 128 (fz p B.gs s).1)∧Rd w' B.pb 0 (eT p B s.g)∧Rd w' B.core.cb 0 (cR s.k B.core A)) [7,19,24] [0,1,2,3,4,6,3005,1007,8,9,10,11,12,13,14,15,16,18,3017,1019,20,21,22,23,25,26,27,3028,29,30,3031,1024,32,33,34] E I λa w E I hH=>?_;have hC:=hH.at w ⟨⟨⟨I.cu de _ rfl cp,I.cu dG _ rfl cp⟩,I.cu a3 _ rfl mn,I.cu a4 _ rfl mn⟩,I.ai (b:=B.pb),I.ai (b:=B.core.cb)⟩;refine RH 4 E I hH hC λa E=>?_;rw[dg (by omega)]at E;refine RH 2 E I hH hC λa E=>?_;refine QH E (λw hc=>lj E underlying22 underlying5 underlying9 (hc.1.1.1)) hC λa E=>?_;refine RH 0 E I hH hC λa E=>?_;refine bo E (b7 E rfl (s:=36)) (lj E underlying22 underlying5 underlying9 (hC.1.1.2)) rfl λa E=>?_;refine RH 0 E I hH hC λa E=>?_;refine QP E (λw=>r4 E) λa E=>?_;rw[p9,beq_self_eq_true]at E;refine RH 2 E I hH hC λa E=>?_;replace E:=E.eh 43;refine RH 5 E I hH hC λa E=>?_;rw[dg (by omega)]at E;refine RH 2 E I hH hC λa E=>?_;refine QH E (λw hc=>lj E underlying22 underlying5 underlying9 (hc.1.2.1)) hC λa E=>?_;refine RH 0 E I hH hC λa E=>?_;refine bo E (b7 E rfl (s:=48)) (lj E underlying22 underlying5 underlying9 (hC.1.2.2)) rfl λa E=>?_;refine RH 0 E I hH hC λa E=>?_;refine QP E (λw=>r4 E) λa E=>?_;rw[p9,beq_self_eq_true]at E;refine RH 2 E I hH hC λa E=>?_;replace E:=E.eh 55;refine RH 4 E I hH hC λa E=>?_;refine QH E (λw hc=>ae E (hc.2.1 0 _ rfl)) hC λa E=>?_;refine RH 2 E I hH hC λa E=>?_;refine QH E (λw hc=>ae E (hc.2.2 18 _ rfl)) hC λa E=>?_;refine RH 0 E I hH hC λa E=>?_;refine jA E (b7 E rfl (s:=55)) M.Gt M.Gu rfl (M.closed _ _ i s hi hw (I.pick (J i s))) (by rfl) ?_;clear E I;rintro e w ⟨rfl,I⟩;refine⟨_,rfl,λa E=>?_⟩;replace hC:=hH.at w ⟨⟨⟨I.cu de _ rfl cp,I.cu dG _ rfl cp⟩,I.cu a3 _ rfl mn,I.cu a4 _ rfl mn⟩,I.ai (b:=B.pb),I.ai (b:=B.core.cb)⟩;refine RH 3 E I hH hC λa E=>?_;refine RT 0 E I ?_;refine⟨by simp,?_⟩;exact (b0.fold (aZ.fold I B.core s.k A) B p s).sub (M:=J i s::b0 W B p s::L)
set_option maxHeartbeats 4000000 in
end
end
section
structure Wd where
 ps:List Pl
 net:List Ml
 ev:List (List j6)
structure fH where
 fn:Int
 a:Int
 b:Int
 n:Int
def BA:Pl:=⟨ff ⟨0,0,0,0,0,0,0,0,0,0⟩,oD⟩
def an (v:Wd)(i:Nat):Pl:=v.ps.getD i BA
def fU (b:Int):UInt8:=UInt8.ofNat (b%256).toNat
theorem abe (b:Int):((fU b).toNat:Int)=b%256:=by
 have h1:=Int.emod_nonneg b (show (256:Int)≠0 by decide);have h2:=Int.emod_lt_of_pos b (show (0:Int)<256 by decide);rw[fU,UInt8.toNat_ofNat',Nat.mod_eq_of_lt (by omega)];omega
def oO (net:List Ml)(m:Ml):List Ml:=if net.length<300 then net++[m] else net
def ez (net l:List Ml):List Ml:=l.foldl oO net
theorem M7 (net:List Ml){l:List Ml}{i:Nat}(h:i<l.length):ez net (l.take (i+1))=oO (ez net (l.take i)) l[i]:=by
 rw[ez,← List.take_append_getElem h,foldl_append];rfl
theorem Gw:∀ {l net:List Ml} {m:Ml},m∈ez net l→m∈net∨m∈l
 | [],net,m,h=>.inl h
 | x::l,net,m,h=>by
  rcases Gw (l:=l) (net:=oO net x) h with h | h
  ·rw[oO]at h;split at h
   ·rcases eP.1 h with h | h
    ·exact .inl h
    ·exact .inr (by rw[mem_singleton.1 h];exact mem_cons_self)
   ·exact .inl h
  ·exact .inr (gM _ h)
theorem Gx:∀ {l net:List Ml},net.length≤300→(ez net l).length≤300
 | [],net,h=>h
 | x::l,net,h=>Gx (l:=l) (net:=oO net x) (by
  rw[oO];split
  ·rw[aL,jl];omega
  ·exact h)
noncomputable def gI (p:Pr)(s:fH)(v:Wd):Int×Wd :=
 if s.n<0∨(v.net.length:Int)≤s.n then (3,v) else
 if s.fn=6 then (if s.a<0∨((v.net.getD s.n.toNat (0,0,[])).2.2.length:Int)≤s.a then (3,v) else
  (0,{ v with net:=v.net.set s.n.toNat ((v.net.getD s.n.toNat (0,0,[])).1,(v.net.getD s.n.toNat (0,0,[])).2.1,(v.net.getD s.n.toNat (0,0,[])).2.2.set s.a.toNat ((v.net.getD s.n.toNat (0,0,[])).2.2.getD s.a.toNat 0 ^^^ fU s.b)) }))
 else if s.fn=4 then (0,{ v with net:=v.net.eraseIdx s.n.toNat })
 else ((dF p (v.net.getD s.n.toNat (0,0,[])).2.2 (an v (v.net.getD s.n.toNat (0,0,[])).2.1)).1,
  { v with ps:=v.ps.set (v.net.getD s.n.toNat (0,0,[])).2.1 (dF p (v.net.getD s.n.toNat (0,0,[])).2.2 (an v (v.net.getD s.n.toNat (0,0,[])).2.1)).2,net:=if s.fn=5 then v.net else v.net.eraseIdx s.n.toNat })
def gv (p:Pr)(s:fH)(v:Wd):Int×Wd :=
 if s.a<0∨(v.ps.length:Int)≤s.a then (7,v) else
 if s.fn=1 then ((dE p (fU s.b) (an v s.a.toNat)).1,{ v with ps:=v.ps.set s.a.toNat (dE p (fU s.b) (an v s.a.toNat)).2 })
 else if s.fn=2 then (0,{ v with ps:=v.ps.set s.a.toNat ⟨(br (an v s.a.toNat).k).2,(an v s.a.toNat).g⟩,net:=ez v.net (br (an v s.a.toNat).k).1 })
 else if s.fn=8 then (0,{ v with ps:=v.ps.set s.a.toNat ⟨(cy (an v s.a.toNat).k).2,(an v s.a.toNat).g⟩,net:=ez v.net (cy (an v s.a.toNat).k).1 })
 else (0,v)
noncomputable def bw (p:Pr)(s:fH)(v:Wd):Int×Wd:=if s.fn<1∨8<s.fn then (1,v) else if 3≤s.fn∧s.fn≤6 then gI p s v else gv p s v
def BB (i:Nat)(v:Wd):Wd:={ v with ps:=v.ps.set i ⟨{ (an v i).k with ev:=[] },(an v i).g⟩,ev:=v.ev.set i (v.ev.getD i []++(an v i).k.ev) }
def cz (v:Wd):Nat→Wd
 | 0=>v
 | i+1=>BB i (cz v i)
def lD (v:Wd):Wd:=cz v v.ps.length
noncomputable def bY (p:Pr)(s:fH)(v:Wd):Wd:=if s.fn=7 then v else lD (bw p s v).2
structure bL (p:Pr)(cf:Cf)(c:Nat)(v:Wd):Prop where
 may:eR cf
 n:v.ps.length=cf.n.toNat
 ev:v.ev.length=v.ps.length
 pl:∀ i,i<v.ps.length→cw p (an v i)∧fe (an v i).k={ cf with me:=i }∧(an v i).k.now≤c
 net:v.net.length≤300∧∀ m∈v.net,m.2.1<v.ps.length∧m.2.2.length≤1000
 kD:∀ e∈v.ev,e.length≤9*c∧∀ x∈e,sZ x
section
variable {p:Pr}{cf:Cf}{c i j:Nat}{v:Wd}{s:fH}{q:Pl}
theorem qG (h:i<v.ps.length)(net:List Ml)(ev:List (List j6)):an ⟨v.ps.set i q,net,ev⟩ j=if i=j then q else an v j:=by
 rw[an,an,bn,bn];show ((v.ps.set i q)[j]?).getD BA=_;rw[jL];split
 ·rfl
 ·rfl
theorem bL.len (h:bL p cf c v):2≤v.ps.length∧v.ps.length≤8:=by
 have h1:=h.n;have h2:=h.may.1.1;unfold fx at h2;omega
theorem bL.put (h:bL p cf c v)(hi:i<v.ps.length)(hw:cw p q)(hc:fe q.k=fe (an v i).k)(hn:q.k.now≤c+1){net:List Ml}(hl:net.length≤300)(hm:∀ m∈net,m.2.1<v.ps.length∧m.2.2.length≤1000) :
   bL p cf (c+1) { v with ps:=v.ps.set i q,net:=net }:=by
 refine⟨h.may,by show (v.ps.set i q).length=_;rw[bu];exact h.n,by show v.ev.length=(v.ps.set i q).length;rw[bu];exact h.ev,λj hj=>?_,⟨hl,?_⟩,λe he=>⟨by have:=(h.kD e he).1;omega,(h.kD e he).2⟩⟩
 ·have lf:j<v.ps.length:=by have:j<(v.ps.set i q).length:=hj;rwa [bu]at this
  rw[qG (v:=v) hi];split
  ·rename_i e;subst e;exact⟨hw,hc.trans (h.pl _ hi).2.1,hn⟩
  ·exact⟨(h.pl j lf).1,(h.pl j lf).2.1,by have:=(h.pl j lf).2.2;omega⟩
 ·intro m vC;show m.2.1<(v.ps.set i q).length∧_;rw[bu];exact hm m vC
theorem bL.more (h:bL p cf c v){d:Nat}(hd:c≤d):bL p cf d v :=
 ⟨h.may,h.n,h.ev,λi hi=>⟨(h.pl i hi).1,(h.pl i hi).2.1,ft (h.pl i hi).2.2 hd⟩,h.net,λe he=>⟨by have:=(h.kD e he).1;omega,(h.kD e he).2⟩⟩
theorem M8 {k:Ks}(h:WC k):∀ m∈(br k).1,m.2.1<k.n∧m.2.2.length≤1000:=by
 intro m hm;unfold br at hm;split at hm
 ·cases hm
 ·simp only at hm;split at hm
  ·cases hm
  ·obtain⟨i,hi,rfl⟩:=cV.1 hm;have h1:=(List.mem_filter.1 hi).1;rw[mem_range]at h1;exact⟨h1,ft (K9 _) (by decide)⟩
theorem M9 {k:Ks}(h:WC k):∀ m∈(cy k).1,m.2.1<k.n∧m.2.2.length≤1000:=by
 intro m hm;unfold cy at hm;split at hm
 ·cases hm
 ·obtain⟨i,hi,rfl⟩:=cV.1 hm;have h1:=(List.mem_filter.1 hi).1;rw[mem_range]at h1;exact⟨h1,ft (K9 _) (by decide)⟩
theorem bL.kn (h:bL p cf c v)(hi:i<v.ps.length):(an v i).k.n=v.ps.length:=by
 have h1:=(h.pl i hi).2.1;have h2:(fe (an v i).k).n=cf.n:=by rw[h1]
 have h3:((an v i).k.n:Int)=cf.n:=h2;have:=h.n;have h4:=h.may.1.1;unfold fx at h4;omega
theorem bL.Na (h:bL p cf c v){l:List Ml}(hl:∀ m∈l,m.2.1<v.ps.length∧m.2.2.length≤1000):(ez v.net l).length≤300∧∀ m∈ez v.net l,m.2.1<v.ps.length∧m.2.2.length≤1000 :=
 ⟨Gx h.net.1,λm hm=>(Gw hm).elim (h.net.2 m) (hl m)⟩
theorem bL.al (h:bL p cf c v)(hi:i<v.ps.length)(b:UInt8):bL p cf (c+1) { v with ps:=v.ps.set i (dE p b (an v i)).2 } :=
 h.put hi (lC.al (h.pl i hi).1 b).wf (lC.al (h.pl i hi).1 b).cf (by have:=(h.pl i hi).2.2;rw[aa8 p b (h.pl i hi).1];omega) h.net.1 h.net.2
theorem bL.recv (h:bL p cf c v)(hi:i<v.ps.length)(bs:List UInt8){net:List Ml}(hl:net.length≤300)(hm:∀ m∈net,m.2.1<v.ps.length∧m.2.2.length≤1000):bL p cf (c+1) { v with ps:=v.ps.set i (dF p bs (an v i)).2,net:=net } :=
 h.put hi (lC.recv (h.pl i hi).1 bs).wf (lC.recv (h.pl i hi).1 bs).cf (by have:=(h.pl i hi).2.2;rw[aba p bs (h.pl i hi).1];omega) hl hm
theorem bL.tick (h:bL p cf c v)(hi:i<v.ps.length):bL p cf (c+1) { v with ps:=v.ps.set i ⟨(br (an v i).k).2,(an v i).g⟩,net:=ez v.net (br (an v i).k).1 }:=by
 have h1:=h.Na (l:=(br (an v i).k).1) λm hm=>by have:=M8 (h.pl i hi).1.wc m hm;rwa [h.kn hi]at this
 exact h.put hi (h.pl i hi).1.tick (F0 _) (by have:=(h.pl i hi).2.2;have:=abb (an v i).k;show (br (an v i).k).2.now≤_;omega) h1.1 h1.2
theorem bL.oC (h:bL p cf c v)(hi:i<v.ps.length):bL p cf (c+1) { v with ps:=v.ps.set i ⟨(cy (an v i).k).2,(an v i).g⟩,net:=ez v.net (cy (an v i).k).1 }:=by
 have h1:=h.Na (l:=(cy (an v i).k).1) λm hm=>by have:=M9 (h.pl i hi).1.wc m hm;rwa [h.kn hi]at this
 exact h.put hi (h.pl i hi).1.oC (F1 _) (by have:=(h.pl i hi).2.2;have:=abc (an v i).k;show (cy (an v i).k).2.now≤_;omega) h1.1 h1.2
theorem bL.one (h:bL p cf c v):bL p cf (c+1) (gv p s v).2:=by
 unfold gv;split
 ·exact h.more (Nat.le_succ _)
 ·have hi:s.a.toNat<v.ps.length:=by omega
  split
  ·exact h.al hi _
  ·split
   ·exact h.tick hi
   ·split
    ·exact h.oC hi
    ·exact h.more (Nat.le_succ _)
theorem bL.Gy (h:bL p cf c v){j:Nat}(hj:j<v.net.length):(v.net.getD j (0,0,[])).2.1<v.ps.length∧(v.net.getD j (0,0,[])).2.2.length≤1000:=by
 rw[bn,aE hj];exact h.net.2 _ (getElem_mem hj)
theorem bL.erase (h:bL p cf c v)(j:Nat):(v.net.eraseIdx j).length≤300∧∀ m∈v.net.eraseIdx j,m.2.1<v.ps.length∧m.2.2.length≤1000 :=
 ⟨ft (List.length_eraseIdx_le _ _) h.net.1,λm hm=>h.net.2 m (List.mem_of_mem_eraseIdx hm)⟩
theorem bL.Nb (h:bL p cf c v){net:List Ml}(hl:net.length≤300)(hm:∀ m∈net,m.2.1<v.ps.length∧m.2.2.length≤1000):bL p cf (c+1) { v with net:=net } :=
 { h.more (Nat.le_succ c) with net:=⟨hl,hm⟩ }
theorem bL.Gz (h:bL p cf c v):bL p cf (c+1) (gI p s v).2:=by
 unfold gI;split
 ·exact h.more (Nat.le_succ _)
 ·rename_i hr;have hj:s.n.toNat<v.net.length:=by omega
  have hx:=h.Gy hj;split
  ·split
   ·exact h.more (Nat.le_succ _)
   ·refine h.Nb (by rw[bu];exact h.net.1) λm hm=>?_;rcases mem_or_eq_of_mem_set hm with h1 | rfl
    ·exact h.net.2 m h1
    ·exact⟨hx.1,by show (List.set _ _ _).length≤_;rw[bu];exact hx.2⟩
  ·split
   ·exact h.Nb (h.erase _).1 (h.erase _).2
   ·refine h.recv hx.1 _ ?_ ?_ <;> split
    ·exact h.net.1
    ·exact (h.erase _).1
    ·exact h.net.2
    ·exact (h.erase _).2
theorem bL.step (h:bL p cf c v):bL p cf (c+1) (bw p s v).2:=by
 unfold bw;split
 ·exact h.more (Nat.le_succ _)
 ·split
  ·exact h.Gz
  ·exact h.one
theorem qH (v:Wd):∀ i,(cz v i).ps.length=v.ps.length∧(cz v i).net=v.net∧(cz v i).ev.length=v.ev.length
 | 0=>⟨rfl,rfl,rfl⟩
 | i+1=>by
  obtain⟨h1,h2,h3⟩:=qH v i;exact⟨by show (List.set _ _ _).length=_;rw[bu,h1],h2,by show (List.set _ _ _).length=_;rw[bu,h3]⟩
theorem yM (v:Wd):∀ {i j:Nat},i≤v.ps.length→an (cz v i) j=if j<i then ⟨{ (an v j).k with ev:=[] },(an v j).g⟩ else an v j
 | 0,j,_=>by rw[ag (Nat.not_lt_zero _)];rfl
 | i+1,j,h=>by
  have h1:=yM v (i:=i) (j:=i) (by omega);rw[ag (Nat.lt_irrefl _)]at h1;show an ⟨(cz v i).ps.set i _,_,_⟩ j=_;rw[qG (v:=cz v i) (by rw[(qH v i).1];omega),h1,yM v (i:=i) (j:=j) (by omega)];by_cases h2:i=j
  ·subst h2;rw[ak rfl,ak (by omega)]
  ·rw[ag h2];by_cases h3:j<i
   ·rw[ak h3,ak (by omega)]
   ·rw[ag h3,ag (by omega)]
theorem GA (v:Wd)(hl:v.ev.length=v.ps.length):∀ {i j:Nat},i≤v.ps.length→(cz v i).ev.getD j []=if j<i then v.ev.getD j []++(an v j).k.ev else v.ev.getD j []
 | 0,j,_=>by rw[ag (Nat.not_lt_zero _)];rfl
 | i+1,j,h=>by
  have h1:=yM v (i:=i) (j:=i) (by omega);rw[ag (Nat.lt_irrefl _)]at h1;have h4:=GA v hl (i:=i) (j:=i) (by omega);rw[ag (Nat.lt_irrefl _)]at h4;show ((cz v i).ev.set i ((cz v i).ev.getD i []++(an (cz v i) i).k.ev)).getD j []=_;rw[h1,h4,bn,jL];by_cases h2:i=j
  ·subst h2;rw[ak rfl,ak (by rw[(qH v i).2.2,hl];omega),ak (by omega)];rfl
  ·rw[ag h2,← bn,GA v hl (i:=i) (j:=j) (by omega)];by_cases h3:j<i
   ·rw[ak h3,ak (by omega)]
   ·rw[ag h3,ag (by omega)]
theorem abf {α:Type}{l:List α}{x d:α}(h:x∈l):∃ i,i<l.length∧l.getD i d=x:=by
 obtain⟨i,hi,rfl⟩:=List.getElem_of_mem h;exact⟨i,hi,by rw[bn,aE hi];rfl⟩
theorem BC {α:Type}{l:List α}{d:α}{i:Nat}(h:i<l.length):l.getD i d∈l:=by
 rw[bn,aE h];exact getElem_mem _
theorem bL.cz (h:bL p cf c v){i:Nat}(hi:i≤v.ps.length):bL p cf (c+1) (cz v i):=by
 obtain⟨h1,h2,h3⟩:=qH v i;refine⟨h.may,by rw[h1];exact h.n,by rw[h1,h3];exact h.ev,λj hj=>?_,by rw[h1,h2];exact h.net,λe he=>?_⟩
 ·rw[h1]at hj;obtain⟨de,dG,a3⟩:=h.pl j hj;rw[yM v hi];split
  ·exact⟨de.told,dG,by show (an v j).k.now≤_;omega⟩
  ·exact⟨de,dG,by omega⟩
 ·obtain⟨j,hj,rfl⟩:=abf (d:=[]) he;rw[h3]at hj;rw[GA v h.ev hi];have h4:=h.kD _ (BC (d:=[]) hj);have h5:=(h.pl j (by rw[← h.ev];exact hj)).1.wc;split
  ·refine⟨by have:=h5.kD;rw[aL];omega,λx hx=>?_⟩;rcases eP.1 hx with hx | hx
   ·exact h4.2 x hx
   ·exact h5.bx x hx
  ·exact⟨by omega,h4.2⟩
theorem bL.drain (h:bL p cf c v):bL p cf (c+1) (lD v):=h.cz (a7 _)
theorem bL.go (h:bL p cf c v):bL p cf (c+2) (bY p s v):=by
 unfold bY;split
 ·exact h.more (by omega)
 ·exact h.step.drain
end
end
section
structure c1 where
 frm:Int
 to:Int
 ad:Option Addr
 c:Nat
 bs:List UInt8
abbrev c1.cells (m:c1):List Value:=[.int .i64 m.frm,.int .i64 m.to,.slice m.ad m.bs.length m.c]
def iJ (ms:List c1):List Value:=ms.flatMap c1.cells
def c1.own (m:c1):SP:=Sl 5 1 m.ad m.bs.length m.c (bc m.bs)
def fI (ms:List c1):SP:=λh=>cn (ms.map c1.own) h
theorem BD (l m:List c1):iJ (l++m)=iJ l++iJ m:=by simp[iJ]
theorem Nc (l:List c1)(i:Nat):(iJ l).drop (i*3)=iJ (l.drop i):=by
 induction i generalizing l with
 | zero=>simp
 | succ i ih =>
  cases l with
  | nil=>simp[iJ]
  | cons x l =>
   rw[show (i+1)*3=i*3+3 from by omega];simp only[iJ,flatMap_cons,List.drop_succ_cons,c1.cells] at *;rw[← ih l];simp
theorem abg (l:List c1)(i:Nat):(iJ l).take (i*3)=iJ (l.take i):=by
 induction i generalizing l with
 | zero=>simp[iJ]
 | succ i ih =>
  cases l with
  | nil=>simp[iJ]
  | cons x l =>
   rw[show (i+1)*3=i*3+3 from by omega];simp only[iJ,flatMap_cons,take_succ_cons,c1.cells] at *;rw[← ih l];simp
theorem abh (l:List c1)(i:Nat)(h:i<l.length):((iJ l).drop (i*3)).take 3=l[i].cells:=by
 rw[Nc,kl h];simp only[iJ,flatMap_cons,c1.cells,cons_append,nil_append,take_succ_cons,take_zero]
theorem fI.nil {W w:World}{L:List SP}(I:U W w L):U W w (fI []::L) :=
 ⟨I.below,let ⟨h,p,q⟩:=I.sat;⟨h,p,λ_=>none,h,λ_=>.inl rfl,λ_ _ e=>(by cases e),Hp.Sub.refl _,trivial,q⟩⟩
theorem fI.out {W w:World}{L:List SP}{a b:List c1}{m:c1}(I:U W w (fI (a++m::b)::L)):U W w (m.own::fI (a++b)::L):=by
 have h1:=I.open (M:=(a++m::b).map c1.own) (λ_ x=>x);have h2:((a++m::b).map c1.own++L).Perm (m.own::((a++b).map c1.own++L)):=by
  rw[← cons_append,← map_cons];exact ((perm_middle (a:=m) (l₁:=a) (l₂:=b)).map c1.own).append_right L
 have h3:=h1.perm h2;have h4:=h3.perm (List.perm_append_comm (l₁:=[m.own]) (l₂:=(a++b).map c1.own++L));have h5:U W w ((a++b).map c1.own++(L++[m.own])):=by simpa using h4
 have h6:=U.shut (A:=fI (a++b)) h5 (λ_ x=>x);exact h6.perm (List.Perm.trans (List.perm_append_comm (l₁:=fI (a++b)::L) (l₂:=[m.own])) (List.Perm.refl _))
theorem fI.Nd {W w:World}{L:List SP}{a b:List c1}{m:c1}(I:U W w (m.own::fI (a++b)::L)):U W w (fI (a++m::b)::L):=by
 have h1:U W w (fI (a++b)::([m.own]++L)):=I.perm (List.Perm.swap _ _ _);have h2:=h1.open (M:=(a++b).map c1.own) (λ_ x=>x);refine U.shut (M:=(a++m::b).map c1.own) (h2.perm ?_) (λ_ x=>x);have h3:((a++b).map c1.own++([m.own]++L)).Perm (m.own::((a++b).map c1.own++L)):=by
  have:=perm_middle (a:=m.own) (l₁:=(a++b).map c1.own) (l₂:=L);simpa using this
 refine h3.trans ?_;rw[← cons_append,← map_cons];exact (((perm_middle (a:=m) (l₁:=a) (l₂:=b)).map c1.own).symm).append_right L
theorem fI.rd {W w:World}{L R:List SP}{xs:List c1}(I:U W w L)[k:pZ L (fI xs) R](i:Nat)(h:i<xs.length):aX w xs[i].ad xs[i].bs.length xs[i].bs:=by
 have h1:=I.pick (fI xs);rw[show xs=xs.take i++xs[i]::xs.drop (i+1) from by rw[← kl h,jK]]at h1;have h2:=fI.out h1;refine⟨rfl,λe=>?_,λx hx hp=>?_⟩
 ·rcases Nat.eq_zero_or_pos xs[i].bs.length with h0 | h0
  ·exact h0
  ·obtain⟨b,off,e2,_⟩:=U.bV (L:=xs[i].own::_) (e:=5) (sz:=1) (n:=xs[i].bs.length) (c:=xs[i].c) (cs:=bc xs[i].bs) (k:=⟨List.Perm.refl _⟩) h2 xs[i].ad h0;rw[e]at e2;cases e2
 ·obtain⟨b,off,e2,hr⟩:=U.bV (L:=xs[i].own::_) (e:=5) (sz:=1) (n:=xs[i].bs.length) (c:=xs[i].c) (cs:=bc xs[i].bs) (k:=⟨List.Perm.refl _⟩) h2 xs[i].ad hp;exact⟨b,off,by rw[hx]at e2;cases e2;rfl,hr⟩
abbrev oP:=Int×Int×List UInt8
def c1.m (x:c1):oP:=(x.frm,x.to,x.bs)
def bK (q:Nat)(ms:List oP):SP:=λh=>∃ i:(Option Addr×Nat)×List c1,(i.2.map c1.m=ms∧ms.length≤300∧∀ x∈i.2,x.bs.length≤1000) ∧
 cn [aa q 110 [.slice i.1.1 i.2.length i.1.2],Sl 124 3 i.1.1 i.2.length i.1.2 (iJ i.2),fI i.2] h
theorem bK.open {W w:World}{L:List SP}{q:Nat}{ms:List oP}(I:U W w (bK q ms::L)) :
   ∃ ad c xs,ms=xs.map c1.m∧(xs.length≤300∧∀ x∈xs,x.bs.length≤1000)∧U W w (aa q 110 [.slice ad xs.length c]::Sl 124 3 ad xs.length c (iJ xs)::fI xs::L):=by
 obtain⟨i,⟨h1,h2,h3⟩,h⟩:=I.jy (B:=λi:(Option Addr×Nat)×List c1=>cn [aa q 110 [.slice i.1.1 i.2.length i.1.2],Sl 124 3 i.1.1 i.2.length i.1.2 (iJ i.2),fI i.2]) (λ_ h=>h);exact⟨i.1.1,i.1.2,i.2,h1.symm,⟨by rw[← h1]at h2;simpa using h2,h3⟩,h.open (λ_ x=>x)⟩
theorem bK.shut {W w:World}{L R R2 R3:List SP}{q n c:Nat}{ad:Option Addr}{cs:List Value}{xs:List c1}{ms:List oP}(I:U W w L)[k:fC L q 110 [.slice ad n c] R][k2:fK R ad n c 124 3 cs R2][k3:pZ R2 (fI xs) R3]
   (hn:n=xs.length) (hc:cs=iJ xs) (hm:ms=xs.map c1.m) (h3:xs.length≤300) (h4:∀ x∈xs,x.bs.length≤1000):U W w (bK q ms::R3):=by
 subst hn;subst hc;subst hm;have h1:=(I.perm k.perm).perm (List.Perm.cons _ (k2.perm.trans (List.Perm.cons _ k3.perm)));exact U.shut (M:=[_,_,_]) h1 λ_ x=>⟨((ad,c),xs),⟨rfl,by simpa using h3,h4⟩,x⟩
theorem GC {w:World}{b off:Nat}{xs:List c1}(h:Rd w b off (iJ xs))(k:Nat)(hk:k<xs.length) :
   Rd w b (off+k*3) xs[k].cells∧w.cell? ⟨b,off+k*3,none⟩=some (.int .i64 xs[k].frm)∧w.cell? ⟨b,off+k*3+1,none⟩=some (.int .i64 xs[k].to)∧w.cell? ⟨b,off+k*3+2,none⟩=some (.slice xs[k].ad xs[k].bs.length xs[k].c):=by
 have hr:=h.part (k*3) 3;rw[abh xs k hk]at hr;exact⟨hr,hr 0 _ rfl,hr 1 _ rfl,hr 2 _ rfl⟩
theorem abi {W w:World}{L:List SP}{c:Nat}(I:U W w L) :
   Calls prog 95 #[.slice none 0 c] w λe w'=>e=.returned (.slice none 0 0)∧U W w' L:=by
 refine EN func95 ntmps95 rfl rfl λa E=>?_;refine RN 6 E I λa E=>?_;replace E:=E.eh 4;refine RT 3 E I ?_;exact⟨rfl,I⟩
theorem abj {W w:World}{L:List SP}{x:Addr}{c:Nat}(I:U W w L) :
   Calls prog 95 #[.slice (some x) 0 c] w λe w'=>∃ av,e=.returned (.slice av 0 0)∧U W w' (Sl 5 1 av 0 0 []::L):=by
 refine EN func95 ntmps95 rfl rfl λa E=>?_;refine RN 6 E I λa E=>?_;replace E:=E.aM 4;refine RN 2 E I λa E=>?_;refine tC E rfl I underlying22 Ty.t5 rfl λb5 a w E I ho=>?_;clear ho;refine RN 1 E I λa E=>?_;refine Cu E rfl underlying22 Ty.t5 rfl (a7 _) λa E=>?_;refine RT 1 E I ?_;exact⟨_,rfl,I⟩
theorem abk {W w:World}{L:List SP}{b off c:Nat}{bs:List UInt8}(I:U W w L)(hr:Rd w b off (bc bs))(h0:0<bs.length)(hl:bs.length≤140737488355328) :
   Calls prog 95 #[.slice (some ⟨b,off,none⟩) bs.length c] w λe w'=>∃ av c',e=.returned (.slice av bs.length c')∧U W w' (Sl 5 1 av bs.length c' (bc bs)::L):=by
 refine EN func95 ntmps95 rfl rfl λa E=>?_;refine RN 6 E I λa E=>?_;replace E:=E.aM 4;refine RN 2 E I λa E=>?_;refine tC E rfl I underlying22 Ty.t5 rfl λb5 a w E I ho=>?_;replace hr:=ho.rd hr;clear ho;refine RN 1 E I λa E=>?_;refine cK E rfl I underlying22 Ty.t5 rfl rfl hr (by rw[dt,Nat.mul_one]) (eo bs) h0 (by decide) (by omega) λse qW a w E I=>?_;refine RT 1 E I ?_;rw[Nat.zero_add] at *;exact⟨_,_,rfl,I⟩
theorem abl {W w:World}{L:List SP}{ad:Option Addr}{n c:Nat}{bs:List UInt8}(I:U W w L)(hr:aX w ad n bs)(hl:n≤140737488355328) :
   Calls prog 95 #[.slice ad n c] w λe w'=>∃ av c',e=.returned (.slice av n c')∧U W w' (Sl 5 1 av n c' (bc bs)::L):=by
 obtain⟨rfl,h2,h3⟩:=hr;cases ad with
 | none =>
  have h0:=h2 rfl;obtain rfl:=gW h0;exact (abi I).mono λe w' ⟨h,I⟩=>⟨none,0,h,I.bN _ _ _⟩
 | some x =>
  rcases Nat.eq_zero_or_pos bs.length with h0 | h0
  ·obtain rfl:=gW h0;exact (abj I).mono λe w' ⟨av,h,I⟩=>⟨av,0,h,I⟩
  ·obtain⟨b,off,rfl,hr⟩:=h3 x rfl h0;exact abk I hr h0 hl
theorem Nf {W w:World}{L:List SP}{ad:Option Addr}{n c:Nat}{f t:Int}{bs:List UInt8}(I:U W w L)(hr:∀ w',U W w' L→aX w' ad n bs)(hl:n≤140737488355328) :
   Calls prog 76 #[.agg #[.int .i64 f,.int .i64 t,.slice ad n c]] w λe w'=>∃ av c',e=.returned (.agg #[.int .i64 f,.int .i64 t,.slice av n c'])∧U W w' (Sl 5 1 av n c' (bc bs)::L):=by
 refine EN func76 ntmps76 rfl rfl λa E=>?_;refine BX 1 E I λb1 a w E I=>?_;refine AL 0 E I λb2 a w E I=>?_;refine aY 3 E I (abl I (hr _ I.sub) hl) λav c' a w E I=>?_;refine ST 1 E I (λa w E I=>?_);refine SA 2 E I λa w E I=>?_;refine RT 0 E I ?_;exact⟨_,_,rfl,I.sub⟩
theorem Ng {W w:World}{L R:List SP}{q e:Nat}{s:Option Addr}{n c:Nat}(I:U W w L) [fC L q e [.slice s n c] R] :
   Calls prog 23 #[pt q] w λe w'=>e=.returned (.int .i64 n)∧U W w' L:=by
 refine EN func23 ntmps23 rfl rfl λa E=>?_;refine RN 6 E I λa E=>?_;replace E:=E.aM 4;refine RT 8 E I ?_;exact⟨rfl,I⟩
theorem Nh {W w:World}{L:List SP}{q:Nat}{ms:List oP}(I:U W w (bK q ms::L)) :
   Calls prog 23 #[pt q] w λe w'=>e=.returned (.int .i64 ms.length)∧U W w' (bK q ms::L):=by
 obtain⟨ad,c,xs,rfl,hx,I⟩:=bK.open I;refine (Ng (q:=q) I).mono λe w' ⟨h,I⟩=>⟨by rw[h];simp,bK.shut (q:=q) (ad:=ad) (xs:=xs) I rfl rfl rfl hx.1 hx.2⟩
theorem BE {W w:World}{L R:List SP}{q e:Nat}{s:Option Addr}{n c:Nat}{i:Int}(I:U W w L) [fC L q e [.slice s n c] R] :
   Calls prog 75 #[pt q,.int .i64 i] w λe w'=>e=.returned (.bool (decide (0≤i)&&decide (i<n)))∧U W w' L:=by
 refine EN func75 ntmps75 rfl rfl λa E=>?_;refine BY 6 E I (λbA a E=>?_) λbA a E=>?_
 ·
  refine CL 2 E I (Ng (q:=q) I) λa w E I=>?_;refine RT 3 E I ?_;exact⟨by rw[dg (p:=0≤i) (by omega),Bool.true_and],I⟩
 refine RT 6 E I ?_;exact⟨by rw[bq (p:=0≤i) (by omega),Bool.false_and],I⟩
theorem abm {W w:World}{L:List SP}(I:U W w L) :
   Calls prog 42 #[] w λe w'=>∃ q,e=.returned (pt q)∧U W w' (bK q []::L):=by
 refine EN func42 ntmps42 rfl rfl λa E=>?_;refine BX 4 E I λb2 a w E I=>?_;refine RT 1 E I ?_;exact⟨_,rfl,by
  have h1:=(fI.nil (I.bN 124 3 none));exact (bK.shut (q:=b2) (xs:=[]) (ms:=[]) h1 rfl rfl rfl (by simp) (by simp)).sub⟩
theorem Ni {p q r vs:List Value}{o:Nat}(ho:o=p.length)(h:q.length=vs.length):cG (p++q++r) o vs=p++vs++r:=by
 subst ho;have e1:(p++q++r).take p.length=p:=by rw[ds,List.take_left]
 have e2:(p++q++r).drop (p.length+vs.length)=r:=by rw[← h,show p.length+q.length=(p++q).length from by simp,drop_left]
 rw[cG,e1,e2]
theorem abn {pre cs post:List Value}{n i:Nat}(hl:cs.length=n*3)(hi:i<n) :
   ∃ v,v.length=3∧cG (pre++cs++post) (pre.length+i*3) (cs.drop ((i+1)*3))=(pre++(cs.take (i*3)++cs.drop ((i+1)*3)))++v++post:=by
 refine⟨(cs.drop (i*3)).drop ((n-1-i)*3),by rw[c3,c3];omega,?_⟩;have q7:cs=cs.take (i*3)++((cs.drop (i*3)).take ((n-1-i)*3)++(cs.drop (i*3)).drop ((n-1-i)*3)):=by rw[jK,jK]
 have e:pre++cs++post=(pre++cs.take (i*3))++(cs.drop (i*3)).take ((n-1-i)*3)++((cs.drop (i*3)).drop ((n-1-i)*3)++post):=by
  conv=>lhs;rw[q7]
  simp only[ds]
 rw[e,Ni (by rw[aL,ep];omega) (by rw[ep,c3,c3];omega)];simp only[ds]
theorem abo {W w:World}{L:List SP}{ad:Option Addr}{c n i:Nat}{cs:List Value}(I:U W w (Sl 124 3 ad n c cs::L))(hi:i<n)(hn:n≤140737488355328)(fM:∀ v∈cs,v.oneCell'=true) :
   Calls prog 103 #[.slice ad n c,.int .i64 i,.int .i64 ((i+1:Nat):Int)] w λe w'=>e=.returned (.slice ad (n-1) c)∧U W w' (Sl 124 3 ad (n-1) c (cs.take (i*3)++cs.drop ((i+1)*3))::L):=by
 have aj:=(I.sl ad);obtain⟨b,pre,post,⟨h1,h2,rfl,h4⟩,gB⟩:=I.lG (by omega);replace I:=gB;clear gB;have nT:∃ qa,fl (some ⟨b,pre.length,none⟩) (i+1) c 3=some ⟨b,qa,none⟩∧∀ w,U W w (aa b 124 (pre++cs++post)::L)→Rd w b qa (cs.drop ((i+1)*3)):=by
  by_cases Nj:c=i+1
  ·refine⟨pre.length,by simp[fl,Nj],λw _=>?_⟩;rw[List.drop_of_length_le (by omega)];intro j v hj;simp at hj
  ·refine⟨pre.length+(i+1)*3,oZ Nj,λw I=>?_⟩;intro j v hj;have hlt:=(a2.1 hj).1;rw[c3]at hlt;rw[I.cell,ds,getElem?_append_right (by omega),show pre.length+(i+1)*3+j-pre.length=(i+1)*3+j from by omega,l4 (by omega)];rw[getElem?_drop]at hj;exact hj
 obtain⟨qa,yK,nT⟩:=nT;refine EN func103 ntmps103 rfl rfl λa E=>?_;refine RN 8 E I λa E=>?_;refine SS E (Qf E underlying108 Ty.t124 (by omega) (by omega) (by omega)) λa E=>?_;refine RN 5 E I λa E=>?_;rw[show decide ((i:Int)=((i+1:Nat):Int))=false from bq (by omega)]at E;replace E:=E.aM 16;refine bQ 6 [] [0,1,2,3,4,5,1006,7] E I λa w E I hH hC=>?_;refine RH 6 E I hH hC λa E=>?_;rw[yK,oZ (by omega:c≠0)]at E;refine Qi E rfl I underlying108 Ty.t124 rfl (nT _ I) (by simp;omega) (λv hv=>fM v (List.mem_of_mem_drop hv)) (by omega) (by simp;omega) λa w E I=>?_;obtain⟨v,hv,En⟩:=abn (pre:=pre) (post:=post) (n:=n) (i:=i) h1 hi;rw[show pre.length+0*3+(i-0)*3=pre.length+i*3 from by omega,En]at I;rw[show i-0+(n-(i+1))=n-1 from by omega,show pre.length+0*3=pre.length from by omega]at E;have hP:(pre++(cs.take (i*3)++cs.drop ((i+1)*3))).length=pre.length+(n-1)*3:=by
  simp only[aL,ep,c3];omega
 refine RN 1 E I λa E=>?_;refine RN 6 E I λa E=>?_;rw[oZ (by omega)]at E;have hle:pre.length+(n-1)*3+(n-(n-1))*3≤(pre++(cs.take (i*3)++cs.drop ((i+1)*3))++v++post).length:=by
  rw[aL,aL,hP,hv];omega
 refine HV E rfl I underlying108 Ty.t124 rfl rfl hle λa w E I=>?_;refine RT 3 E I ?_;refine⟨rfl,?_⟩;generalize hz:(Builtin.zeroCells (Value.cells (.agg #[.int .i64 0,.int .i64 0,.slice none 0 0])) (n-(n-1))).toList=zs at I;have iY:zs.length=(n-(n-1))*3:=by rw[← hz];exact w7 0 (a1:=0) rfl _
 rw[Ni hP.symm (by rw[hv,iY];omega)]at I;rw[ds _ zs post]at I;exact U.iM I (by rw[aL]at hP;omega) (by omega) (by rw[aL,iY];omega)
def pR (ms:List oP)(n:Nat):Bool:=decide (ms.length<300)&&decide (n≤1000)
theorem abp {W w:World}{L:List SP}{q:Nat}{ms:List oP}{ad:Option Addr}{n c:Nat}{f t:Int}{bs:List UInt8}(I:U W w (bK q ms::L))(hr:∀ w',U W w' L→aX w' ad n bs) :
   Calls prog 100 #[pt q,.agg #[.int .i64 f,.int .i64 t,.slice ad n c]] w λe w'=>e=.returned (.bool (pR ms n))∧U W w' (bK q (if pR ms n then ms++[(f,t,bs)] else ms)::L):=by
 have n4:=(hr _ I.tail).1;subst n4;obtain⟨lr,dL,xs,rfl,hx,I⟩:=bK.open I;refine EN func100 ntmps100 rfl rfl λa E=>?_;refine BX 1 E I λb3 a w E I=>?_;refine RN 6 E I λa E=>?_;replace E:=E.aM 7;refine BY 8 E I (λlK a E=>?_) λlK a E=>?_
 ·
  have hm:pR (xs.map c1.m) bs.length=false:=by simp only[pR,bd,Bool.and_eq_false_iff,decide_eq_false_iff_not];left;omega
  refine RT 8 E I ?_;exact⟨by rw[hm],by rw[hm,ag (by decide)];exact (bK.shut (q:=q) (ad:=lr) (xs:=xs) I rfl rfl rfl hx.1 hx.2).sub⟩
 refine IF 5 E I (λaj a E=>?_) λaj a E=>?_
 ·
  have hm:pR (xs.map c1.m) bs.length=false:=by simp only[pR,bd,Bool.and_eq_false_iff,decide_eq_false_iff_not];right;omega
  refine RT 2 E I ?_;exact⟨by rw[hm],by rw[hm,ag (by decide)];exact (bK.shut (q:=q) (ad:=lr) (xs:=xs) I rfl rfl rfl hx.1 hx.2).sub⟩
 have hm:pR (xs.map c1.m) bs.length=true:=by simp only[pR,bd,fk,decide_eq_true_eq];omega
 refine aV 1 (λw0 w'=>w'.cell? ⟨q,0,none⟩=some (.slice lr xs.length dL)) [5,6,7] [0,1,2,3,3004,1005,1006,1007,1008,9,10,1011] E I λa w E I hH=>?_;have hC:=hH.at w (I.bz rfl);refine RH 4 E I hH hC λa E=>?_;refine QH E (λw hc=>ae E (hc)) hC λa E=>?_;refine RH 1 E I hH hC λa E=>?_;refine aY 0 E I (Nf I (λw' h=>hr w' h.sub) (by omega)) λav c' a w E I=>?_;replace hC:=hH.at w (I.bz rfl);refine RH 0 E I hH hC λa E=>?_;refine cr E rfl I underlying108 Ty.t124 rfl rfl rfl rfl (by decide) (by decide) λIe a w E I ho=>?_;clear ho;replace hC:=hH.at w (I.bz rfl);refine RH 0 E I hH hC λa E=>?_;refine cK E rfl I underlying108 Ty.t124 rfl rfl I.ai rfl (by simp[Value.oneCell']) (by decide) (by decide) (by omega) λLc Ld a w E I=>?_;refine ST 2 E I (λa w E I=>?_);refine RT 2 E I ?_;refine⟨by rw[hm],?_⟩;rw[hm,ak rfl];have h3:=(I.pick (fI xs)).pick (Sl 5 1 av bs.length c' (bc bs));have h4:=fI.Nd (a:=xs) (b:=[]) (m:=⟨f,t,av,c',bs⟩) (by rw[append_nil];exact h3);refine (bK.shut (q:=q) (xs:=xs++[⟨f,t,av,c',bs⟩]) (ms:=xs.map c1.m++[(f,t,bs)]) h4 (by simp) (by rw[BD];rfl) (by simp[c1.m]) (by simp;omega) ?_).sub;intro x df;rcases eP.1 df with h | h
 ·exact hx.2 x h
 ·obtain rfl:=mem_singleton.1 h;exact Int.ofNat_le.1 aj
theorem abq {W w:World}{L:List SP}{q:Nat}{ms:List oP}{i:Int}(I:U W w (bK q ms::L))(hi:(decide (0≤i)&&decide (i<ms.length))=false) :
   Calls prog 52 #[pt q,.int .i64 i] w λe w'=>e=.returned (.tuple #[.agg #[.int .i64 0,.int .i64 0,.slice none 0 0],.bool false])∧U W w' (bK q ms::L):=by
 obtain⟨lr,dL,xs,rfl,hx,I⟩:=bK.open I;rw[bd]at hi;refine EN func52 ntmps52 rfl rfl λa E=>?_;refine AL 1 E I λb4 a w E I=>?_;refine CL 5 E I (BE (q:=q) I) λa w E I=>?_;rw[hi]at E;refine RN 1 E I λa E=>?_;replace E:=E.eh 9;refine SA 3 E I λa w E I=>?_;refine RT 1 E I ?_;exact⟨rfl,(bK.shut (q:=q) (ad:=lr) (xs:=xs) I rfl rfl rfl hx.1 hx.2).sub⟩
theorem GD {i n:Nat}(h:i<n):(decide (0≤(i:Int))&&decide ((i:Int)<(n:Int)))=true:=by
 simp;omega
theorem abr {W w:World}{L:List SP}{q:Nat}{ms:List oP}{i:Nat}(I:U W w (bK q ms::L))(hi:i<ms.length) :
   Calls prog 52 #[pt q,.int .i64 i] w λe w'=>∃ ad c,e=.returned (.tuple #[.agg #[.int .i64 ms[i].1,.int .i64 ms[i].2.1,.slice ad ms[i].2.2.length c],.bool true])∧U W w' (Sl 5 1 ad ms[i].2.2.length c (bc ms[i].2.2)::bK q ms::L):=by
 obtain⟨lr,dL,xs,rfl,hx,I⟩:=bK.open I;have dH:i<xs.length:=by simpa using hi
 simp only[getElem_map,c1.m];refine EN func52 ntmps52 rfl rfl λa E=>?_;refine AL 1 E I λb4 a w E I=>?_;refine CL 5 E I (BE (q:=q) I) λa w E I=>?_;rw[GD dH]at E;refine RN 1 E I λa E=>?_;replace E:=E.aM 9;refine RN 2 E I λa E=>?_;obtain⟨b',dB,rfl,c4⟩:=I.bV lr (by omega);have gO:=GC c4 i dH;refine RN 6 E I λa E=>?_;refine SS E (bS E underlying124 rfl Ty.t124 (gO.1)) λa E=>?_;refine aY 0 E I (Nf I (λw' h=>fI.rd h i dH) (by have:=hx.2 xs[i] (getElem_mem dH);omega)) λav c' a w E I=>?_;refine SA 0 E I λa w E I=>?_;refine RT 1 E I ?_;exact⟨_,_,rfl,(bK.shut (q:=q) (ad:=some ⟨b',dB,none⟩) (xs:=xs) I rfl rfl rfl hx.1 hx.2).sub⟩
theorem abt (xs:List c1):∀ v∈iJ xs,v.oneCell'=true:=by
 intro v hv;simp only[iJ,List.mem_flatMap,c1.cells]at hv;obtain⟨x,_,hx⟩:=hv;simp at hx;rcases hx with rfl | rfl | rfl <;> rfl
theorem abu {W w:World}{L:List SP}{q:Nat}{ms:List oP}{i:Nat}(I:U W w (bK q ms::L))(hi:i<ms.length) :
   Calls prog 63 #[pt q,.int .i64 i] w λe w'=>e=.returned (.bool true)∧U W w' (bK q (ms.eraseIdx i)::L):=by
 obtain⟨lr,dL,xs,rfl,hx,I⟩:=bK.open I;have dH:i<xs.length:=by simpa using hi
 refine EN func63 ntmps63 rfl rfl λa E=>?_;refine CL 6 E I (BE (q:=q) I) λa w E I=>?_;rw[GD dH]at E;refine RN 1 E I λa E=>?_;replace E:=E.aM 8;refine CL 10 E I (abo (I.pick (Sl 124 3 lr xs.length dL (iJ xs))) dH (by omega) (abt xs)) λa w E I=>?_;refine ST 2 E I (λa w E I=>?_);refine RT 2 E I ?_;refine⟨rfl,?_⟩;have h1:=I.pick (fI xs);have h0:xs=xs.take i++xs[i]::xs.drop (i+1):=by rw[← kl dH,jK]
 have h2:=h1;rw[show fI xs=fI (xs.take i++xs[i]::xs.drop (i+1)) from by rw[← h0]]at h2;have h3:=(fI.out h2).tail;rw[Nc,abg,← BD,← eraseIdx_eq_take_drop_succ]at h3;exact (bK.shut (q:=q) (ad:=lr) (xs:=xs.eraseIdx i) (ms:=(xs.map c1.m).eraseIdx i) h3 (by rw[List.length_eraseIdx];simp[dH]) rfl (by simp only[eraseIdx_eq_take_drop_succ,cW,map_take,map_drop]) (by rw[List.length_eraseIdx];simp[dH];omega) (λx h=>hx.2 x (List.mem_of_mem_eraseIdx h))).sub
theorem Nk (bs:List UInt8)(i:Nat)(x:UInt8):(bc bs).set i (.int .u8 (x.toNat:Int))=bc (bs.set i x):=by
 simp[bc,List.map_set]
theorem yN {p q r:List Value}{i:Nat}{v:Value}(h:i<q.length):(p++q++r).set (p.length+i) v=p++q.set i v++r:=by
 rw[ds,set_append_right _ _ (by omega),show p.length+i-p.length=i from by omega,set_append_left _ _ h,ds]
theorem abv {W w:World}{L:List SP}{q:Nat}{ms:List oP}{i:Nat}{aT:Int}{x:UInt8}(I:U W w (bK q ms::L))(hi:i<ms.length) :
   Calls prog 64 #[pt q,.int .i64 i,.int .i64 aT,.int .u8 (x.toNat:Int)] w λe w' =>
    e=.returned (.bool (decide (0≤aT)&&decide (aT<ms[i].2.2.length)))∧U W w' (bK q (if decide (0≤aT)&&decide (aT<ms[i].2.2.length) then ms.set i (ms[i].1,ms[i].2.1,ms[i].2.2.set aT.toNat (ms[i].2.2.getD aT.toNat 0 ^^^ x)) else ms)::L):=by
 obtain⟨lr,dL,xs,rfl,hx,I⟩:=bK.open I;have dH:i<xs.length:=by simpa using hi
 simp only[getElem_map,c1.m];obtain⟨b',dB,rfl,c4⟩:=I.bV lr (by omega);clear c4;refine EN func64 ntmps64 rfl rfl λa E=>?_;refine CL 6 E I (BE (q:=q) I) λa w E I=>?_;rw[GD dH]at E;refine RN 2 E I λa E=>?_;replace E:=E.aM 13;refine BY 4 E I (λfa a E=>?_) λfa a E=>?_
 ·
  have hm:(decide (0≤aT)&&decide (aT<xs[i].bs.length))=false:=by rw[bq (by omega),Bool.false_and]
  refine RN 4 E I λa E=>?_;have gO:=GC (I.cJ b' dB (by omega)) i dH;refine RT 11 E I ?_;exact⟨by rw[hm],by rw[hm,ag (by decide)];exact (bK.shut (q:=q) (ad:=some ⟨b',dB,none⟩) (xs:=xs) I rfl rfl rfl hx.1 hx.2).sub⟩
 refine RN 4 E I λa E=>?_;have gO:=GC (I.cJ b' dB (by omega)) i dH;refine RN 4 E I λa E=>?_;refine bo E (b7 E rfl (s:=17)) (ae E (gO.2.2.2)) rfl λa E=>?_;refine IF 3 E I (λaj a E=>?_) λaj a E=>?_
 ·
  have hm:(decide (0≤aT)&&decide (aT<xs[i].bs.length))=false:=by rw[bq (p:=aT<xs[i].bs.length) (by omega),Bool.and_false]
  refine RT 2 E I ?_;exact⟨by rw[hm],by rw[hm,ag (by decide)];exact (bK.shut (q:=q) (ad:=some ⟨b',dB,none⟩) (xs:=xs) I rfl rfl rfl hx.1 hx.2).sub⟩
 have hm:(decide (0≤aT)&&decide (aT<xs[i].bs.length))=true:=by simp;omega
 obtain⟨A,rfl⟩:∃ A:Nat,aT=A:=⟨aT.toNat,by omega⟩;have hA:A<xs[i].bs.length:=by omega
 rw[hm,ak rfl,Int.toNat_natCast];have h1:=I.pick (fI xs);have h0:xs=xs.take i++xs[i]::xs.drop (i+1):=by rw[← kl dH,jK]
 rw[show fI xs=fI (xs.take i++xs[i]::xs.drop (i+1)) from by rw[← h0]]at h1;replace I:=fI.out h1;clear h1;obtain⟨xa,tW⟩:∃ xa,xs[i].ad=xa:=⟨_,rfl⟩;have h2:=I;rw[show xs[i].own=Sl 5 1 xa xs[i].bs.length xs[i].c (bc xs[i].bs) from by rw[← tW];rfl]at h2;have cp:=(h2.sl xa).2;obtain⟨bb,pre,post,⟨h3,h4,h5,h6⟩,gB⟩:=h2.lG (by omega);rw[h5]at tW;replace I:=gB;clear gB h2;rw[tW]at gO;have hb:(pre++bc xs[i].bs++post)[pre.length+A]?=some (.int .u8 (xs[i].bs[A].toNat:Int)):=by
  rw[ds,getElem?_append_right (by omega),show pre.length+A-pre.length=A from by omega,l4 (by rw[dt];exact hA)];simp[bc,hA]
 refine RN 8 E I λa E=>?_;refine SS E (ae E (gO.2.2.2)) λa E=>?_;refine RN 2 E I λa E=>?_;refine SS E (ae E (I.bz hb)) λa E=>?_;refine ST 3 E I (λa w E I=>?_) (hlt:=(by simp only[aL,dt];omega));refine RT 2 E I ?_;refine⟨rfl,?_⟩;rw[yN (by rw[dt];exact hA),Nk]at I;have h7:=U.iM (n:=xs[i].bs.length) (c:=xs[i].c) (sz:=1) (I.jJ bb) (by rw[dt,bu,Nat.mul_one]) h4 h6;obtain⟨m',oQ⟩:∃ m':c1,m'=⟨xs[i].frm,xs[i].to,xs[i].ad,xs[i].c,xs[i].bs.set A (xs[i].bs[A] ^^^ x)⟩:=⟨_,rfl⟩;have GF:m'.own=Sl 5 1 (some ⟨bb,pre.length,none⟩) xs[i].bs.length xs[i].c (bc (xs[i].bs.set A (xs[i].bs[A] ^^^ x))):=by
  rw[oQ,c1.own];simp only[bu,tW]
 rw[← GF]at h7;have h8:=fI.Nd (a:=xs.take i) (b:=xs.drop (i+1)) (m:=m') ((h7.pick (fI (xs.take i++xs.drop (i+1)))).pick m'.own);have vi:xs.set i m'=xs.take i++m'::xs.drop (i+1):=by rw[set_eq_take_append_cons_drop,ak dH]
 rw[← vi]at h8;refine (bK.shut (q:=q) (ad:=some ⟨b',dB,none⟩) (xs:=xs.set i m') (ms:=(xs.map c1.m).set i (xs[i].frm,xs[i].to,xs[i].bs.set A (xs[i].bs.getD A 0 ^^^ x))) h8 (by rw[bu]) ?_ ?_ (by rw[bu];exact hx.1) ?_).sub
 ·rw[vi]
  conv=>lhs;rw[h0]
  rw[BD,BD]
  congr 1
  simp only[iJ,flatMap_cons]
  congr 1
  rw[oQ,c1.cells,c1.cells];simp only[bu]
 ·rw[List.map_set,oQ,c1.m,bn,aE hA,Option.getD_some]
 ·intro y hy;rcases mem_or_eq_of_mem_set hy with h | h
  ·exact hx.2 y h
  ·rw[h,oQ];simp only[bu];exact hx.2 _ (getElem_mem dH)
end
section
theorem abw {l:List Br}{frm:Int}{P:List (List UInt8)}(b:Br)(h:0<(l.foldl (hZ frm P) b).done)(hb:b.done=0) :
   l.foldl (hZ frm P) b∈l∧(l.foldl (hZ frm P) b).done≤P.length∧pd ((l.foldl (hZ frm P) b).al.take (l.foldl (hZ frm P) b).done) P=true:=by
 have key:∀ (l:List Br) (b:Br),(l.foldl (hZ frm P) b=b)∨(l.foldl (hZ frm P) b∈l∧(l.foldl (hZ frm P) b).done≤P.length∧pd ((l.foldl (hZ frm P) b).al.take (l.foldl (hZ frm P) b).done) P=true):=by
  intro l
  induction l with
  | nil=>intro b;exact .inl rfl
  | cons y l ih =>
   intro b;rw[foldl_cons];rcases ih (hZ frm P b y) with h | ⟨h1,h2,h3⟩
   ·rw[h];unfold hZ;split
    ·rename_i hc;exact .inr ⟨mem_cons_self ..,hc.2.2.1,hc.2.2.2⟩
    ·exact .inl rfl
   ·exact .inr ⟨gM _ h1,h2,h3⟩
 rcases key l b with h1 | h1
 ·rw[h1,hb]at h;omega
 ·exact h1
theorem abx {u P:List (List UInt8)}(hl:u.length≤P.length)(h:pd u P=true):u=P.take u.length:=by
 have h1:=W0.1 h;rw[Nat.min_eq_left hl,take_length]at h1;exact h1
theorem Nl (p:Pr):∀ (a b:List (List UInt8)) (fr:Int) (g:Nat→Int),foldI p fr g (a++b)=foldI p (fr+(a.length:Nat)) (foldI p fr g a) b
 | [],b,fr,g=>by simp[foldI]
 | x::a,b,fr,g=>by
  rw[cons_append,foldI,Nl p a b,foldI,eO]
  congr 1;omega
theorem hU.drop {w:World}{ad:Option Addr}{zs:List dY}{d c:Nat}(h:hU w ad zs)(hc:zs.length≤c):hU w (fl ad d c 1) (zs.drop d):=by
 refine⟨λh0=>?_,λx hx=>h.2 x (List.mem_of_mem_drop hx)⟩;rw[c3]at h0;obtain⟨b,o,rfl,hr⟩:=h.1 (by omega);refine⟨b,o+d*1,oZ (by omega),λj v hj=>?_⟩;rw[map_drop,getElem?_drop]at hj;have:=hr _ v hj;rw[Nat.mul_one,Nat.add_assoc];exact this
theorem Nm {w:World}{b nk base front:Nat}{p:Pr}{M:js}(h:Rd w b 0 (dR p M nk base front)):Rd w b 1 (bP p M.aq M.cO):=h.part 1 2
theorem aby {p:Pr}{f:Nat}{g:Nat→Int}{P:List (List UInt8)}{d:Nat}(hd:d≤P.length):foldI p ((f+d:Nat):Int) (foldI p (f:Int) g (P.take d)) (P.drop d)=foldI p (f:Int) g P:=by
 have h1:=Nl p (P.take d) (P.drop d) (f:Int) g;rw[jK,ep,Nat.min_eq_left hd]at h1;rw[h1];rfl
section
variable {W w:World}{L:List SP}{n c i N tq sq r base front:Nat}{ad:Option Addr}{M:js}{B:iU}{p:Pr}{s:Pl}{m:Mu}{A:Sn}{T:Tr}{t:Nat→Nat}{px:aC}
set_option maxHeartbeats 1000000 in
theorem abz (I:U W w (aF W M p m::L))(h:MI p M N m)(a6:dh p)(aG:p.title.size≤1000000000):Calls prog 265 #[pt M.mb] w λr w'=>∃ ad c,r=.returned (.tuple #[.slice ad 128 c,.int .i64 (fz p M.B.gs m.s).2])∧U W w' (Sl 5 1 ad 128 c (bc (fz p M.B.gs m.s).1)::aF W M p m::L):=by
 have hw:=h.wf;have bD:=hw.wc.k0;have iq:m.s.k.ls.length≤8:=by rw[hw.wc.ls];exact hw.wc.n.2
 have gS:=hw.wc.lx;have jG:aU m.s.k.ls≤aD m.s.k:=hw.wc.nc;have fA:=h.gs;have fp:=h.front;obtain⟨t,hI⟩:=h.inv;obtain⟨i,px,hJ,kU⟩:=hI.mg (mem_cons_self ..);have sI:=(hI.base px (bH hJ) kU).1;have kV:=Tree.wt ((aF.open I).tree M.tq);clear h;obtain⟨s,A,T,J,ks,base,front⟩:=m;simp only at hw bD iq gS jG fp hI hJ kU sI kV;subst fp;refine EN func265 ntmps265 rfl rfl λa E=>?_;refine CL 5 E I (A9 I) λa w E I=>?_;replace I:=aQ.open ((aF.open I).pick (aQ W M.B p s));dsimp only at I;refine CL 0 E I (s0 (I.pick (az M.B.core s.k)) hw.wc) λa w E I=>?_;refine RN 1 E I λa E=>?_;replace I:=aQ.fold I M.B p s;refine aV 2 (λw0 w'=>Rd w' M.mb 0 (dR p M ks.length base (aw s.k))) [8,9,10] [0,1,2,3,4,5,7,3006,1008,1009,1010,11,12,13,14,15,16,17,1018,19,20] E I λa w E I hH=>?_;have hC:=hH.at w (I.ai (b:=M.mb));refine RH 3 E I hH hC λa E=>?_;replace E:=E.aM 15;refine RH 4 E I hH hC λa E=>?_;refine QH E (λw hc=>ae E (hc 8 _ rfl)) hC λa E=>?_;replace I:=aF.fold I M p ⟨s,A,T,J,ks,base,aw s.k⟩;refine RH 0 E I hH hC λa E=>?_;refine CL 0 E I (A9 I) λa w E I=>?_;replace hC:=hH.at w ((aF.open I).ai (b:=M.mb));replace I:=aQ.open ((aF.open I).pick (aQ W M.B p s));dsimp only at I;refine RH 0 E I hH hC λa E=>?_;refine CL 0 E I (oI (I.pick (az M.B.core s.k))) λa w E I=>?_;replace hC:=hH.at w (I.ai (b:=M.mb));obtain⟨D,I,hD⟩:=az.qu I;refine RH 0 E I hH hC λa E=>?_;refine CL 0 E I (rA I bD iq) λa w E I=>?_;replace hC:=hH.at w (I.ai (b:=M.mb));refine RH 1 E I hH hC λa E=>?_;rw[show decide (((aw s.k:Nat):Int)≠((aU s.k.ls:Nat):Int))=false from Jm]at E;refine RH 2 E I hH hC λa E=>?_;replace E:=E.aM 26;refine RH 4 E I hH hC λa E=>?_;refine bo E (b7 E rfl (s:=26)) (ae E (hC 8 _ rfl)) rfl λa E=>?_;refine RH 2 E I hH hC λa E=>?_;replace I:=aF.fold (aQ.fold (hD _ _ I) M.B p s) M p ⟨s,A,T,J,ks,base,aw s.k⟩;refine IF 0 E I (λaj a E=>?_) λaj a E=>?_
 ·
  refine CL 2 E I (td I) λa w E I=>?_;replace I:=aF.open I;dsimp only at I;refine aY 0 E I (L9 (I.pick (aQ W M.B p s)) hw a6 aG fA) λad c a w E I=>?_;refine RT 4 E I ?_;exact⟨ad,c,rfl,(aF.fold I M p ⟨s,A,T,J,ks,base,aw s.k⟩).sub⟩
 have hhf:aw s.k<aD s.k:=by omega
 refine RN 1 E I λa E=>?_;replace I:=aF.open I;dsimp only at I;refine aV 0 (λw0 w'=>Rd w' M.mb 0 (dR p M ks.length base (aw s.k))) [1,2] [0,3,4,5,8,3006,1001,1002,1007,1009,10] E I λa w E I hH=>?_;have hC:=hH.at w (I.ai (b:=M.mb));refine RH 5 E I hH hC λa E=>?_;refine QH E (λw hc=>ae E (hc 0 _ rfl)) hC λa E=>?_;replace I:=aF.fold I M p ⟨s,A,T,J,ks,base,aw s.k⟩;refine RH 0 E I hH hC λa E=>?_;refine CL 0 E I (A9 I) λa w E I=>?_;replace hC:=hH.at w ((aF.open I).ai (b:=M.mb));replace I:=aQ.open ((aF.open I).pick (aQ W M.B p s));dsimp only at I;refine RH 0 E I hH hC λa E=>?_;refine CL 0 E I (oI (I.pick (az M.B.core s.k))) λa w E I=>?_;replace hC:=hH.at w (I.ai (b:=M.mb));replace I:=aQ.fold I M.B p s;refine RH 0 E I hH hC λa E=>?_;refine CL 0 E I (Mh (I.pick (aQ W M.B p s))) λa w E I=>?_;replace I:=aQ.open (I.pick (aQ W M.B p s));obtain⟨D,I,hD⟩:=az.qu (I.pick (az M.B.core s.k));refine jO 0 E I (FK (r:=0) (to:=aD s.k) (.inl rfl) (by decide) I fA bD iq hw.wc.na gS (λw' dc=>(dc.pick (Sl 5 1 M.B.adT M.B.gs.table.length M.B.cT (bc M.B.gs.table))).cu M.B.adT _ rfl rfl)) λfR gf X a w E ⟨⟨ta,ik⟩,I⟩=>?_;have mD:=ik rfl;subst mD;rw[wA]at I;replace I:=I.sub (M:=Qu M.B.core.qb M.B.core.aB s.k.ls::D::cg fR (aD s.k-aU s.k.ls) gf (dq M.B.gs s.k.ls (aD s.k))::aa M.B.pb 192 (gu p M.B s.g)::aA W p M.B.aq M.B.cO::Sl 5 1 M.B.adT M.B.gs.table.length M.B.cT (bc M.B.gs.table)::aa M.mb 177 (dR p M ks.length base (aw s.k))::aA W p M.aq M.cO::Sl 179 1 M.dr ks.length M.dA (gR ks)::ah (e5 p M.aq M.cO M.tq M.jq M.sq) ks::Tree M.tq M.sq T::ax M.sq M.r A::bI M.jq J::L);replace I:=aF.fold (aQ.fold (hD _ _ I) M.B p s) M p ⟨s,A,T,J,ks,base,aw s.k⟩;have hS:(dq M.B.gs s.k.ls (aD s.k)).length=aD s.k-aU s.k.ls:=wa _ _ _;have mG:∀ b∈dq M.B.gs s.k.ls (aD s.k),b.length≤1099511627776:=λb hb=>by
  rw[dq,cV]at hb;obtain⟨i,_,rfl⟩:=hb;rw[m8,iS,bd];omega
 have Nn:fz p M.B.gs s=(gn (foldI p (aw s.k) s.g (dq M.B.gs s.k.ls (aD s.k))),aD s.k):=by rw[fz,ag (by omega)]
 clear ik ta;generalize dq M.B.gs s.k.ls (aD s.k)=P at I hS mG Nn;rw[← hS]at E I;rw[Nn];have Bm:=(cg.le (I.pick (cg fR P.length gf P))).2;refine RN 1 E I λa E=>?_;refine RN 1 E I λa E=>?_;replace I:=aF.open I;dsimp only at I;refine RN 5 E I λa E=>?_;replace I:=aF.fold I M p ⟨s,A,T,J,ks,base,aw s.k⟩;refine CL 0 E I (FO I hJ kU) λa w E I=>?_;refine AL 0 E I λcH a w E I=>?_;change U W w (aa cH 183 (ints .i32 32 (λ_=>0))::_) at I;refine SA 0 E I λa w E I=>?_;refine RN 1 E I λa E=>?_;refine cc (M:=λa w=>∃ (d:Nat) (g1:Nat→Int),(d≤P.length∧foldI p ((aw s.k+d:Nat):Int) g1 (P.drop d)=foldI p (aw s.k:Int) s.g P∧dO g1)∧Fr a 92 [(0,pt M.mb),(4,.int .i64 (aD s.k)),(5,.slice fR P.length gf),(6,pt cH),(7,.int .i64 d)]∧U W w (aa cH 183 (ints .i32 32 g1)::cg fR P.length gf P::aF W M p ⟨s,A,T,J,ks,base,aw s.k⟩::L)) ?_ ?_
 ·
  refine cc (M:=λa w=>∃ (b8:Nat) (ic:Option Addr) (cb:Nat),Fr a 92 [(0,pt M.mb),(4,.int .i64 (aD s.k)),(5,.slice fR P.length gf),(6,pt cH),(7,.int .i64 0),(8,pt b8),(9,.bool (decide (0<(T.fF (aw s.k:Int) P).done)))]∧U W w (aa b8 238 (ch (T.fF (aw s.k:Int) P) ic cb)::aa cH 183 (ints .i32 32 s.g)::cg fR P.length gf P::aF W M p ⟨s,A,T,J,ks,base,aw s.k⟩::L)) ?_ ?_
  ·
   refine RN 0 E I λa E=>?_;rw[sI]at I;replace I:=aF.open (I.pick (aF W M p ⟨s,A,T,J,ks,base,aw s.k⟩));dsimp only at I;refine aV 0 (λw0 w'=>Rd w' M.mb 0 (dR p M ks.length base (aw s.k))) [7,13] [0,1,2,4,5,6,8,3003,3007,2009,10,11,12,1013,1014,15] E I λa w E I hH=>?_;have hC:=hH.at w (I.ai (b:=M.mb));refine RH 7 E I hH hC λa E=>?_;refine QH E (λw hc=>ae E (hc 4 _ rfl)) hC λa E=>?_;refine QH E (λw hc=>ae E (hc 8 _ rfl)) hC λa E=>?_;refine RH 0 E I hH hC λa E=>?_;refine DN [(9,[10,11,12,1013,1014,15]),(13,[1009,10,11,12,1014,15])] (by kernel_rfl) rfl ⟨⟨_,rfl,?_⟩,⟨_,rfl,?_⟩,trivial⟩
   ·
    refine RH 0 E I hH hC λa E=>?_;refine aY 0 E I (I7 (p:=P) (I.tree M.tq) (λw' h=>cg.rd (h.pick (cg fR P.length gf P))) Bm ⟨by omega,mG⟩) λic cb a w E I=>?_;refine RN 3 E I λa E=>?_;refine eV E rfl I Ty.t238 rfl λb8 a w E I ho=>?_;clear ho;replace hC:=hH.at w (I.ai (b:=M.mb));refine RH 0 E I hH hC λa E=>?_;refine SA 0 E I λa w E I=>?_;refine RN 1 E I λa E=>?_;exact⟨_,ic,cb,E.ab [0,4,5,6,7,8,9],(aF.fold I M p ⟨s,A,T,J,ks,base,aw s.k⟩).sub⟩
   refine RH 0 E I hH hC λa E=>?_;refine eV E rfl I Ty.t238 rfl λb8 a w E I ho=>?_;clear ho;replace hC:=hH.at w (I.ai (b:=M.mb));refine RH 0 E I hH hC λa E=>?_;refine aY 0 E I (I7 (p:=P) (I.tree M.tq) (λw' h=>cg.rd (h.pick (cg fR P.length gf P))) Bm ⟨by omega,mG⟩) λic cb a w E I=>?_;refine SA 3 E I λa w E I=>?_;refine RN 1 E I λa E=>?_;exact⟨_,ic,cb,E.ab [0,4,5,6,7,8,9],(aF.fold I M p ⟨s,A,T,J,ks,base,aw s.k⟩).sub⟩
  clear E;(try clear I);rintro a w ⟨b8,ic,cb,E,I⟩;refine IF 2 E I (λao a E=>?_) λao a E=>?_
  ·
   obtain⟨pN,n4,No⟩:=abw (l:=T.l) (frm:=(aw s.k:Int)) (P:=P) mi (by simpa [Tr.fF] using ao) rfl;change T.fF (aw s.k:Int) P∈T.l at pN;obtain⟨j,pb,GG,Np⟩:=hI.Jo pN;have abA:=(hI.ga _ pN).2 pb (bH GG) Np;have abB:=(hI.ar pb (bH GG)).2;refine aV 0 (λw0 w'=>Rd w' b8 0 (ch (T.fF (aw s.k:Int) P) ic cb)) [3,5,6] [0,1,4,3002,3005,1003,1006,7] E I λa w E I hH=>?_;have hC:=hH.at w (I.ai (b:=b8));refine RH 3 E I hH hC λa E=>?_;refine QH E (λw hc=>ae E (hc 4 _ rfl)) hC λa E=>?_;refine QH E (λw hc=>ae E (hc 3 _ rfl)) hC λa E=>?_;refine RH 0 E I hH hC λa E=>?_;refine CL 0 E I (FO (I.pick (aF W M p ⟨s,A,T,J,ks,base,aw s.k⟩)) GG Np) λa w E I=>?_;replace hC:=hH.at w (I.ai (b:=b8));refine RH 0 E I hH hC λa E=>?_;refine SA 0 E I λa w E I=>?_;replace hC:=hH.at w (I.ai (b:=b8));refine RH 1 E I hH hC λa E=>?_;change (T.fF (aw s.k:Int) P).done≤P.length at n4;change pd ((T.fF (aw s.k:Int) P).al.take (T.fF (aw s.k:Int) P).done) P=true at No;have dj:=(kV.ok _ pN).2.1;generalize T.fF (aw s.k:Int) P=bb at *;have e1:bb.al.take bb.done=P.take bb.done:=by
    have:=abx (u:=bb.al.take bb.done) (P:=P) (by rw[ep];omega) No
    rwa [ep,Nat.min_eq_left dj]at this
   exact⟨bb.done,pb.g,⟨n4,by rw[abA,e1];exact aby n4,abB⟩,E.ab [0,4,5,6,7],I.sub⟩
  refine RN 0 E I λa E=>?_;exact⟨0,s.g,⟨Nat.zero_le _,rfl,hw.pJ a6⟩,E.ab [0,4,5,6,7],I.sub⟩
 clear E;(try clear I);rintro a w ⟨d,g1,⟨mn,Bs,abC⟩,E,I⟩;refine RN 1 E I λa E=>?_;replace I:=aF.open (I.pick (aF W M p ⟨s,A,T,J,ks,base,aw s.k⟩));dsimp only at I;obtain⟨zs,cU,eN,I⟩:=cg.open (I.pick (cg fR P.length gf P));have iY:zs.length=P.length:=by rw[← cU,bd]
 refine aV 0 (λw0 w'=>Rd w' M.mb 0 (dR p M ks.length base (aw s.k))∧Rd w' cH 0 (ints .i32 32 g1)) [4,8,10] [0,1,2,5,6,7,9,11,12,13,16,3003,3004,1008,1010,1014,1015,17,18] E I λa w E I hH=>?_;have hC:=hH.at w ⟨I.ai (b:=M.mb),I.ai (b:=cH)⟩;refine RH 10 E I hH hC λa E=>?_;rw[show P.length-d=(P.drop d).length from (c3 ..).symm]at E;refine RH 1 E I hH hC λa E=>?_;refine QH E (λw hc=>bS E underlying45 rfl Ty.t45 (Nm hc.1)) hC λa E=>?_;refine QH E (λw hc=>bS E underlying183 rfl Ty.t183 (hc.2)) hC λa E=>?_;refine RH 0 E I hH hC λa E=>?_;refine SS E (ae E (hC.1 8 _ rfl)) λa E=>?_;refine RH 1 E I hH hC λa E=>?_;rw[show ((aw s.k:Nat):Int)+(d:Int)=((aw s.k+d:Nat):Int) from rfl]at E;refine CL 0 E I (LF (P:=P.drop d) (zs:=zs.drop d) (fr:=((aw s.k+d:Nat):Int)) (I.pick (aA W p M.aq M.cO)) a6 aG abC ⟨by rw[c3];omega,λb hb=>mG b (List.mem_of_mem_drop hb)⟩ ⟨by omega,by have:aw s.k≤1000:=ft jG gS;omega⟩ (by rw[map_drop,cU]) (λw' h=>(U.ma (h.sub (M:=Sl 22 1 fR P.length gf (zs.map aK)::ah a8 zs::[]))).drop (by omega))) λa w E I=>?_;refine aY 0 E I (yg I) λad2 c2 a w E I=>?_;refine RN 2 E I λa E=>?_;refine RT 0 E I ?_;rw[Bs]at I;exact⟨ad2,c2,rfl,(aF.fold I M p ⟨s,A,T,J,ks,base,aw s.k⟩).sub⟩
end
end
section
section
variable {W w:World}{L:List SP}{n c cP cT nb nw rm me aJ bt:Nat}{adP adT:Option Addr}{M:js}{B:iU}{x:UInt8}{p:Pr}{s:Pl}{m:Mu}{tb:List UInt8}{cf:Cf}{y id bf order cv workers room:Int}
set_option maxHeartbeats 1000000 in
theorem abD (I:U W w (aA W p adP cP::L))(hm:eR ⟨n,me,id,aJ,bt,bf,order,nb,nw,rm⟩)(a6:dh p)(fA:cX ⟨bf,order,tb⟩)(aG:p.title.size≤1000000000)(dV:p.ops.length≤1000000000)(eK:tb.length≤1099511627776)(hT:∀ w',U W w' (aA W p adP cP::L)→aX w' adT tb.length tb) :
   Calls prog 59 #[.agg (bT ⟨n,me,id,aJ,bt,bf,order,nb,nw,rm⟩).toArray,.agg (bP p adP cP).toArray,.slice adT tb.length cT] w λr w'=>∃ (M:js) (m:Mu),r=.returned (.tuple #[pt M.mb,.int .i64 0]) ∧
    (M.B.gs=⟨bf,order,tb⟩∧m.s=ey p ⟨n,me,id,aJ,bt,bf,order,nb,nw,rm⟩∧MI p M 1 m∧m.T.l=[]∧m.J=[]∧∀ k∈m.ks,k.1=kR)∧U W w' (aF W M p m::aA W p adP cP::L):=by
 obtain⟨cf,c9⟩:∃ cf:Cf,cf=⟨n,me,id,aJ,bt,bf,order,nb,nw,rm⟩:=⟨_,rfl⟩;have cC:=hm;simp only[eR,fx]at cC;obtain⟨⟨h1,h2,h3⟩,⟨h4,h5,h6,h7⟩,h8,h9,eI,jV⟩:=cC;rw[← c9];refine EN func59 ntmps59 rfl rfl λa E=>?_;refine BX 1 E I λb3 a w E I=>?_;change U W w (aa b3 28 (bT cf)::_) at I;refine BX 0 E I λb4 a w E I=>?_;change U W w (aa b4 45 (bP p adP cP)::_) at I;refine RN 6 E I λa E=>?_;rw[c9]at E;refine bh 0 E I (Mb (tb:=tb) (I.pick (aA W p adP cP)) hm a6 fA aG dV eK (λw' hw=>hT w' hw.sub)) λB a w E ⟨Nq,I⟩=>?_;rw[← c9]at I;refine RN 9 E I λa E=>?_;replace E:=E.aM 19;refine RN 2 E I λa E=>?_;replace I:=I.bN 114 4 none;rw[bP]at I;refine RN 2 E I λa E=>?_;refine g2 E rfl I underlying43 Ty.t114 rfl rfl (by decide) (λh0=>(I.pick (aA W p adP cP)).q6 adP h0) (by rw[ja Dk]) (zk Jb _) (by omega) λgq gr a w E I=>?_;rw[nil_append,Nat.zero_add]at I;rw[Nat.zero_add]at E;refine ST 1 E I (λa w E I=>?_);refine RN 1 E I λa E=>?_;replace I:=(I.pick (Sl 114 4 gq p.ops.length gr (rows dN p.ops))).Dn;refine aV 0 (λw0 w'=>Rd w' b3 0 (bT cf)∧Rd w' b4 0 [.string p.title,.slice gq p.ops.length gr]) [3,4,5] [0,2,3001,1003,1004,1005,6,1007,8] E I λa w E I hH=>?_;have hC:=hH.at w ⟨I.ai (b:=b3),I.ai (b:=b4)⟩;refine RH 2 E I hH hC λa E=>?_;refine QH E (λw hc=>bS E underlying45 rfl Ty.t45 (hc.2)) hC λa E=>?_;refine RH 0 E I hH hC λa E=>?_;refine SS E (ae E (hC.1 9 _ rfl)) λa E=>?_;rw[show cf.room=(rm:Int) from by rw[c9]]at E;refine RH 0 E I hH hC λa E=>?_;refine aY 0 E I (Uw (n:=rm) I (by omega)) λsq r a w E I=>?_;replace hC:=hH.at w ⟨I.ai (b:=b3),I.ai (b:=b4)⟩;refine RH 0 E I hH hC λa E=>?_;refine bh 0 E I (Vi I) λjq a w E I=>?_;replace hC:=hH.at w ⟨I.ai (b:=b3),I.ai (b:=b4)⟩;refine RH 1 E I hH hC λa E=>?_;refine w6 E rfl I rfl λgH a w E I ho=>?_;clear ho;change U W w (aa gH 177 [pt B.pb,.string p.title,.slice gq p.ops.length gr,pt sq,.pointer none,pt jq,.slice none 0 0,.int .i64 0,.int .i64 0]::_) at I;refine RN 1 E I λa E=>?_;refine aV 1 (λw0 w'=>Rd w' b3 0 (bT cf)∧w'.cell? ⟨gH,3,none⟩=some (pt sq)) [6] [0,1,2,3,5,3004,1006,1007,8,9,1010] E I λa w E I hH=>?_;have hC:=hH.at w ⟨I.ai (b:=b3),(I.ai (b:=gH)) 3 _ rfl⟩;refine RH 5 E I hH hC λa E=>?_;refine QH E (λw hc=>ae E (hc.2)) hC λa E=>?_;refine RH 0 E I hH hC λa E=>?_;refine SS E (ae E (hC.1 7 _ rfl)) λa E=>?_;rw[show cf.cv=(nb:Int) from by rw[c9]]at E;refine RH 0 E I hH hC λa E=>?_;refine bh 0 E I (UG (m:=(nb:Int)) I) λtq a w E I=>?_;rw[show (min (max (nb:Int) 0) 8).toNat=nb from by omega]at I;refine ST 2 E I (λa w E I=>?_);refine RN 3 E I λa E=>?_;refine SS E (ae E ((I.ai (b:=b3)) 8 _ rfl)) λa E=>?_;rw[show cf.workers=(nw:Int) from by rw[c9]]at E;refine RN 1 E I λa E=>?_;refine aO (λμ a w=>∃ (ks:List Kx) (dr:Option Addr) (dA:Nat),(μ=nw-ks.length∧ks.length≤nw∧(∀ k∈ks,k.1=kR))∧Fr a 93 [(3,pt b3),(8,pt B.pb),(10,pt gH),(44,.int .i64 nw),(45,.int .i64 ks.length)]∧U W w (aa gH 177 (dR p ⟨gH,B,sq,r,tq,jq,dr,dA,gq,gr⟩ ks.length 0 0)::Sl 179 1 dr ks.length dA (gR ks)::ah (e5 p gq gr tq jq sq) ks::aa b3 28 (bT cf)::aQ W B p (ey p cf)::aA W p gq gr::aA W p adP cP::Tree tq sq ⟨nb,[],0,0⟩::ax sq r ⟨0,4*rm,0,[]⟩::bI jq []::L)) (nw) (⟨[],none,0,⟨by simp,by simp,λk hk=>by cases hk⟩,E.ab [3,8,10,44,45],(show U W w (Sl 179 1 none ([]:List Kx).length 0 (gR [])::ah (e5 p gq gr tq jq sq) []::aa gH 177 (dR p ⟨gH,B,sq,r,tq,jq,none,0,gq,gr⟩ ([]:List Kx).length 0 0)::_) from (I.iN (f:=e5 p gq gr tq jq sq)).bN 179 1 none).sub⟩) ?_;clear E I;rintro μ a w ⟨ks,dr,dA,⟨rfl,dM,yO⟩,E,I⟩;refine IF 3 E I (λao a E=>?_) λao a E=>?_
 ·
  refine aV 1 (λw0 w'=>Rd w' gH 0 (dR p ⟨gH,B,sq,r,tq,jq,dr,dA,gq,gr⟩ ks.length 0 0)) [8,12,16,20,21,22] [0,1,2,3,5,6,7,9,10,11,13,14,15,17,18,19,3004,3008,3012,3016,1020,1021,1022,1023,24,25,1026] E I λa w E I hH=>?_;have hC:=hH.at w (I.ai (b:=gH));refine RH 16 E I hH hC λa E=>?_;refine QH E (λw hc=>ae E (hc 6 _ rfl)) hC λa E=>?_;refine QH E (λw hc=>bS E underlying45 rfl Ty.t45 (Nm hc)) hC λa E=>?_;refine QH E (λw hc=>ae E (hc 4 _ rfl)) hC λa E=>?_;refine QH E (λw hc=>ae E (hc 5 _ rfl)) hC λa E=>?_;refine RH 0 E I hH hC λa E=>?_;refine SS E (ae E (hC 3 _ rfl)) λa E=>?_;refine RH 0 E I hH hC λa E=>?_;refine bh 0 E I (W5 I) λwb a w E I=>?_;replace hC:=hH.at w (I.ai (b:=gH));refine RH 0 E I hH hC λa E=>?_;refine cr E rfl I underlying175 Ty.t179 rfl rfl rfl rfl (by decide) (by decide) λb69 a w E I ho=>?_;clear ho;replace hC:=hH.at w (I.ai (b:=gH));refine RH 0 E I hH hC λa E=>?_;refine cK E rfl I underlying175 Ty.t179 rfl rfl I.ai rfl (by simp[Value.oneCell']) (by decide) (by decide) (by omega) λuS uT a w E I=>?_;refine ST 2 E I (λa w E I=>?_);have pw:U W w (aa gH 177 (dR p ⟨gH,B,sq,r,tq,jq,uS,uT,gq,gr⟩ (ks++[(kR,wb)]).length 0 0)::Sl 179 1 uS (ks++[(kR,wb)]).length uT (gR (ks++[(kR,wb)]))::aa wb 247 (cx p gq gr tq jq sq kR)::ah (e5 p gq gr tq jq sq) ks::aa b3 28 (bT cf)::aQ W B p (ey p cf)::aA W p gq gr::aA W p adP cP::Tree tq sq ⟨nb,[],0,0⟩::ax sq r ⟨0,4*rm,0,[]⟩::bI jq []::L):=by
   have e1:(ks++[(kR,wb)]).length=ks.length+1:=by simp
   have e2:gR (ks++[(kR,wb)])=gR ks++[pt wb]:=by simp[gR]
   rw[e1,e2];change U W w (aa gH 177 (dR p ⟨gH,B,sq,r,tq,jq,uS,uT,gq,gr⟩ (ks.length+1) 0 0)::Sl 179 1 uS (ks.length+1) uT (gR ks++[pt wb])::_) at I;exact I.sub
  have Nr:=U.jM (f:=e5 p gq gr tq jq sq) (x:=(kR,wb)) (l:=ks) (pw.sub (M:=aa wb 247 (cx p gq gr tq jq sq kR)::ah (e5 p gq gr tq jq sq) ks::aa gH 177 (dR p ⟨gH,B,sq,r,tq,jq,uS,uT,gq,gr⟩ (ks++[(kR,wb)]).length 0 0)::Sl 179 1 uS (ks++[(kR,wb)]).length uT (gR (ks++[(kR,wb)]))::aa b3 28 (bT cf)::aQ W B p (ey p cf)::aA W p gq gr::aA W p adP cP::Tree tq sq ⟨nb,[],0,0⟩::ax sq r ⟨0,4*rm,0,[]⟩::bI jq []::L));replace I:=Nr;clear pw Nr;refine RN 2 E I λa E=>?_;have abE:(ks++[(kR,wb)]).length=ks.length+1:=by simp
  refine⟨nw-(ks.length+1),by omega,ks++[(kR,wb)],uS,uT,⟨by omega,by omega,λk hk=>?_⟩,?_,I.sub⟩
  ·rcases eP.1 hk with hk | hk
   ·exact yO k hk
   ·rw[mem_singleton.1 hk]
  ·rw[abE];exact E.ab [3,8,10,44,45]
 refine aV 1 (λw0 w'=>Rd w' gH 0 (dR p ⟨gH,B,sq,r,tq,jq,dr,dA,gq,gr⟩ ks.length 0 0)) [6] [0,1,2,3,5,3004,1006,1007,8,9,10,11,12,1013] E I λa w E I hH=>?_;have hC:=hH.at w (I.ai (b:=gH));refine RH 5 E I hH hC λa E=>?_;refine QH E (λw hc=>ae E (hc 3 _ rfl)) hC λa E=>?_;refine RH 0 E I hH hC λa E=>?_;refine CL 0 E I (Mg (I.pick (aQ W B p (ey p cf)))) λa w E I=>?_;replace hC:=hH.at w (I.ai (b:=gH));refine RH 0 E I hH hC λa E=>?_;refine bh 0 E I (IQ (g:=(ey p cf).g) (I.store sq) (by simp[Sn.used,Uv];omega) (by simp)) λt a w E ⟨⟨Z6,FR⟩,I⟩=>?_;refine ST 5 E I (λa w E I=>?_);refine RN 3 E I λa E=>?_;refine SS E (ae E ((I.ai (b:=b3)) 3 _ rfl)) λa E=>?_;rw[show cf.aJ=(aJ:Int) from by rw[c9]]at E;refine ST 2 E I (λa w E I=>?_);change U W w (aa gH 177 (dR p ⟨gH,B,sq,r,tq,jq,dr,dA,gq,gr⟩ ks.length 1 aJ)::_) at I;refine RT 4 E I ?_;obtain rfl:ks.length=nw:=by omega
 have uU:=aF.fold I ⟨gH,B,sq,r,tq,jq,dr,dA,gq,gr⟩ p ⟨ey p cf,(⟨0,4*rm,0,[]⟩:Sn).add (ey p cf).g t,⟨nb,[],0,0⟩,[],ks,1,aJ⟩;refine⟨⟨gH,B,sq,r,tq,jq,dr,dA,gq,gr⟩,⟨ey p cf,(⟨0,4*rm,0,[]⟩:Sn).add (ey p cf).g t,⟨nb,[],0,0⟩,[],ks,1,aJ⟩,rfl,⟨Nq,rfl,?_,rfl,rfl,yO⟩,uU.sub⟩;obtain⟨ps,ev,mr,hk⟩:∃ ps ev mr,(ey p cf).k={ ff cf with ps:=ps,ev:=ev,mr:=mr }:=(wo (p:=p) (c:=cf) (by rw[c9];exact hm)).ew.2.2;have GH:cw p (ey p cf):=cw.new (by rw[c9];exact hm);have hfd:aw (ey p cf).k=aJ:=by
  obtain⟨l,kN,kq⟩:=AG GH.wc.k0;rw[aw,kq];rw[hk]at kN;have GI:l∈List.replicate cf.n.toNat (List.replicate cf.aJ.toNat 0):=kN;rw[(List.mem_replicate.1 GI).2,ko,c9];rfl
 have b6:∀ k∈ks.map (·.1),k=kR:=λk hk=>by
  obtain⟨y,hy,rfl⟩:=cV.1 hk;exact yO y hy
 exact { wf:=GH,gs:=by rw[Nq];exact fA,front:=hfd.symm,ga:=λy hy=>(by cases hy),J:=by simp,most:=by rw[hk,c9];rfl,workers:=by rw[hk,c9];rfl,ks:=by dsimp only;omega,room:=⟨by rw[hk,c9];simp only[Sn.add,ff];omega,by simp only[Sn.add];omega⟩,n:=⟨a7 _,Nat.zero_le _,Nat.zero_le _⟩,inv:=⟨t,by
  refine⟨?_,λx hx=>?_,λx hx _=>?_,λy hy=>(by cases hy),λk hk=>?_⟩
  ·rw[Mi (λk hk=>by rw[b6 k hk];rfl)];exact List.Perm.refl _
  ·rw[mem_singleton.1 hx];exact⟨rfl,GH.pJ a6⟩
  ·rw[mem_singleton.1 hx];exact⟨rfl,rfl⟩
  ·rw[b6 k hk];exact⟨Int.le_refl _,λh=>(by cases h)⟩⟩ }
end
end
end Go.Proofs.YteoldcfapaiobaaGreat
