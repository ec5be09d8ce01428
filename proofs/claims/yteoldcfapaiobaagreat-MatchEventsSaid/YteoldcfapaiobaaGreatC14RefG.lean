/- quintainref21.Player. -/
import Derived.Test.YteoldcfapaiobaaGreatC13RefC
import Derived.Test.YteoldcfapaiobaaGreatC12Mul
import Derived.Test.YteoldcfapaiobaaGreatC10Core
namespace Go.Proofs.YteoldcfapaiobaaGreat
open Tryz
open List (mem_cons_self length_range take_succ_cons getElem?_drop set_eq_take_append_cons_drop perm_middle getElem?_append_right drop_left take_zero foldl_cons nil_append map_cons set_append_right set_append_left mem_range drop_eq_nil_of_le getElem_map eraseIdx_eq_take_drop_succ cons_append take_length append_nil mem_or_eq_of_mem_set getElem_mem map_take map_drop mem_singleton mem_of_mem_eraseIdx foldl_append length_filter_le flatMap_cons)
open Go.RowKit
set_option linter.unusedVariables false
set_option linter.unusedSimpArgs false
set_option maxRecDepth 10000
set_option synthInstance.maxSize 4000
set_option synthInstance.maxHeartbeats 400000
section
structure fT where
 pb:Nat
 core:oC
 aq:Option Addr
 cO:Nat
 adT:Option Addr
 cT:Nat
 gs:Gs
abbrev eP (p:Pr)(B:fT)(g:Nat→Int):List Value:=[pt B.core.cb,.string p.title,.slice B.aq p.ops.length B.cO,.int .i64 B.gs.kind,.int .i64 B.gs.order,.slice B.adT B.gs.table.length B.cT]++ints .i32 32 g
theorem Mn {w:World}{b:Nat}{p:Pr}{B:fT}{g:Nat→Int}(h:Rd w b 0 (eP p B g)):Rd w b 1 (bP p B.aq B.cO):=h.part 1 2
theorem aaK {w:World}{b:Nat}{p:Pr}{B:fT}{g:Nat→Int}(h:Rd w b 0 (eP p B g)):Rd w b 3 (di B.gs B.adT B.cT):=h.part 3 3
theorem A4 {w:World}{b:Nat}{p:Pr}{B:fT}{g:Nat→Int}(h:Rd w b 0 (eP p B g)):Rd w b 6 (ints .i32 32 g):=by
 have h1:=h.part 6 32
 rwa [show ((eP p B g).drop 6).take 32=ints .i32 32 g from by
  show (ints .i32 32 g).take 32=_;exact fX (by rw[df];exact bf _)]at h1
theorem Mo (p:Pr)(B:fT)(g:Nat→Int):(eP p B g).length=38:=by rw[eP,aL,df];rfl
theorem aaL (p:Pr)(B:fT)(g g':Nat→Int):cB (eP p B g) 6 (ints .i32 32 g')=eP p B g':=by
 rw[cB,df,drop_eq_nil_of_le (by rw[Mo];exact bf _),append_nil,eP,eP]
 congr 1
def bX (W:World)(B:fT)(p:Pr)(s:Pl):SP:=λh=>cm [aa B.pb 51 (eP p B s.g),aW B.core s.k,aA W p B.aq B.cO] h
section
variable {W w:World}{L R:List SP}{n c i cP cT:Nat}{ad adP adT:Option Addr}{B:fT}{x:UInt8}{p:Pr}{s:Pl}{bs tb:List UInt8}{k:Ks}{C:oC}{A:my}
theorem bX.open (I:U W w (bX W B p s::L)):U W w (aa B.pb 51 (eP p B s.g)::aW B.core s.k::aA W p B.aq B.cO::L) :=
 I.open (M:=[_,_,_]) λ_ h=>h
theorem bX.fold (I:U W w L)(B:fT)(p:Pr)(s:Pl)[kk:fD L [aa B.pb 51 (eP p B s.g),aW B.core s.k,aA W p B.aq B.cO] R]:U W w (bX W B p s::R) :=
 U.shut (M:=[_,_,_]) (I.perm kk.perm) λ_ h=>h
theorem FN (I:U W w (bL C.lb C.lo C.cL k.ls::aa C.cb 72 (cU k C A)::L))(hk:WC k):Calls prog 19 #[pt C.cb] w λr V=>r=.returned (.int .i64 (ax k))∧U W V (bL C.lb C.lo C.cL k.ls::aa C.cb 72 (cU k C A)::L):=by
 have hn:=hk.n;have fe:=hk.ls;refine EN func19 ntmps19 rfl rfl λa E=>?_;refine RN 7 E I λa E=>?_;obtain⟨xs,a8,I⟩:=bL.open I;have cj:xs.length=k.ls.length:=by rw[← a8,gK]
 rw[← cj]at E;refine CL 0 E I (Fp (xs:=xs) I (by omega) (by omega) (λV hw=>U.oD hw)) λa w E I=>?_;refine RT 1 E I ?_;exact⟨by rw[a8];rfl,bL.close I a8⟩
theorem FO (I:U W w (bX W B p s::L))(hw:WP p s)(a1:dg p)(aE:p.title.size≤1000000000):Calls prog 66 #[pt B.pb] w λr V=>r=.returned (.tuple #[])∧U W V (bX W B p (ey p s)::L):=by
 refine EN func66 ntmps66 rfl rfl λa E=>?_;refine RN 0 E I λa E=>?_;refine aR (λμ a w=>∃ (i:Nat),(μ=ax s.k-s.k.mr.length-i∧i≤ax s.k-s.k.mr.length)∧Fr a 60 [(0,pt B.pb)]∧U W w (bX W B p (ik p i s)::L)) (ax s.k-s.k.mr.length) (⟨0,⟨rfl,by omega⟩,E.ab [0],I⟩) ?_;clear E I;rintro μ a w ⟨i,⟨rfl,hi⟩,E,I⟩;obtain⟨j4,fe,lX⟩:=hw.qi i hi;have e6:ik p (i+1) s=nB p (ik p i s):=Ez p i s;have Cp:=hw.low;have vn:ax (ik p i s).k=ax s.k:=by rw[ax,fe];rfl
 generalize Fi:ik p i s=si at I j4 fe lX e6 vn;replace I:=bX.open I;have bN:=j4.wc.kR;have iB:si.k.ls.length≤8:=by rw[j4.wc.ls];exact j4.wc.n.2
 have ry:0<si.k.ls.length:=by rw[j4.wc.ls];have:=j4.wc.n;omega
 have Zg:ax si.k≤1000:=gN j4.wc.nA j4.wc.lM;obtain⟨A,I⟩:=aW.open (I.pick (aW B.core si.k));refine aZ 2 (λw0 V=>Rd V B.pb 0 (eP p B si.g)∧Rd V B.core.cb 0 (cU si.k B.core A)) [11,12] [0,1,2,8,9,10,3003,4,5,3006,7,1011,1012,13] E I λa w E I hH=>?_;have hC:=hH.at w ⟨I.ai (b:=B.pb),I.ai (b:=B.core.cb)⟩;refine RH 6 E I hH hC λa E=>?_;refine QH E (λw hc=>ag E (hc.1 0 _ rfl)) hC λa E=>?_;refine RH 2 E I hH hC λa E=>?_;refine QH E (λw hc=>ag E (hc.2 16 _ rfl)) hC λa E=>?_;refine RH 1 E I hH hC λa E=>?_;refine SS E (ag E (hC.1 0 _ rfl)) λa E=>?_;refine RH 0 E I hH hC λa E=>?_;refine CL 0 E I (FN ((I.pick (aa B.core.cb 72 (cU si.k B.core A))).pick (bL B.core.lb B.core.lo B.core.cL si.k.ls)) j4.wc) λa w E I=>?_;replace hC:=hH.at w ⟨I.ai (b:=B.pb),I.ai (b:=B.core.cb)⟩;refine RH 1 E I hH hC λa E=>?_;refine IF 0 E I (λaj a E=>?_) λaj a E=>?_
 ·
  have p4:si.k.mr.length<aU si.k.ls:=by
   have:aU si.k.ls=ax si.k:=rfl;omega
  have Zh:si.k.mr.length<ax si.k:=p4;refine RN 11 E I λa E=>?_;obtain⟨xs,a8,I⟩:=bL.open (I.pick (bL B.core.lb B.core.lo B.core.cL si.k.ls));have cj:xs.length=si.k.ls.length:=by rw[← a8,gK]
  have dG:=m3 si.k.ls si.k.mr.length;refine aZ 0 (λw0 V=>Rd V B.pb 0 (eP p B si.g)∧Rd V B.core.cb 0 (cU si.k B.core A)) [8,13,14,15,16,18] [0,1,2,3,5,6,7,9,10,11,12,17,3004,3008,1013,1014,1015,1016,1018,1019,20,21,22,23,24,1025] E I λa w E I hH=>?_;have hC:=hH.at w ⟨I.ai (b:=B.pb),I.ai (b:=B.core.cb)⟩;refine RH 12 E I hH hC λa E=>?_;refine QH E (λw hc=>bT E underlying45 rfl Ty.t45 (Mn hc.1)) hC λa E=>?_;refine QH E (λw hc=>bT E underlying49 rfl Ty.t49 (A4 hc.1)) hC λa E=>?_;refine RH 0 E I hH hC λa E=>?_;refine SS E (ag E (hC.1 0 _ rfl)) λa E=>?_;refine RH 2 E I hH hC λa E=>?_;refine SS E (ag E (hC.2 10 _ rfl)) λa E=>?_;rw[← cj]at E;refine RH 0 E I hH hC λa E=>?_;refine aY 0 E I (ZL (xs:=xs) (f:=si.k.mr.length) I (by omega) (by omega) (λV hw=>U.oD hw) (by rw[a8];exact p4)) λiD jh a w E I=>?_;replace hC:=hH.at w ⟨I.ai (b:=B.pb),I.ai (b:=B.core.cb)⟩;rw[a8]at E I;refine RH 0 E I hH hC λa E=>?_;refine bg 0 E I (Dx (b:=cr si.k.ls si.k.mr.length) (fr:=si.k.mr.length) (I.pick (aA W p B.aq B.cO)) a1 aE (j4.pv a1) (by omega) (by omega) (λV hw=>(hw.pick (Sl 5 1 iD (cr si.k.ls si.k.mr.length).length jh (bc (cr si.k.ls si.k.mr.length)))).cF iD _ rfl rfl)) λnst a w E ⟨pg,I⟩=>?_;refine RN 5 E I λa E=>?_;refine qt E rfl I Ty.t49 tr (by rw[df,Mo];decide) λa w E I=>?_;rw[aaL]at I;refine RN 0 E I λa E=>?_;replace I:=bL.close (I.sub (M:=Sl 65 1 (some ⟨B.core.lb,B.core.lo,none⟩) si.k.ls.length B.core.cL (xs.map aM)::ah a7 xs::aa B.pb 51 (eP p B (eW p si.k.mr.length (cr si.k.ls si.k.mr.length) si.g))::aA W p B.aq B.cO::aa B.core.cb 72 (cU si.k B.core A)::aa B.core.hb 3 (eZ si.k.ps)::aa B.core.dV 3 (eO si.k.ps)::aa B.core.wb 313 (rows e4 si.k.ps)::aa B.core.xb 4 (e0 si.k.ps)::Sl 100 1 A.ck si.k.mr.length A.cM (c4 si.k.mr)::Sl 102 3 A.adE si.k.ev.length A.cE (rows bW si.k.ev)::L)) a8;replace I:=aW.fold I B.core si.k A;refine aZ 0 (λw0 V=>Rd V B.pb 0 (eP p B (eW p si.k.mr.length (cr si.k.ls si.k.mr.length) si.g))) [7,8] [0,1,2,4,5,6,3003,1007,1008,1009] E I λa w E I hH=>?_;have hC:=hH.at w (I.ai (b:=B.pb));refine RH 6 E I hH hC λa E=>?_;refine QH E (λw hc=>ag E (hc 0 _ rfl)) hC λa E=>?_;refine RH 0 E I hH hC λa E=>?_;refine SS E (bT E underlying49 rfl Ty.t49 (A4 hC)) λa E=>?_;refine RH 0 E I hH hC λa E=>?_;refine CL 0 E I (XU I) λa w E I=>?_;replace hC:=hH.at w (I.ai (b:=B.pb));refine RH 0 E I hH hC λa E=>?_;refine CL 0 E I (aap (I.pick (aW B.core si.k)) j4.wc (by omega) (DF _)) λa w E I=>?_;refine RN 0 E I λa E=>?_;exact⟨ax s.k-s.k.mr.length-(i+1),by omega,i+1,⟨rfl,by omega⟩,E.ab [0],by
   rw[e6];show U W w (bX W B p ⟨lg si.k (jf (gj (eW p si.k.mr.length (cr si.k.ls si.k.mr.length) si.g))),eW p si.k.mr.length (cr si.k.ls si.k.mr.length) si.g⟩::L);exact (bX.fold I B p ⟨lg si.k (jf (gj (eW p si.k.mr.length (cr si.k.ls si.k.mr.length) si.g))),eW p si.k.mr.length (cr si.k.ls si.k.mr.length) si.g⟩).sub⟩
 refine RT 0 E I ?_;obtain rfl:i=ax s.k-s.k.mr.length:=by
  have:aU si.k.ls=ax si.k:=rfl;omega
 refine⟨rfl,?_⟩;rw[ey,Fi];exact (bX.fold (aW.fold I B.core si.k A) B p si).sub
theorem aaM (I:U W w (bX W B p s::L))(hw:cw p s)(a1:dg p)(aE:p.title.size≤1000000000):Calls prog 71 #[pt B.pb,.int .u8 (x.toNat:Nat)] w λr V=>r=.returned (.int .i64 (dE p x s).1)∧U W V (bX W B p (dE p x s).2::L):=by
 have h1:=uo x s.k;have k7:=hw.toWP.more (hw.wc.al x) (hw.held.al x) h1.1 h1.2;replace I:=bX.open I;refine EN func71 ntmps71 rfl rfl λa E=>?_;refine CL 8 E I (aar (x:=x) (I.pick (aW B.core s.k)) hw.wc) λa w E I=>?_;refine RN 1 E I λa E=>?_;replace I:=bX.fold I B p ⟨(cW x s.k).2,s.g⟩;refine CL 2 E I (FO I k7 a1 aE) λa w E I=>?_;refine RT 3 E I ?_;exact⟨rfl,I⟩
theorem aaN (I:U W w (bX W B p s::L))(hw:cw p s)(a1:dg p)(aE:p.title.size≤1000000000)(hb:bs.length≤65536)(hc:bs.length≤c)(hp:∀ V,U W V L→a6 V ad bs.length bs) :
   Calls prog 110 #[pt B.pb,.slice ad bs.length c] w λr V=>r=.returned (.int .i64 (dz p bs s).1)∧U W V (bX W B p (dz p bs s).2::L):=by
 have h1:=ri bs s.k;have k7:=hw.toWP.more (hw.wc.recv bs).1 ((hw.wc.recv bs).2 hw.held) h1.1 h1.2;replace I:=bX.open I;refine EN func110 ntmps110 rfl rfl λa E=>?_;refine CL 8 E I (aaI (bs:=bs) (ad:=ad) (c:=c) (I.pick (aW B.core s.k)) hw.wc hw.held hb hc (λV dd=>hp V dd.tail.tail)) λa w E I=>?_;refine RN 1 E I λa E=>?_;replace I:=bX.fold I B p ⟨(dh bs s.k).2,s.g⟩;refine CL 2 E I (FO I k7 a1 aE) λa w E I=>?_;refine RT 3 E I ?_;exact⟨rfl,I⟩
theorem Mp (I:U W w (bX W B p s::L))(hw:cw p s):Calls prog 77 #[pt B.pb] w λr V=>∃ ad c,r=.returned (.tuple #[.slice ad 128 c,.int .i64 (lk s).2])∧U W V (Sl 5 1 ad 128 c (bc (lk s).1)::bX W B p s::L):=by
 replace I:=bX.open I;refine EN func77 ntmps77 rfl rfl λa E=>?_;refine aZ 4 (λw0 V=>Rd V B.pb 0 (eP p B s.g)) [4,8] [0,1,2,5,6,7,3003,3008,1004,1009,10,11] E I λa w E I hH=>?_;have hC:=hH.at w (I.ai (b:=B.pb));refine RH 6 E I hH hC λa E=>?_;refine QH E (λw hc=>bT E underlying49 rfl Ty.t49 (A4 hc)) hC λa E=>?_;refine QH E (λw hc=>ag E (hc 0 _ rfl)) hC λa E=>?_;refine RH 0 E I hH hC λa E=>?_;refine aY 0 E I (uf I) λad c a w E I=>?_;replace hC:=hH.at w (I.ai (b:=B.pb));refine RH 0 E I hH hC λa E=>?_;refine CL 0 E I (FF (I.pick (aW B.core s.k)) hw.wc) λa w E I=>?_;refine RN 2 E I λa E=>?_;refine RT 0 E I ?_;exact⟨ad,c,rfl,(bX.fold I B p s).sub (M:=Sl 5 1 ad 128 c (bc (gj s.g))::bX W B p s::L)⟩
theorem FP (I:U W w (bL C.lb C.lo C.cL k.ls::aa C.cb 72 (cU k C A)::L))(hk:WC k):Calls prog 20 #[pt C.cb] w λr V=>r=.returned (.int .i64 (aF k))∧U W V (bL C.lb C.lo C.cL k.ls::aa C.cb 72 (cU k C A)::L):=by
 have dQ:k.me<k.ls.length:=by rw[hk.ls];exact hk.me
 refine EN func20 ntmps20 rfl rfl λa E=>?_;refine bQ 3 [8] [0,1,2,4,5,6,7,3003,1008,9,10,1011,12,13] E I λa w E I hH hC=>?_;obtain⟨xs,a8,I⟩:=bL.open I;have cj:xs.length=k.ls.length:=by rw[← a8,gK]
 obtain⟨mE,ol,y,FE,hy,oB,pC⟩:=(U.oD I).at (i:=k.me) (by omega);cases FE;have j3:aF k=y.2.2.length:=by
  show (k.ls.getD k.me []).length=_;rw[← a8,sZ hy]
 replace hH:=Hd.gf I;refine RH 11 E I hH hC λa E=>?_;refine SS E (ag E (oB)) λa E=>?_;rw[aM]at E;refine RH 2 E I hH hC λa E=>?_;refine RT 0 E I ?_;exact⟨by rw[j3],bL.close I a8⟩
theorem aaO (I:U W w (bX W B p s::L))(hw:cw p s)(a1:dg p)(aE:p.title.size≤1000000000)(fy:cR B.gs)(hT:a6 W B.adT B.gs.table.length B.gs.table):Calls prog 78 #[pt B.pb] w λr V=>∃ ad c,r=.returned (.tuple #[.slice ad 128 c,.int .i64 (fx p B.gs s).2])∧U W V (Sl 5 1 ad 128 c (bc (fx p B.gs s).1)::bX W B p s::L):=by
 have iB:s.k.ls.length≤8:=by rw[hw.wc.ls];exact hw.wc.n.2
 have ry:0<s.k.ls.length:=by rw[hw.wc.ls];have:=hw.wc.n;omega
 have gJ:=hw.wc.lM;have fo:ax s.k≤aF s.k:=hw.wc.nA;replace I:=bX.open I;refine EN func78 ntmps78 rfl rfl λa E=>?_;refine aZ 5 (λw0 V=>Rd V B.pb 0 (eP p B s.g)) [4,8] [0,1,2,5,6,7,3003,3008,1004,1009,10] E I λa w E I hH=>?_;have hC:=hH.at w (I.ai (b:=B.pb));refine RH 6 E I hH hC λa E=>?_;refine QH E (λw hc=>ag E (hc 0 _ rfl)) hC λa E=>?_;refine QH E (λw hc=>ag E (hc 0 _ rfl)) hC λa E=>?_;refine RH 0 E I hH hC λa E=>?_;refine CL 0 E I (rv (I.pick (aW B.core s.k)) hw.wc) λa w E I=>?_;replace hC:=hH.at w (I.ai (b:=B.pb));refine RH 0 E I hH hC λa E=>?_;refine CL 0 E I (FF I hw.wc) λa w E I=>?_;refine RN 1 E I λa E=>?_;refine IF 0 E I (λaj a E=>?_) λaj a E=>?_
 ·
  replace I:=bX.fold I B p s;refine aY 2 E I (Mp I hw) λad c a w E I=>?_;refine RT 4 E I ?_;refine⟨ad,c,?_,?_⟩
  ·rw[fx,ak (by omega)]
  ·rw[fx,ak (by omega)];exact I
 refine RN 1 E I λa E=>?_;obtain⟨A,I⟩:=aW.open (I.pick (aW B.core s.k));refine aZ 0 (λw0 V=>Rd V B.pb 0 (eP p B s.g)∧Rd V B.core.cb 0 (cU s.k B.core A)) [7,11,12,16,17,18,19,23,27,28,29,31] [0,1,2,4,5,6,8,9,10,13,14,15,20,21,22,24,25,26,3003,3007,3011,3016,3017,3018,3019,3023,3027,2012,2028,2029,2030,1031,1032] E I λa w E I hH=>?_;have hC:=hH.at w ⟨I.ai (b:=B.pb),I.ai (b:=B.core.cb)⟩;refine RH 18 E I hH hC λa E=>?_;refine QH E (λw hc=>bT E underlying45 rfl Ty.t45 (Mn hc.1)) hC λa E=>?_;refine QH E (λw hc=>bT E underlying49 rfl Ty.t49 (A4 hc.1)) hC λa E=>?_;refine QH E (λw hc=>ag E (hc.1 0 _ rfl)) hC λa E=>?_;refine QH E (λw hc=>ag E (hc.1 0 _ rfl)) hC λa E=>?_;refine RH 2 E I hH hC λa E=>?_;refine QH E (λw hc=>ag E (hc.2 10 _ rfl)) hC λa E=>?_;refine QH E (λw hc=>bT E underlying47 rfl Ty.t47 (aaK hc.1)) hC λa E=>?_;refine QH E (λw hc=>ag E (hc.1 0 _ rfl)) hC λa E=>?_;refine RH 0 E I hH hC λa E=>?_;refine DN [(12,[2028,2029,2030,1031,1032]),(31,[1012,1028,1029,1030,1032])] (by kernel_rfl) rfl ⟨⟨_,rfl,?_⟩,⟨_,rfl,?_⟩,trivial⟩
 ·
  refine RH 0 E I hH hC λa E=>?_;refine CL 0 E I (FN ((I.pick (aa B.core.cb 72 (cU s.k B.core A))).pick (bL B.core.lb B.core.lo B.core.cL s.k.ls)) hw.wc) λa w E I=>?_;replace hC:=hH.at w ⟨I.ai (b:=B.pb),I.ai (b:=B.core.cb)⟩;refine RH 0 E I hH hC λa E=>?_;refine DN [(28,[2029,2030,1031,1032]),(31,[1028,1029,1030,1032])] (by kernel_rfl) rfl ⟨⟨_,rfl,?_⟩,⟨_,rfl,?_⟩,trivial⟩
  ·
   refine RH 0 E I hH hC λa E=>?_;refine CL 0 E I (FP ((I.pick (aa B.core.cb 72 (cU s.k B.core A))).pick (bL B.core.lb B.core.lo B.core.cL s.k.ls)) hw.wc) λa w E I=>?_;replace hC:=hH.at w ⟨I.ai (b:=B.pb),I.ai (b:=B.core.cb)⟩;refine RH 0 E I hH hC λa E=>?_;refine DN [(29,[2030,1031,1032]),(31,[1029,1030,1032])] (by kernel_rfl) rfl ⟨⟨_,rfl,?_⟩,⟨_,rfl,?_⟩,trivial⟩
   ·
    obtain⟨xs,a8,I⟩:=bL.open (I.pick (bL B.core.lb B.core.lo B.core.cL s.k.ls));have cj:xs.length=s.k.ls.length:=by rw[← a8,gK]
    rw[← cj]at E;refine RH 0 E I hH hC λa E=>?_;refine jI 0 E I (AP (xs:=xs) (b:=B.gs) (r:=0) (to:=aF s.k) (by decide) I fy (by omega) (by omega) (by rw[a8];exact hw.wc.m5) gJ (λV dd=>U.oD dd) (λV dd=>hT.gf dd)) λfS ga X a w E ⟨⟨sU,ic⟩,I⟩=>?_;replace hC:=hH.at w ⟨I.ai (b:=B.pb),I.ai (b:=B.core.cb)⟩;have mq:=ic rfl;subst mq;rw[wi,a8]at I;rw[a8]at E;have jd:(dt B.gs s.k.ls (aF s.k)).length=aF s.k-aU s.k.ls:=vT _ _ _;have mx:∀ b∈dt B.gs s.k.ls (aF s.k),b.length≤1099511627776:=λb hb=>by
     rw[dt,c1]at hb;obtain⟨i,_,rfl⟩:=hb;rw[m3,iQ,bd];omega
    obtain⟨ys,jO,l5,I⟩:=b9.open I;refine RH 0 E I hH hC λa E=>?_;refine DN [(30,[1031,1032]),(31,[1030,1032])] (by kernel_rfl) rfl ⟨⟨_,rfl,?_⟩,⟨_,rfl,?_⟩,trivial⟩
    ·
     refine RH 0 E I hH hC λa E=>?_;refine CL 0 E I (yv (P:=dt B.gs s.k.ls (aF s.k)) (zs:=ys) (fr:=ax s.k) (I.pick (aA W p B.aq B.cO)) jd a1 aE (hw.pv a1) ⟨by omega,mx⟩ jO (by omega) (λV dd=>U.lY (dd.sub (M:=Sl 22 1 fS (aF s.k-aU s.k.ls) ga (ys.map aM)::ah a7 ys::[])))) λa w E ⟨pg,I⟩=>?_;refine RN 0 E I λa E=>?_;refine eR E rfl I Ty.t49 rfl λb4 a w E I ho=>?_;clear ho;replace hC:=hH.at w ⟨I.ai (b:=B.pb),I.ai (b:=B.core.cb)⟩;refine RH 0 E I hH hC λa E=>?_;refine SA 0 E I λa w E I=>?_;refine RN 0 E I λa E=>?_;replace I:=bL.close (I.sub (M:=Sl 65 1 (some ⟨B.core.lb,B.core.lo,none⟩) s.k.ls.length B.core.cL (xs.map aM)::ah a7 xs::aa b4 49 (ints .i32 32 (foldI p (ax s.k) s.g (dt B.gs s.k.ls (aF s.k))))::aa B.pb 51 (eP p B s.g)::aA W p B.aq B.cO::aa B.core.cb 72 (cU s.k B.core A)::aa B.core.hb 3 (eZ s.k.ps)::aa B.core.dV 3 (eO s.k.ps)::aa B.core.wb 313 (rows e4 s.k.ps)::aa B.core.xb 4 (e0 s.k.ps)::Sl 100 1 A.ck s.k.mr.length A.cM (c4 s.k.mr)::Sl 102 3 A.adE s.k.ev.length A.cE (rows bW s.k.ev)::L)) a8;replace I:=aW.fold I B.core s.k A;refine aZ 1 (λw0 V=>Rd V b4 0 (ints .i32 32 (foldI p (ax s.k) s.g (dt B.gs s.k.ls (aF s.k))))∧Rd V B.pb 0 (eP p B s.g)) [1,5] [2,3,4,3000,3005,1001,1006,7,8] E I λa w E I hH=>?_;have hC:=hH.at w ⟨I.ai (b:=b4),I.ai (b:=B.pb)⟩;refine RH 3 E I hH hC λa E=>?_;refine QH E (λw hc=>bT E underlying49 rfl Ty.t49 (hc.1)) hC λa E=>?_;refine QH E (λw hc=>ag E (hc.2 0 _ rfl)) hC λa E=>?_;refine RH 0 E I hH hC λa E=>?_;refine aY 0 E I (uf I) λad2 c2 a w E I=>?_;replace hC:=hH.at w ⟨I.ai (b:=b4),I.ai (b:=B.pb)⟩;refine RH 0 E I hH hC λa E=>?_;refine CL 0 E I (rv (I.pick (aW B.core s.k)) hw.wc) λa w E I=>?_;refine RN 2 E I λa E=>?_;refine RT 0 E I ?_;refine⟨ad2,c2,?_,?_⟩
     ·rw[fx,ae (by omega)]
     ·rw[fx,ae (by omega)];exact (bX.fold I B p s).sub (M:=Sl 5 1 ad2 128 c2 (bc (gj (foldI p (ax s.k) s.g (dt B.gs s.k.ls (aF s.k)))))::bX W B p s::L)
    refine RH 0 E I hH hC λa E=>?_;refine eR E rfl I Ty.t49 rfl λb4 a w E I ho=>?_;clear ho;replace hC:=hH.at w ⟨I.ai (b:=B.pb),I.ai (b:=B.core.cb)⟩;refine RH 0 E I hH hC λa E=>?_;refine CL 0 E I (yv (P:=dt B.gs s.k.ls (aF s.k)) (zs:=ys) (fr:=ax s.k) (I.pick (aA W p B.aq B.cO)) jd a1 aE (hw.pv a1) ⟨by omega,mx⟩ jO (by omega) (λV dd=>U.lY (dd.sub (M:=Sl 22 1 fS (aF s.k-aU s.k.ls) ga (ys.map aM)::ah a7 ys::[])))) λa w E ⟨pg,I⟩=>?_;refine SA 0 E I λa w E I=>?_;refine RN 0 E I λa E=>?_;replace I:=bL.close (I.sub (M:=Sl 65 1 (some ⟨B.core.lb,B.core.lo,none⟩) s.k.ls.length B.core.cL (xs.map aM)::ah a7 xs::aa b4 49 (ints .i32 32 (foldI p (ax s.k) s.g (dt B.gs s.k.ls (aF s.k))))::aa B.pb 51 (eP p B s.g)::aA W p B.aq B.cO::aa B.core.cb 72 (cU s.k B.core A)::aa B.core.hb 3 (eZ s.k.ps)::aa B.core.dV 3 (eO s.k.ps)::aa B.core.wb 313 (rows e4 s.k.ps)::aa B.core.xb 4 (e0 s.k.ps)::Sl 100 1 A.ck s.k.mr.length A.cM (c4 s.k.mr)::Sl 102 3 A.adE s.k.ev.length A.cE (rows bW s.k.ev)::L)) a8;replace I:=aW.fold I B.core s.k A;refine aZ 1 (λw0 V=>Rd V b4 0 (ints .i32 32 (foldI p (ax s.k) s.g (dt B.gs s.k.ls (aF s.k))))∧Rd V B.pb 0 (eP p B s.g)) [1,5] [2,3,4,3000,3005,1001,1006,7,8] E I λa w E I hH=>?_;have hC:=hH.at w ⟨I.ai (b:=b4),I.ai (b:=B.pb)⟩;refine RH 3 E I hH hC λa E=>?_;refine QH E (λw hc=>bT E underlying49 rfl Ty.t49 (hc.1)) hC λa E=>?_;refine QH E (λw hc=>ag E (hc.2 0 _ rfl)) hC λa E=>?_;refine RH 0 E I hH hC λa E=>?_;refine aY 0 E I (uf I) λad2 c2 a w E I=>?_;replace hC:=hH.at w ⟨I.ai (b:=b4),I.ai (b:=B.pb)⟩;refine RH 0 E I hH hC λa E=>?_;refine CL 0 E I (rv (I.pick (aW B.core s.k)) hw.wc) λa w E I=>?_;refine RN 2 E I λa E=>?_;refine RT 0 E I ?_;refine⟨ad2,c2,?_,?_⟩
    ·rw[fx,ae (by omega)]
    ·rw[fx,ae (by omega)];exact (bX.fold I B p s).sub (M:=Sl 5 1 ad2 128 c2 (bc (gj (foldI p (ax s.k) s.g (dt B.gs s.k.ls (aF s.k)))))::bX W B p s::L)
   refine RH 0 E I hH hC λa E=>?_;refine eR E rfl I Ty.t49 rfl λb4 a w E I ho=>?_;clear ho;replace hC:=hH.at w ⟨I.ai (b:=B.pb),I.ai (b:=B.core.cb)⟩;obtain⟨xs,a8,I⟩:=bL.open (I.pick (bL B.core.lb B.core.lo B.core.cL s.k.ls));have cj:xs.length=s.k.ls.length:=by rw[← a8,gK]
   rw[← cj]at E;refine RH 0 E I hH hC λa E=>?_;refine jI 0 E I (AP (xs:=xs) (b:=B.gs) (r:=0) (to:=aF s.k) (by decide) I fy (by omega) (by omega) (by rw[a8];exact hw.wc.m5) gJ (λV dd=>U.oD dd) (λV dd=>hT.gf dd)) λfS ga X a w E ⟨⟨sU,ic⟩,I⟩=>?_;replace hC:=hH.at w ⟨I.ai (b:=B.pb),I.ai (b:=B.core.cb)⟩;have mq:=ic rfl;subst mq;rw[wi,a8]at I;rw[a8]at E;have jd:(dt B.gs s.k.ls (aF s.k)).length=aF s.k-aU s.k.ls:=vT _ _ _;have mx:∀ b∈dt B.gs s.k.ls (aF s.k),b.length≤1099511627776:=λb hb=>by
    rw[dt,c1]at hb;obtain⟨i,_,rfl⟩:=hb;rw[m3,iQ,bd];omega
   obtain⟨ys,jO,l5,I⟩:=b9.open I;refine RH 0 E I hH hC λa E=>?_;refine CL 0 E I (yv (P:=dt B.gs s.k.ls (aF s.k)) (zs:=ys) (fr:=ax s.k) (I.pick (aA W p B.aq B.cO)) jd a1 aE (hw.pv a1) ⟨by omega,mx⟩ jO (by omega) (λV dd=>U.lY (dd.sub (M:=Sl 22 1 fS (aF s.k-aU s.k.ls) ga (ys.map aM)::ah a7 ys::[])))) λa w E ⟨pg,I⟩=>?_;refine SA 0 E I λa w E I=>?_;refine RN 0 E I λa E=>?_;replace I:=bL.close (I.sub (M:=Sl 65 1 (some ⟨B.core.lb,B.core.lo,none⟩) s.k.ls.length B.core.cL (xs.map aM)::ah a7 xs::aa b4 49 (ints .i32 32 (foldI p (ax s.k) s.g (dt B.gs s.k.ls (aF s.k))))::aa B.pb 51 (eP p B s.g)::aA W p B.aq B.cO::aa B.core.cb 72 (cU s.k B.core A)::aa B.core.hb 3 (eZ s.k.ps)::aa B.core.dV 3 (eO s.k.ps)::aa B.core.wb 313 (rows e4 s.k.ps)::aa B.core.xb 4 (e0 s.k.ps)::Sl 100 1 A.ck s.k.mr.length A.cM (c4 s.k.mr)::Sl 102 3 A.adE s.k.ev.length A.cE (rows bW s.k.ev)::L)) a8;replace I:=aW.fold I B.core s.k A;refine aZ 1 (λw0 V=>Rd V b4 0 (ints .i32 32 (foldI p (ax s.k) s.g (dt B.gs s.k.ls (aF s.k))))∧Rd V B.pb 0 (eP p B s.g)) [1,5] [2,3,4,3000,3005,1001,1006,7,8] E I λa w E I hH=>?_;have hC:=hH.at w ⟨I.ai (b:=b4),I.ai (b:=B.pb)⟩;refine RH 3 E I hH hC λa E=>?_;refine QH E (λw hc=>bT E underlying49 rfl Ty.t49 (hc.1)) hC λa E=>?_;refine QH E (λw hc=>ag E (hc.2 0 _ rfl)) hC λa E=>?_;refine RH 0 E I hH hC λa E=>?_;refine aY 0 E I (uf I) λad2 c2 a w E I=>?_;replace hC:=hH.at w ⟨I.ai (b:=b4),I.ai (b:=B.pb)⟩;refine RH 0 E I hH hC λa E=>?_;refine CL 0 E I (rv (I.pick (aW B.core s.k)) hw.wc) λa w E I=>?_;refine RN 2 E I λa E=>?_;refine RT 0 E I ?_;refine⟨ad2,c2,?_,?_⟩
   ·rw[fx,ae (by omega)]
   ·rw[fx,ae (by omega)];exact (bX.fold I B p s).sub (M:=Sl 5 1 ad2 128 c2 (bc (gj (foldI p (ax s.k) s.g (dt B.gs s.k.ls (aF s.k)))))::bX W B p s::L)
  refine RH 0 E I hH hC λa E=>?_;refine eR E rfl I Ty.t49 rfl λb4 a w E I ho=>?_;clear ho;replace hC:=hH.at w ⟨I.ai (b:=B.pb),I.ai (b:=B.core.cb)⟩;refine RH 0 E I hH hC λa E=>?_;refine CL 0 E I (FP ((I.pick (aa B.core.cb 72 (cU s.k B.core A))).pick (bL B.core.lb B.core.lo B.core.cL s.k.ls)) hw.wc) λa w E I=>?_;replace hC:=hH.at w ⟨I.ai (b:=B.pb),I.ai (b:=B.core.cb)⟩;obtain⟨xs,a8,I⟩:=bL.open (I.pick (bL B.core.lb B.core.lo B.core.cL s.k.ls));have cj:xs.length=s.k.ls.length:=by rw[← a8,gK]
  rw[← cj]at E;refine RH 0 E I hH hC λa E=>?_;refine jI 0 E I (AP (xs:=xs) (b:=B.gs) (r:=0) (to:=aF s.k) (by decide) I fy (by omega) (by omega) (by rw[a8];exact hw.wc.m5) gJ (λV dd=>U.oD dd) (λV dd=>hT.gf dd)) λfS ga X a w E ⟨⟨sU,ic⟩,I⟩=>?_;replace hC:=hH.at w ⟨I.ai (b:=B.pb),I.ai (b:=B.core.cb)⟩;have mq:=ic rfl;subst mq;rw[wi,a8]at I;rw[a8]at E;have jd:(dt B.gs s.k.ls (aF s.k)).length=aF s.k-aU s.k.ls:=vT _ _ _;have mx:∀ b∈dt B.gs s.k.ls (aF s.k),b.length≤1099511627776:=λb hb=>by
   rw[dt,c1]at hb;obtain⟨i,_,rfl⟩:=hb;rw[m3,iQ,bd];omega
  obtain⟨ys,jO,l5,I⟩:=b9.open I;refine RH 0 E I hH hC λa E=>?_;refine CL 0 E I (yv (P:=dt B.gs s.k.ls (aF s.k)) (zs:=ys) (fr:=ax s.k) (I.pick (aA W p B.aq B.cO)) jd a1 aE (hw.pv a1) ⟨by omega,mx⟩ jO (by omega) (λV dd=>U.lY (dd.sub (M:=Sl 22 1 fS (aF s.k-aU s.k.ls) ga (ys.map aM)::ah a7 ys::[])))) λa w E ⟨pg,I⟩=>?_;refine SA 0 E I λa w E I=>?_;refine RN 0 E I λa E=>?_;replace I:=bL.close (I.sub (M:=Sl 65 1 (some ⟨B.core.lb,B.core.lo,none⟩) s.k.ls.length B.core.cL (xs.map aM)::ah a7 xs::aa b4 49 (ints .i32 32 (foldI p (ax s.k) s.g (dt B.gs s.k.ls (aF s.k))))::aa B.pb 51 (eP p B s.g)::aA W p B.aq B.cO::aa B.core.cb 72 (cU s.k B.core A)::aa B.core.hb 3 (eZ s.k.ps)::aa B.core.dV 3 (eO s.k.ps)::aa B.core.wb 313 (rows e4 s.k.ps)::aa B.core.xb 4 (e0 s.k.ps)::Sl 100 1 A.ck s.k.mr.length A.cM (c4 s.k.mr)::Sl 102 3 A.adE s.k.ev.length A.cE (rows bW s.k.ev)::L)) a8;replace I:=aW.fold I B.core s.k A;refine aZ 1 (λw0 V=>Rd V b4 0 (ints .i32 32 (foldI p (ax s.k) s.g (dt B.gs s.k.ls (aF s.k))))∧Rd V B.pb 0 (eP p B s.g)) [1,5] [2,3,4,3000,3005,1001,1006,7,8] E I λa w E I hH=>?_;have hC:=hH.at w ⟨I.ai (b:=b4),I.ai (b:=B.pb)⟩;refine RH 3 E I hH hC λa E=>?_;refine QH E (λw hc=>bT E underlying49 rfl Ty.t49 (hc.1)) hC λa E=>?_;refine QH E (λw hc=>ag E (hc.2 0 _ rfl)) hC λa E=>?_;refine RH 0 E I hH hC λa E=>?_;refine aY 0 E I (uf I) λad2 c2 a w E I=>?_;replace hC:=hH.at w ⟨I.ai (b:=b4),I.ai (b:=B.pb)⟩;refine RH 0 E I hH hC λa E=>?_;refine CL 0 E I (rv (I.pick (aW B.core s.k)) hw.wc) λa w E I=>?_;refine RN 2 E I λa E=>?_;refine RT 0 E I ?_;refine⟨ad2,c2,?_,?_⟩
  ·rw[fx,ae (by omega)]
  ·rw[fx,ae (by omega)];exact (bX.fold I B p s).sub (M:=Sl 5 1 ad2 128 c2 (bc (gj (foldI p (ax s.k) s.g (dt B.gs s.k.ls (aF s.k)))))::bX W B p s::L)
 refine RH 0 E I hH hC λa E=>?_;refine eR E rfl I Ty.t49 rfl λb4 a w E I ho=>?_;clear ho;replace hC:=hH.at w ⟨I.ai (b:=B.pb),I.ai (b:=B.core.cb)⟩;refine RH 0 E I hH hC λa E=>?_;refine CL 0 E I (FN ((I.pick (aa B.core.cb 72 (cU s.k B.core A))).pick (bL B.core.lb B.core.lo B.core.cL s.k.ls)) hw.wc) λa w E I=>?_;replace hC:=hH.at w ⟨I.ai (b:=B.pb),I.ai (b:=B.core.cb)⟩;refine RH 0 E I hH hC λa E=>?_;refine CL 0 E I (FP ((I.pick (aa B.core.cb 72 (cU s.k B.core A))).pick (bL B.core.lb B.core.lo B.core.cL s.k.ls)) hw.wc) λa w E I=>?_;replace hC:=hH.at w ⟨I.ai (b:=B.pb),I.ai (b:=B.core.cb)⟩;obtain⟨xs,a8,I⟩:=bL.open (I.pick (bL B.core.lb B.core.lo B.core.cL s.k.ls));have cj:xs.length=s.k.ls.length:=by rw[← a8,gK]
 rw[← cj]at E;refine RH 0 E I hH hC λa E=>?_;refine jI 0 E I (AP (xs:=xs) (b:=B.gs) (r:=0) (to:=aF s.k) (by decide) I fy (by omega) (by omega) (by rw[a8];exact hw.wc.m5) gJ (λV dd=>U.oD dd) (λV dd=>hT.gf dd)) λfS ga X a w E ⟨⟨sU,ic⟩,I⟩=>?_;replace hC:=hH.at w ⟨I.ai (b:=B.pb),I.ai (b:=B.core.cb)⟩;have mq:=ic rfl;subst mq;rw[wi,a8]at I;rw[a8]at E;have jd:(dt B.gs s.k.ls (aF s.k)).length=aF s.k-aU s.k.ls:=vT _ _ _;have mx:∀ b∈dt B.gs s.k.ls (aF s.k),b.length≤1099511627776:=λb hb=>by
  rw[dt,c1]at hb;obtain⟨i,_,rfl⟩:=hb;rw[m3,iQ,bd];omega
 obtain⟨ys,jO,l5,I⟩:=b9.open I;refine RH 0 E I hH hC λa E=>?_;refine CL 0 E I (yv (P:=dt B.gs s.k.ls (aF s.k)) (zs:=ys) (fr:=ax s.k) (I.pick (aA W p B.aq B.cO)) jd a1 aE (hw.pv a1) ⟨by omega,mx⟩ jO (by omega) (λV dd=>U.lY (dd.sub (M:=Sl 22 1 fS (aF s.k-aU s.k.ls) ga (ys.map aM)::ah a7 ys::[])))) λa w E ⟨pg,I⟩=>?_;refine SA 0 E I λa w E I=>?_;refine RN 0 E I λa E=>?_;replace I:=bL.close (I.sub (M:=Sl 65 1 (some ⟨B.core.lb,B.core.lo,none⟩) s.k.ls.length B.core.cL (xs.map aM)::ah a7 xs::aa b4 49 (ints .i32 32 (foldI p (ax s.k) s.g (dt B.gs s.k.ls (aF s.k))))::aa B.pb 51 (eP p B s.g)::aA W p B.aq B.cO::aa B.core.cb 72 (cU s.k B.core A)::aa B.core.hb 3 (eZ s.k.ps)::aa B.core.dV 3 (eO s.k.ps)::aa B.core.wb 313 (rows e4 s.k.ps)::aa B.core.xb 4 (e0 s.k.ps)::Sl 100 1 A.ck s.k.mr.length A.cM (c4 s.k.mr)::Sl 102 3 A.adE s.k.ev.length A.cE (rows bW s.k.ev)::L)) a8;replace I:=aW.fold I B.core s.k A;refine aZ 1 (λw0 V=>Rd V b4 0 (ints .i32 32 (foldI p (ax s.k) s.g (dt B.gs s.k.ls (aF s.k))))∧Rd V B.pb 0 (eP p B s.g)) [1,5] [2,3,4,3000,3005,1001,1006,7,8] E I λa w E I hH=>?_;have hC:=hH.at w ⟨I.ai (b:=b4),I.ai (b:=B.pb)⟩;refine RH 3 E I hH hC λa E=>?_;refine QH E (λw hc=>bT E underlying49 rfl Ty.t49 (hc.1)) hC λa E=>?_;refine QH E (λw hc=>ag E (hc.2 0 _ rfl)) hC λa E=>?_;refine RH 0 E I hH hC λa E=>?_;refine aY 0 E I (uf I) λad2 c2 a w E I=>?_;replace hC:=hH.at w ⟨I.ai (b:=b4),I.ai (b:=B.pb)⟩;refine RH 0 E I hH hC λa E=>?_;refine CL 0 E I (rv (I.pick (aW B.core s.k)) hw.wc) λa w E I=>?_;refine RN 2 E I λa E=>?_;refine RT 0 E I ?_;refine⟨ad2,c2,?_,?_⟩
 ·rw[fx,ae (by omega)]
 ·rw[fx,ae (by omega)];exact (bX.fold I B p s).sub (M:=Sl 5 1 ad2 128 c2 (bc (gj (foldI p (ax s.k) s.g (dt B.gs s.k.ls (aF s.k)))))::bX W B p s::L)
theorem aaP {n me aK bt:Nat}{id ba order ct workers room:Int}(I:U W w (aA W p adP cP::L))(hm:eN ⟨n,me,id,aK,bt,ba,order,ct,workers,room⟩)(a1:dg p)(aE:p.title.size≤1000000000) :
   Calls prog 46 #[.agg (cc ⟨n,me,id,aK,bt,ba,order,ct,workers,room⟩).toArray,.agg (bP p adP cP).toArray,.slice adT tb.length cT] w λr V=>∃ B:fT,r=.returned (pt B.pb)∧(B.gs=⟨ba,order,tb⟩∧B.adT=adT)∧U W V (bX W B p (ez p ⟨n,me,id,aK,bt,ba,order,ct,workers,room⟩)::L):=by
 refine EN func46 ntmps46 rfl rfl λa E=>?_;refine BX 1 E I λb3 a w E I=>?_;change U W w (aa b3 28 (cc ⟨n,me,id,aK,bt,ba,order,ct,workers,room⟩)::_) at I;refine BX 0 E I λb4 a w E I=>?_;change U W w (aa b4 45 [.string p.title,.slice adP p.ops.length cP]::_) at I;refine aZ 2 (λw0 V=>Rd V b3 0 (cc ⟨n,me,id,aK,bt,ba,order,ct,workers,room⟩)∧Rd V b4 0 [.string p.title,.slice adP p.ops.length cP]) [1,2,4,6,8] [3,5,7,3000,3002,3004,3006,3008,1001,9,1010,11] E I λa w E I hH=>?_;have hC:=hH.at w ⟨I.ai (b:=b3),I.ai (b:=b4)⟩;refine RH 3 E I hH hC λa E=>?_;refine QH E (λw hc=>bT E underlying28 rfl Ty.t28 (hc.1)) hC λa E=>?_;refine QH E (λw hc=>bT E underlying45 rfl Ty.t45 (hc.2)) hC λa E=>?_;refine QH E (λw hc=>ag E (hc.1 5 _ rfl)) hC λa E=>?_;refine QH E (λw hc=>ag E (hc.1 6 _ rfl)) hC λa E=>?_;refine RH 1 E I hH hC λa E=>?_;refine bg 0 E I (aay I hm) λBc a w E I=>?_;replace hC:=hH.at w ⟨I.ai (b:=b3),I.ai (b:=b4)⟩;refine RH 1 E I hH hC λa E=>?_;refine wP E rfl I rfl λsx a w E I ho=>?_;clear ho;change U W w (aa sx 51 (eP p ⟨sx,Bc,adP,cP,adT,cT,⟨ba,order,tb⟩⟩ ot)::_) at I;refine RN 1 E I λa E=>?_;replace I:=bX.fold I ⟨sx,Bc,adP,cP,adT,cT,⟨ba,order,tb⟩⟩ p ⟨fg ⟨n,me,id,aK,bt,ba,order,ct,workers,room⟩,ot⟩;refine CL 2 E I (FO I (vZ hm) a1 aE) λa w E I=>?_;refine RT 3 E I ?_;have h9:U W w (bX W ⟨sx,Bc,adP,cP,adT,cT,⟨ba,order,tb⟩⟩ p (ez p ⟨n,me,id,aK,bt,ba,order,ct,workers,room⟩)::_):=I;exact⟨⟨sx,Bc,adP,cP,adT,cT,⟨ba,order,tb⟩⟩,rfl,⟨rfl,rfl⟩,h9.sub⟩
end
end
section
section
variable {W w:World}{L:List SP}{e:jy}
theorem aaQ (I:U W w L):Calls prog 79 #[.agg (bW e).toArray,.agg (bW e).toArray] w λr V=>r=.returned (.bool true)∧U W V L:=by
 refine EN func79 ntmps79 rfl rfl λa E=>?_;refine BX 1 E I λb2 a w E I=>?_;change U W w (aa b2 102 [.int .i64 e.1,.int .i64 e.2.1,.int .i64 e.2.2]::_) at I;refine BX 0 E I λb3 a w E I=>?_;change U W w (aa b3 102 [.int .i64 e.1,.int .i64 e.2.1,.int .i64 e.2.2]::_) at I;refine RN 8 E I λa E=>?_;rw[dk (by omega)]at E;refine RN 7 E I λa E=>?_;rw[dk (by omega)]at E;refine RT 7 E I ?_;exact⟨by simp,I.sub⟩
end
end
section
theorem Mq {k:Ks}(h:WC k):(bo k).1.length≤1000:=by
 have hn:=h.n;have hl:∀ k:Ks,(bH k).length≤k.n:=λk=>by
  rw[bH];exact gN (length_filter_le _ _) (by rw[length_range];exact bf _)
 unfold bo;split
 ·simp
 ·simp only;split
  ·simp
  ·rw[bd];have:=hl { k with now:=k.now+1 };have h2:({ k with now:=k.now+1 }:Ks).n=k.n:=rfl;omega
theorem Mr {k:Ks}(h:WC k):(bu k).1.length≤1000:=by
 have hn:=h.n;unfold bu;split
 ·simp
 ·rw[bd,bH];have h2:=length_filter_le (λi=>decide (i≠k.me)) (List.range k.n);rw[length_range]at h2;show ((List.range k.n).filter (·≠k.me)).length≤1000;omega
theorem aaR (p:Pr)(x:UInt8){s:Pl}(h:cw p s):(dE p x s).2.k.now=s.k.now:=by
 have he:=uo x s.k;have h1:=(Ky (h.toWP.more (h.wc.al x) (h.held.al x) he.1 he.2)).2.2.2.2.2.1;rw[dE,h1];show (cW x s.k).2.now=_;by_cases h0:(cW x s.k).1=0
 ·obtain⟨_,_,_,h4⟩:=uj h0;rw[h4]
 ·rw[uk h0]
theorem aaS (k:Ks)(q:Pk):(fR k q).now=k.now:=by
 unfold fR;split
 ·rfl
 ·obtain⟨ps,ev,h9,_⟩:=vV { k with ls:=k.ls.set q.aV.toNat (ds (k.ls.getD q.aV.toNat []) q.first.toNat q.al),ps:=k.ps.set q.aV.toNat (fQ k.now (aF k) q (ar k q.aV.toNat)) };rw[h9]
theorem aaT (p:Pr)(bs:List UInt8){s:Pl}(h:cw p s):(dz p bs s).2.k.now=s.k.now:=by
 have he:=ri bs s.k;have h1:=(Ky (h.toWP.more (h.wc.recv bs).1 ((h.wc.recv bs).2 h.held) he.1 he.2)).2.2.2.2.2.1;rw[dz,h1];show (dh bs s.k).2.now=_;by_cases h0:(dh bs s.k).1=0
 ·obtain⟨q,_,_,_,_,_,h6⟩:=Aq h0;rw[h6,aaS]
 ·rw[vX h0]
theorem aaU (k:Ks):(bo k).2.now≤k.now+1:=by
 rcases vY k with h1 | ⟨hc,h1 | ⟨i,hi,h1⟩⟩ <;> rw[h1]
 ·exact Nat.le_succ _
 ·exact bf _
 ·exact bf _
theorem aaV (k:Ks):(bu k).2.now=k.now:=by
 unfold bu;split <;> rfl
structure A5 (W:World)(t:TypeId)(ad:Addr)(uD uE uF uG uH uI uJ uK:FuncId)(p:Pr)(gs:Gs)(J:Nat→Pl→SP):Prop where
 FQ : oT prog t "Press" uD
 cP:g4 prog uD=true
 FR : oT prog t "Receive" uE
 FT:g4 prog uE=true
 FU : oT prog t "Tick" uF
 cT:g4 prog uF=true
 FV : oT prog t "Quit" uG
 FW:g4 prog uG=true
 FX : oT prog t "Events" uH
 cE:g4 prog uH=true
 A6 : oT prog t "Confirmed" uI
 A7:g4 prog uI=true
 FY : oT prog t "Display" uJ
 FZ:g4 prog uJ=true
 F0 : oT prog t "Closed" uK
 F1:g4 prog uK=true
 al:∀ (w:World) (L:List SP) (i:Nat) (s:Pl) (x:UInt8),i≤1000000→cw p s→U W w (J i s::L)→Calls prog uD (List.toArray [.pointer (some ad),.int .u8 (x.toNat:Nat)]) w λr V=>r=.returned (.int .i64 (dE p x s).1)∧U W V (J (i+1) (dE p x s).2::L)
 recv:∀ (w:World) (L:List SP) (i:Nat) (s:Pl) (bs:List UInt8) (a:Option Addr) (c:Nat),i≤1000000→cw p s→bs.length≤65536→bs.length≤c→(∀ V,U W V L→a6 V a bs.length bs)→U W w (J i s::L)→Calls prog uE (List.toArray [.pointer (some ad),.slice a bs.length c]) w λr V=>r=.returned (.int .i64 (dz p bs s).1)∧U W V (J (i+1) (dz p bs s).2::L)
 tick:∀ (w:World) (L:List SP) (i:Nat) (s:Pl),i≤1000000→cw p s→s.k.now≤1000000→U W w (J i s::L)→Calls prog uF (List.toArray [.pointer (some ad)]) w λr V=>∃ a c,r=.returned (.slice a (bo s.k).1.length c)∧U W V (cu 124 a (bo s.k).1.length c (bo s.k).1::J (i+1) ⟨(bo s.k).2,s.g⟩::L)
 ko:∀ (w:World) (L:List SP) (i:Nat) (s:Pl),i≤1000000→cw p s→U W w (J i s::L)→Calls prog uG (List.toArray [.pointer (some ad)]) w λr V=>∃ a c,r=.returned (.slice a (bu s.k).1.length c)∧U W V (cu 124 a (bu s.k).1.length c (bu s.k).1::J (i+1) ⟨(bu s.k).2,s.g⟩::L)
 events:∀ (w:World) (L:List SP) (i:Nat) (s:Pl),i≤1000000→cw p s→U W w (J i s::L)→Calls prog uH (List.toArray [.pointer (some ad)]) w λr V=>∃ a c,r=.returned (.slice a s.k.ev.length c)∧U W V (Sl 135 1 a s.k.ev.length c (s.k.ev.map cx)::J (i+1) ⟨{ s.k with ev:=[] },s.g⟩::L)
 A8:∀ (w:World) (L:List SP) (i:Nat) (s:Pl),i≤1000000→cw p s→U W w (J i s::L)→Calls prog uI (List.toArray [.pointer (some ad)]) w λr V=>∃ a c,r=.returned (.tuple #[.slice a 128 c,.int .i64 (lk s).2])∧U W V (Sl 5 1 a 128 c (bc (lk s).1)::J i s::L)
 F2:∀ (w:World) (L:List SP) (i:Nat) (s:Pl),i≤1000000→cw p s→U W w (J i s::L)→Calls prog uJ (List.toArray [.pointer (some ad)]) w λr V=>∃ a c,r=.returned (.tuple #[.slice a 128 c,.int .i64 (fx p gs s).2])∧U W V (Sl 5 1 a 128 c (bc (fx p gs s).1)::J i s::L)
 closed:∀ (w:World) (L:List SP) (i:Nat) (s:Pl),i≤1000000→cw p s→U W w (J i s::L)→Calls prog uK (List.toArray [.pointer (some ad)]) w λr V=>r=.returned (.bool s.k.cl)∧U W V (J i s::L)
section
variable {W w:World}{L:List SP}{i:Nat}{t:TypeId}{ad:Addr}{uD uE uF uG uH uI uJ uK:FuncId}{p:Pr}{gs:Gs}{J:Nat→Pl→SP}{B:fT}{s:Pl}{b:Bool}
theorem aaW (M:A5 W t ad uD uE uF uG uH uI uJ uK p gs J)(hi:i≤1000000)(I:U W w (J i s::bX W B p s::L))(hw:cw p s)(a1:dg p)(aE:p.title.size≤1000000000)(fy:cR B.gs)(hbg:B.gs=gs)(hT:a6 W B.adT B.gs.table.length B.gs.table) :
   Calls prog 53 #[.iface t (.pointer (some ad)),pt B.pb] w λe V=>e=.returned (.bool true)∧U W V (J i s::bX W B p s::L):=by
 subst hbg;refine EN func53 ntmps53 rfl rfl λa E=>?_;refine RN 4 E I λa E=>?_;refine js E rfl M.A6 M.A7 rfl (M.A8 _ _ i s hi hw I) (by rfl) ?_;clear E I;rintro e w ⟨cZ,dK,rfl,I⟩;refine⟨_,rfl,λa E=>?_⟩;refine aY 7 E I (Mp (I.pick (bX W B p s)) hw) λdT c2 a w E I=>?_;refine RN 7 E I λa E=>?_;refine js E rfl M.FY M.FZ rfl (M.F2 _ _ i s hi hw (I.pick (J i s))) (by rfl) ?_;clear E I;rintro e w ⟨a3,dC,rfl,I⟩;refine⟨_,rfl,λa E=>?_⟩;refine aY 7 E I (aaO (I.pick (bX W B p s)) hw a1 aE fy hT) λa4 g8 a w E I=>?_;refine RN 5 E I λa E=>?_;have cg:(lk s).1.length=128:=tY _;have ma:(fx p B.gs s).1.length=128:=by
  rw[fx];split
  ·exact tY _
  ·exact tY _
 replace I:=I.sub (M:=Sl 5 1 a4 128 g8 (bc (fx p B.gs s).1)::Sl 5 1 a3 128 dC (bc (fx p B.gs s).1)::Sl 5 1 dT 128 c2 (bc (lk s).1)::Sl 5 1 cZ 128 dK (bc (lk s).1)::bX W B p s::J i s::L);obtain⟨A,I⟩:∃ A,U W w (Sl 5 1 a4 128 g8 (bc (fx p B.gs s).1)::Sl 5 1 a3 128 dC (bc (fx p B.gs s).1)::Sl 5 1 dT 128 c2 (bc (lk s).1)::Sl 5 1 cZ 128 dK (bc (lk s).1)::aa B.core.cb 72 (cU s.k B.core A)::bL B.core.lb B.core.lo B.core.cL s.k.ls::aa B.core.hb 3 (eZ s.k.ps)::aa B.core.dV 3 (eO s.k.ps)::aa B.core.wb 313 (rows e4 s.k.ps)::aa B.core.xb 4 (e0 s.k.ps)::Sl 100 1 A.ck s.k.mr.length A.cM (c4 s.k.mr)::Sl 102 3 A.adE s.k.ev.length A.cE (rows bW s.k.ev)::aa B.pb 51 (eP p B s.g)::aA W p B.aq B.cO::J i s::L):=by
  obtain⟨A,h⟩:=aW.open ((bX.open (I.pick (bX W B p s))).pick (aW B.core s.k));exact⟨A,h.sub⟩
 refine aZ 1 (λw0 V=>((a6 V cZ 128 (lk s).1∧a6 V dT 128 (lk s).1)∧a6 V a3 128 (fx p B.gs s).1∧a6 V a4 128 (fx p B.gs s).1)∧Rd V B.pb 0 (eP p B s.g)∧Rd V B.core.cb 0 (cU s.k B.core A)) [7,19,24] [0,1,2,3,4,6,3005,1007,8,9,10,11,12,13,14,15,16,18,3017,1019,20,21,22,23,25,26,27,3028,29,30,3031,1024,32,33,34] E I λa w E I hH=>?_;have hC:=hH.at w ⟨⟨⟨I.cF cZ _ rfl cg,I.cF dT _ rfl cg⟩,I.cF a3 _ rfl ma,I.cF a4 _ rfl ma⟩,I.ai (b:=B.pb),I.ai (b:=B.core.cb)⟩;refine RH 4 E I hH hC λa E=>?_;rw[dk (by omega)]at E;refine RH 2 E I hH hC λa E=>?_;refine QH E (λw hc=>lV E underlying22 underlying5 underlying9 (hc.1.1.1)) hC λa E=>?_;refine RH 0 E I hH hC λa E=>?_;refine bE E (cS E rfl (s:=36)) (lV E underlying22 underlying5 underlying9 (hC.1.1.2)) rfl λa E=>?_;refine RH 0 E I hH hC λa E=>?_;refine QP E (λw=>rL E) λa E=>?_;rw[qI,beq_self_eq_true]at E;refine RH 2 E I hH hC λa E=>?_;replace E:=E.ef 43;refine RH 5 E I hH hC λa E=>?_;rw[dk (by omega)]at E;refine RH 2 E I hH hC λa E=>?_;refine QH E (λw hc=>lV E underlying22 underlying5 underlying9 (hc.1.2.1)) hC λa E=>?_;refine RH 0 E I hH hC λa E=>?_;refine bE E (cS E rfl (s:=48)) (lV E underlying22 underlying5 underlying9 (hC.1.2.2)) rfl λa E=>?_;refine RH 0 E I hH hC λa E=>?_;refine QP E (λw=>rL E) λa E=>?_;rw[qI,beq_self_eq_true]at E;refine RH 2 E I hH hC λa E=>?_;replace E:=E.ef 55;refine RH 4 E I hH hC λa E=>?_;refine QH E (λw hc=>ag E (hc.2.1 0 _ rfl)) hC λa E=>?_;refine RH 2 E I hH hC λa E=>?_;refine QH E (λw hc=>ag E (hc.2.2 18 _ rfl)) hC λa E=>?_;refine RH 0 E I hH hC λa E=>?_;refine js E (cS E rfl (s:=55)) M.F0 M.F1 rfl (M.closed _ _ i s hi hw (I.pick (J i s))) (by rfl) ?_;clear E I;rintro e w ⟨rfl,I⟩;refine⟨_,rfl,λa E=>?_⟩;replace hC:=hH.at w ⟨⟨⟨I.cF cZ _ rfl cg,I.cF dT _ rfl cg⟩,I.cF a3 _ rfl ma,I.cF a4 _ rfl ma⟩,I.ai (b:=B.pb),I.ai (b:=B.core.cb)⟩;refine RH 3 E I hH hC λa E=>?_;refine RT 0 E I ?_;refine⟨by simp,?_⟩;exact (bX.fold (aW.fold I B.core s.k A) B p s).sub (M:=J i s::bX W B p s::L)
set_option maxHeartbeats 4000000 in
end
end
section
structure Wd where
 ps:List Pl
 net:List Ml
 ev:List (List jy)
structure fU where
 fn:Int
 a:Int
 b:Int
 n:Int
def A9:Pl:=⟨fg ⟨0,0,0,0,0,0,0,0,0,0⟩,ot⟩
def an (v:Wd)(i:Nat):Pl:=v.ps.getD i A9
def fV (b:Int):UInt8:=UInt8.ofNat (b%256).toNat
theorem aaX (b:Int):((fV b).toNat:Int)=b%256:=by
 have h1:=Int.emod_nonneg b (show (256:Int)≠0 by decide);have h2:=Int.emod_lt_of_pos b (show (0:Int)<256 by decide);rw[fV,UInt8.toNat_ofNat',Nat.mod_eq_of_lt (by omega)];omega
def oF (net:List Ml)(m:Ml):List Ml:=if net.length<300 then net++[m] else net
def dY (net l:List Ml):List Ml:=l.foldl oF net
theorem Ms (net:List Ml){l:List Ml}{i:Nat}(h:i<l.length):dY net (l.take (i+1))=oF (dY net (l.take i)) l[i]:=by
 rw[dY,← List.take_append_getElem h,foldl_append];rfl
theorem Ba:∀ {l net:List Ml} {m:Ml},m∈dY net l→m∈net∨m∈l
 | [],net,m,h=>.inl h
 | x::l,net,m,h=>by
  rcases Ba (l:=l) (net:=oF net x) h with h | h
  ·rw[oF]at h;split at h
   ·rcases eM.1 h with h | h
    ·exact .inl h
    ·exact .inr (by rw[mem_singleton.1 h];exact mem_cons_self)
   ·exact .inl h
  ·exact .inr (gO _ h)
theorem F3:∀ {l net:List Ml},net.length≤300→(dY net l).length≤300
 | [],net,h=>h
 | x::l,net,h=>F3 (l:=l) (net:=oF net x) (by
  rw[oF];split
  ·rw[aL,iP];omega
  ·exact h)
noncomputable def gb (p:Pr)(s:fU)(v:Wd):Int×Wd :=
 if s.n<0∨(v.net.length:Int)≤s.n then (3,v) else
 if s.fn=6 then (if s.a<0∨((v.net.getD s.n.toNat (0,0,[])).2.2.length:Int)≤s.a then (3,v) else
  (0,{ v with net:=v.net.set s.n.toNat ((v.net.getD s.n.toNat (0,0,[])).1,(v.net.getD s.n.toNat (0,0,[])).2.1,(v.net.getD s.n.toNat (0,0,[])).2.2.set s.a.toNat ((v.net.getD s.n.toNat (0,0,[])).2.2.getD s.a.toNat 0 ^^^ fV s.b)) }))
 else if s.fn=4 then (0,{ v with net:=v.net.eraseIdx s.n.toNat })
 else ((dz p (v.net.getD s.n.toNat (0,0,[])).2.2 (an v (v.net.getD s.n.toNat (0,0,[])).2.1)).1,
  { v with ps:=v.ps.set (v.net.getD s.n.toNat (0,0,[])).2.1 (dz p (v.net.getD s.n.toNat (0,0,[])).2.2 (an v (v.net.getD s.n.toNat (0,0,[])).2.1)).2,net:=if s.fn=5 then v.net else v.net.eraseIdx s.n.toNat })
def gq (p:Pr)(s:fU)(v:Wd):Int×Wd :=
 if s.a<0∨(v.ps.length:Int)≤s.a then (7,v) else
 if s.fn=1 then ((dE p (fV s.b) (an v s.a.toNat)).1,{ v with ps:=v.ps.set s.a.toNat (dE p (fV s.b) (an v s.a.toNat)).2 })
 else if s.fn=2 then (0,{ v with ps:=v.ps.set s.a.toNat ⟨(bo (an v s.a.toNat).k).2,(an v s.a.toNat).g⟩,net:=dY v.net (bo (an v s.a.toNat).k).1 })
 else if s.fn=8 then (0,{ v with ps:=v.ps.set s.a.toNat ⟨(bu (an v s.a.toNat).k).2,(an v s.a.toNat).g⟩,net:=dY v.net (bu (an v s.a.toNat).k).1 })
 else (0,v)
noncomputable def bq (p:Pr)(s:fU)(v:Wd):Int×Wd:=if s.fn<1∨8<s.fn then (1,v) else if 3≤s.fn∧s.fn≤6 then gb p s v else gq p s v
def s3 (i:Nat)(v:Wd):Wd:={ v with ps:=v.ps.set i ⟨{ (an v i).k with ev:=[] },(an v i).g⟩,ev:=v.ev.set i (v.ev.getD i []++(an v i).k.ev) }
def b6 (v:Wd):Nat→Wd
 | 0=>v
 | i+1=>s3 i (b6 v i)
def jB (v:Wd):Wd:=b6 v v.ps.length
noncomputable def cX (p:Pr)(s:fU)(v:Wd):Wd:=if s.fn=7 then v else jB (bq p s v).2
structure bD (p:Pr)(cf:Cf)(c:Nat)(v:Wd):Prop where
 may:eN cf
 n:v.ps.length=cf.n.toNat
 ev:v.ev.length=v.ps.length
 pl:∀ i,i<v.ps.length→cw p (an v i)∧ff (an v i).k={ cf with me:=i }∧(an v i).k.now≤c
 net:v.net.length≤300∧∀ m∈v.net,m.2.1<v.ps.length∧m.2.2.length≤1000
 kQ:∀ e∈v.ev,e.length≤9*c∧∀ x∈e,sL x
section
variable {p:Pr}{cf:Cf}{c i j:Nat}{v:Wd}{s:fU}{q:Pl}
theorem oG (h:i<v.ps.length)(net:List Ml)(ev:List (List jy)):an ⟨v.ps.set i q,net,ev⟩ j=if i=j then q else an v j:=by
 rw[an,an,bl,bl];show ((v.ps.set i q)[j]?).getD A9=_;rw[jF];split
 ·rfl
 ·rfl
theorem bD.len (h:bD p cf c v):2≤v.ps.length∧v.ps.length≤8:=by
 have h1:=h.n;have h2:=h.may.1.1;unfold fv at h2;omega
theorem bD.put (h:bD p cf c v)(hi:i<v.ps.length)(hw:cw p q)(hc:ff q.k=ff (an v i).k)(hn:q.k.now≤c+1){net:List Ml}(hl:net.length≤300)(hm:∀ m∈net,m.2.1<v.ps.length∧m.2.2.length≤1000) :
   bD p cf (c+1) { v with ps:=v.ps.set i q,net:=net }:=by
 refine⟨h.may,by show (v.ps.set i q).length=_;rw[br];exact h.n,by show v.ev.length=(v.ps.set i q).length;rw[br];exact h.ev,λj hj=>?_,⟨hl,?_⟩,λe he=>⟨by have:=(h.kQ e he).1;omega,(h.kQ e he).2⟩⟩
 ·have iS:j<v.ps.length:=by have:j<(v.ps.set i q).length:=hj;rwa [br]at this
  rw[oG (v:=v) hi];split
  ·rename_i e;subst e;exact⟨hw,hc.trans (h.pl _ hi).2.1,hn⟩
  ·exact⟨(h.pl j iS).1,(h.pl j iS).2.1,by have:=(h.pl j iS).2.2;omega⟩
 ·intro m vt;show m.2.1<(v.ps.set i q).length∧_;rw[br];exact hm m vt
theorem bD.more (h:bD p cf c v){d:Nat}(hd:c≤d):bD p cf d v :=
 ⟨h.may,h.n,h.ev,λi hi=>⟨(h.pl i hi).1,(h.pl i hi).2.1,gN (h.pl i hi).2.2 hd⟩,h.net,λe he=>⟨by have:=(h.kQ e he).1;omega,(h.kQ e he).2⟩⟩
theorem Mt {k:Ks}(h:WC k):∀ m∈(bo k).1,m.2.1<k.n∧m.2.2.length≤1000:=by
 intro m hm;unfold bo at hm;split at hm
 ·cases hm
 ·simp only at hm;split at hm
  ·cases hm
  ·obtain⟨i,hi,rfl⟩:=c1.1 hm;have h1:=(List.mem_filter.1 hi).1;rw[mem_range]at h1;exact⟨h1,gN (Kz _) (by decide)⟩
theorem Mv {k:Ks}(h:WC k):∀ m∈(bu k).1,m.2.1<k.n∧m.2.2.length≤1000:=by
 intro m hm;unfold bu at hm;split at hm
 ·cases hm
 ·obtain⟨i,hi,rfl⟩:=c1.1 hm;have h1:=(List.mem_filter.1 hi).1;rw[mem_range]at h1;exact⟨h1,gN (Kz _) (by decide)⟩
theorem bD.s4 (h:bD p cf c v)(hi:i<v.ps.length):(an v i).k.n=v.ps.length:=by
 have h1:=(h.pl i hi).2.1;have h2:(ff (an v i).k).n=cf.n:=by rw[h1]
 have h3:((an v i).k.n:Int)=cf.n:=h2;have:=h.n;have h4:=h.may.1.1;unfold fv at h4;omega
theorem bD.Mw (h:bD p cf c v){l:List Ml}(hl:∀ m∈l,m.2.1<v.ps.length∧m.2.2.length≤1000):(dY v.net l).length≤300∧∀ m∈dY v.net l,m.2.1<v.ps.length∧m.2.2.length≤1000 :=
 ⟨F3 h.net.1,λm hm=>(Ba hm).elim (h.net.2 m) (hl m)⟩
theorem bD.al (h:bD p cf c v)(hi:i<v.ps.length)(b:UInt8):bD p cf (c+1) { v with ps:=v.ps.set i (dE p b (an v i)).2 } :=
 h.put hi (lp.al (h.pl i hi).1 b).wf (lp.al (h.pl i hi).1 b).cf (by have:=(h.pl i hi).2.2;rw[aaR p b (h.pl i hi).1];omega) h.net.1 h.net.2
theorem bD.recv (h:bD p cf c v)(hi:i<v.ps.length)(bs:List UInt8){net:List Ml}(hl:net.length≤300)(hm:∀ m∈net,m.2.1<v.ps.length∧m.2.2.length≤1000):bD p cf (c+1) { v with ps:=v.ps.set i (dz p bs (an v i)).2,net:=net } :=
 h.put hi (lp.recv (h.pl i hi).1 bs).wf (lp.recv (h.pl i hi).1 bs).cf (by have:=(h.pl i hi).2.2;rw[aaT p bs (h.pl i hi).1];omega) hl hm
theorem bD.tick (h:bD p cf c v)(hi:i<v.ps.length):bD p cf (c+1) { v with ps:=v.ps.set i ⟨(bo (an v i).k).2,(an v i).g⟩,net:=dY v.net (bo (an v i).k).1 }:=by
 have h1:=h.Mw (l:=(bo (an v i).k).1) λm hm=>by have:=Mt (h.pl i hi).1.wc m hm;rwa [h.s4 hi]at this
 exact h.put hi (h.pl i hi).1.tick (Fy _) (by have:=(h.pl i hi).2.2;have:=aaU (an v i).k;show (bo (an v i).k).2.now≤_;omega) h1.1 h1.2
theorem bD.ko (h:bD p cf c v)(hi:i<v.ps.length):bD p cf (c+1) { v with ps:=v.ps.set i ⟨(bu (an v i).k).2,(an v i).g⟩,net:=dY v.net (bu (an v i).k).1 }:=by
 have h1:=h.Mw (l:=(bu (an v i).k).1) λm hm=>by have:=Mv (h.pl i hi).1.wc m hm;rwa [h.s4 hi]at this
 exact h.put hi (h.pl i hi).1.ko (Fz _) (by have:=(h.pl i hi).2.2;have:=aaV (an v i).k;show (bu (an v i).k).2.now≤_;omega) h1.1 h1.2
theorem bD.one (h:bD p cf c v):bD p cf (c+1) (gq p s v).2:=by
 unfold gq;split
 ·exact h.more (Nat.le_succ _)
 ·have hi:s.a.toNat<v.ps.length:=by omega
  split
  ·exact h.al hi _
  ·split
   ·exact h.tick hi
   ·split
    ·exact h.ko hi
    ·exact h.more (Nat.le_succ _)
theorem bD.F4 (h:bD p cf c v){j:Nat}(hj:j<v.net.length):(v.net.getD j (0,0,[])).2.1<v.ps.length∧(v.net.getD j (0,0,[])).2.2.length≤1000:=by
 rw[bl,aI hj];exact h.net.2 _ (getElem_mem hj)
theorem bD.erase (h:bD p cf c v)(j:Nat):(v.net.eraseIdx j).length≤300∧∀ m∈v.net.eraseIdx j,m.2.1<v.ps.length∧m.2.2.length≤1000 :=
 ⟨gN (List.length_eraseIdx_le _ _) h.net.1,λm hm=>h.net.2 m (mem_of_mem_eraseIdx hm)⟩
theorem bD.My (h:bD p cf c v){net:List Ml}(hl:net.length≤300)(hm:∀ m∈net,m.2.1<v.ps.length∧m.2.2.length≤1000):bD p cf (c+1) { v with net:=net } :=
 { h.more (Nat.le_succ c) with net:=⟨hl,hm⟩ }
theorem bD.yw (h:bD p cf c v):bD p cf (c+1) (gb p s v).2:=by
 unfold gb;split
 ·exact h.more (Nat.le_succ _)
 ·rename_i hr;have hj:s.n.toNat<v.net.length:=by omega
  have hx:=h.F4 hj;split
  ·split
   ·exact h.more (Nat.le_succ _)
   ·refine h.My (by rw[br];exact h.net.1) λm hm=>?_;rcases mem_or_eq_of_mem_set hm with h1 | rfl
    ·exact h.net.2 m h1
    ·exact⟨hx.1,by show (List.set _ _ _).length≤_;rw[br];exact hx.2⟩
  ·split
   ·exact h.My (h.erase _).1 (h.erase _).2
   ·refine h.recv hx.1 _ ?_ ?_ <;> split
    ·exact h.net.1
    ·exact (h.erase _).1
    ·exact h.net.2
    ·exact (h.erase _).2
theorem bD.step (h:bD p cf c v):bD p cf (c+1) (bq p s v).2:=by
 unfold bq;split
 ·exact h.more (Nat.le_succ _)
 ·split
  ·exact h.yw
  ·exact h.one
theorem pG (v:Wd):∀ i,(b6 v i).ps.length=v.ps.length∧(b6 v i).net=v.net∧(b6 v i).ev.length=v.ev.length
 | 0=>⟨rfl,rfl,rfl⟩
 | i+1=>by
  obtain⟨h1,h2,h3⟩:=pG v i;exact⟨by show (List.set _ _ _).length=_;rw[br,h1],h2,by show (List.set _ _ _).length=_;rw[br,h3]⟩
theorem wA (v:Wd):∀ {i j:Nat},i≤v.ps.length→an (b6 v i) j=if j<i then ⟨{ (an v j).k with ev:=[] },(an v j).g⟩ else an v j
 | 0,j,_=>by rw[ae (Nat.not_lt_zero _)];rfl
 | i+1,j,h=>by
  have h1:=wA v (i:=i) (j:=i) (by omega);rw[ae (Nat.lt_irrefl _)]at h1;show an ⟨(b6 v i).ps.set i _,_,_⟩ j=_;rw[oG (v:=b6 v i) (by rw[(pG v i).1];omega),h1,wA v (i:=i) (j:=j) (by omega)];by_cases h2:i=j
  ·subst h2;rw[ak rfl,ak (by omega)]
  ·rw[ae h2];by_cases h3:j<i
   ·rw[ak h3,ak (by omega)]
   ·rw[ae h3,ae (by omega)]
theorem Bb (v:Wd)(hl:v.ev.length=v.ps.length):∀ {i j:Nat},i≤v.ps.length→(b6 v i).ev.getD j []=if j<i then v.ev.getD j []++(an v j).k.ev else v.ev.getD j []
 | 0,j,_=>by rw[ae (Nat.not_lt_zero _)];rfl
 | i+1,j,h=>by
  have h1:=wA v (i:=i) (j:=i) (by omega);rw[ae (Nat.lt_irrefl _)]at h1;have h4:=Bb v hl (i:=i) (j:=i) (by omega);rw[ae (Nat.lt_irrefl _)]at h4;show ((b6 v i).ev.set i ((b6 v i).ev.getD i []++(an (b6 v i) i).k.ev)).getD j []=_;rw[h1,h4,bl,jF];by_cases h2:i=j
  ·subst h2;rw[ak rfl,ak (by rw[(pG v i).2.2,hl];omega),ak (by omega)];rfl
  ·rw[ae h2,← bl,Bb v hl (i:=i) (j:=j) (by omega)];by_cases h3:j<i
   ·rw[ak h3,ak (by omega)]
   ·rw[ae h3,ae (by omega)]
theorem aaY {α:Type}{l:List α}{x d:α}(h:x∈l):∃ i,i<l.length∧l.getD i d=x:=by
 obtain⟨i,hi,rfl⟩:=List.getElem_of_mem h;exact⟨i,hi,by rw[bl,aI hi];rfl⟩
theorem uL {α:Type}{l:List α}{d:α}{i:Nat}(h:i<l.length):l.getD i d∈l:=by
 rw[bl,aI h];exact getElem_mem _
theorem bD.b6 (h:bD p cf c v){i:Nat}(hi:i≤v.ps.length):bD p cf (c+1) (b6 v i):=by
 obtain⟨h1,h2,h3⟩:=pG v i;refine⟨h.may,by rw[h1];exact h.n,by rw[h1,h3];exact h.ev,λj hj=>?_,by rw[h1,h2];exact h.net,λe he=>?_⟩
 ·rw[h1]at hj;obtain⟨cZ,dT,a3⟩:=h.pl j hj;rw[wA v hi];split
  ·exact⟨cZ.told,dT,by show (an v j).k.now≤_;omega⟩
  ·exact⟨cZ,dT,by omega⟩
 ·obtain⟨j,hj,rfl⟩:=aaY (d:=[]) he;rw[h3]at hj;rw[Bb v h.ev hi];have h4:=h.kQ _ (uL (d:=[]) hj);have h5:=(h.pl j (by rw[← h.ev];exact hj)).1.wc;split
  ·refine⟨by have:=h5.kQ;rw[aL];omega,λx hx=>?_⟩;rcases eM.1 hx with hx | hx
   ·exact h4.2 x hx
   ·exact h5.bx x hx
  ·exact⟨by omega,h4.2⟩
theorem bD.drain (h:bD p cf c v):bD p cf (c+1) (jB v):=h.b6 (bf _)
theorem bD.go (h:bD p cf c v):bD p cf (c+2) (cX p s v):=by
 unfold cX;split
 ·exact h.more (by omega)
 ·exact h.step.drain
end
end
section
structure cY where
 frm:Int
 to:Int
 ad:Option Addr
 c:Nat
 bs:List UInt8
abbrev cY.cells (m:cY):List Value:=[.int .i64 m.frm,.int .i64 m.to,.slice m.ad m.bs.length m.c]
def iE (ms:List cY):List Value:=ms.flatMap cY.cells
def cY.own (m:cY):SP:=Sl 5 1 m.ad m.bs.length m.c (bc m.bs)
def fI (ms:List cY):SP:=λh=>cm (ms.map cY.own) h
theorem Bd (l m:List cY):iE (l++m)=iE l++iE m:=by simp[iE]
theorem Mz (l:List cY)(i:Nat):(iE l).drop (i*3)=iE (l.drop i):=by
 induction i generalizing l with
 | zero=>simp
 | succ i ih =>
  cases l with
  | nil=>simp[iE]
  | cons x l =>
   rw[show (i+1)*3=i*3+3 from by omega];simp only[iE,flatMap_cons,List.drop_succ_cons,cY.cells] at *;rw[← ih l];simp
theorem aaZ (l:List cY)(i:Nat):(iE l).take (i*3)=iE (l.take i):=by
 induction i generalizing l with
 | zero=>simp[iE]
 | succ i ih =>
  cases l with
  | nil=>simp[iE]
  | cons x l =>
   rw[show (i+1)*3=i*3+3 from by omega];simp only[iE,flatMap_cons,take_succ_cons,cY.cells] at *;rw[← ih l];simp
theorem aa0 (l:List cY)(i:Nat)(h:i<l.length):((iE l).drop (i*3)).take 3=l[i].cells:=by
 rw[Mz,ka h];simp only[iE,flatMap_cons,cY.cells,cons_append,nil_append,take_succ_cons,take_zero]
theorem fI.nil {W w:World}{L:List SP}(I:U W w L):U W w (fI []::L) :=
 ⟨I.below,let ⟨h,p,q⟩:=I.sat;⟨h,p,λ_=>none,h,λ_=>.inl rfl,λ_ _ e=>(by cases e),Hp.Sub.refl _,trivial,q⟩⟩
theorem fI.out {W w:World}{L:List SP}{a b:List cY}{m:cY}(I:U W w (fI (a++m::b)::L)):U W w (m.own::fI (a++b)::L):=by
 have h1:=I.open (M:=(a++m::b).map cY.own) (λ_ x=>x);have h2:((a++m::b).map cY.own++L).Perm (m.own::((a++b).map cY.own++L)):=by
  rw[← cons_append,← map_cons];exact ((perm_middle (a:=m) (l₁:=a) (l₂:=b)).map cY.own).append_right L
 have h3:=h1.perm h2;have h4:=h3.perm (List.perm_append_comm (l₁:=[m.own]) (l₂:=(a++b).map cY.own++L));have h5:U W w ((a++b).map cY.own++(L++[m.own])):=by simpa using h4
 have h6:=U.shut (A:=fI (a++b)) h5 (λ_ x=>x);exact h6.perm (List.Perm.trans (List.perm_append_comm (l₁:=fI (a++b)::L) (l₂:=[m.own])) (List.Perm.refl _))
theorem fI.MA {W w:World}{L:List SP}{a b:List cY}{m:cY}(I:U W w (m.own::fI (a++b)::L)):U W w (fI (a++m::b)::L):=by
 have h1:U W w (fI (a++b)::([m.own]++L)):=I.perm (List.Perm.swap _ _ _);have h2:=h1.open (M:=(a++b).map cY.own) (λ_ x=>x);refine U.shut (M:=(a++m::b).map cY.own) (h2.perm ?_) (λ_ x=>x);have h3:((a++b).map cY.own++([m.own]++L)).Perm (m.own::((a++b).map cY.own++L)):=by
  have:=perm_middle (a:=m.own) (l₁:=(a++b).map cY.own) (l₂:=L);simpa using this
 refine h3.trans ?_;rw[← cons_append,← map_cons];exact (((perm_middle (a:=m) (l₁:=a) (l₂:=b)).map cY.own).symm).append_right L
theorem fI.rd {W w:World}{L R:List SP}{xs:List cY}(I:U W w L)[k:pQ L (fI xs) R](i:Nat)(h:i<xs.length):a6 w xs[i].ad xs[i].bs.length xs[i].bs:=by
 have h1:=I.pick (fI xs);rw[show xs=xs.take i++xs[i]::xs.drop (i+1) from by rw[← ka h,jE]]at h1;have h2:=fI.out h1;refine⟨rfl,λe=>?_,λx hx hp=>?_⟩
 ·rcases Nat.eq_zero_or_pos xs[i].bs.length with h0 | h0
  ·exact h0
  ·obtain⟨b,off,e2,_⟩:=U.bY (L:=xs[i].own::_) (e:=5) (sz:=1) (n:=xs[i].bs.length) (c:=xs[i].c) (cs:=bc xs[i].bs) (k:=⟨List.Perm.refl _⟩) h2 xs[i].ad h0;rw[e]at e2;cases e2
 ·obtain⟨b,off,e2,hr⟩:=U.bY (L:=xs[i].own::_) (e:=5) (sz:=1) (n:=xs[i].bs.length) (c:=xs[i].c) (cs:=bc xs[i].bs) (k:=⟨List.Perm.refl _⟩) h2 xs[i].ad hp;exact⟨b,off,by rw[hx]at e2;cases e2;rfl,hr⟩
abbrev oH:=Int×Int×List UInt8
def cY.m (x:cY):oH:=(x.frm,x.to,x.bs)
def bJ (q:Nat)(ms:List oH):SP:=λh=>∃ i:(Option Addr×Nat)×List cY,(i.2.map cY.m=ms∧ms.length≤300∧∀ x∈i.2,x.bs.length≤1000) ∧
 cm [aa q 110 [.slice i.1.1 i.2.length i.1.2],Sl 124 3 i.1.1 i.2.length i.1.2 (iE i.2),fI i.2] h
theorem bJ.open {W w:World}{L:List SP}{q:Nat}{ms:List oH}(I:U W w (bJ q ms::L)) :
   ∃ ad c xs,ms=xs.map cY.m∧(xs.length≤300∧∀ x∈xs,x.bs.length≤1000)∧U W w (aa q 110 [.slice ad xs.length c]::Sl 124 3 ad xs.length c (iE xs)::fI xs::L):=by
 obtain⟨i,⟨h1,h2,h3⟩,h⟩:=I.jo (B:=λi:(Option Addr×Nat)×List cY=>cm [aa q 110 [.slice i.1.1 i.2.length i.1.2],Sl 124 3 i.1.1 i.2.length i.1.2 (iE i.2),fI i.2]) (λ_ h=>h);exact⟨i.1.1,i.1.2,i.2,h1.symm,⟨by rw[← h1]at h2;simpa using h2,h3⟩,h.open (λ_ x=>x)⟩
theorem bJ.shut {W w:World}{L R R2 R3:List SP}{q n c:Nat}{ad:Option Addr}{cs:List Value}{xs:List cY}{ms:List oH}(I:U W w L)[k:fC L q 110 [.slice ad n c] R][k2:fL R ad n c 124 3 cs R2][k3:pQ R2 (fI xs) R3]
   (hn:n=xs.length) (hc:cs=iE xs) (hm:ms=xs.map cY.m) (h3:xs.length≤300) (h4:∀ x∈xs,x.bs.length≤1000):U W w (bJ q ms::R3):=by
 subst hn;subst hc;subst hm;have h1:=(I.perm k.perm).perm (List.Perm.cons _ (k2.perm.trans (List.Perm.cons _ k3.perm)));exact U.shut (M:=[_,_,_]) h1 λ_ x=>⟨((ad,c),xs),⟨rfl,by simpa using h3,h4⟩,x⟩
theorem F5 {w:World}{b off:Nat}{xs:List cY}(h:Rd w b off (iE xs))(k:Nat)(hk:k<xs.length) :
   Rd w b (off+k*3) xs[k].cells∧w.cell? ⟨b,off+k*3,none⟩=some (.int .i64 xs[k].frm)∧w.cell? ⟨b,off+k*3+1,none⟩=some (.int .i64 xs[k].to)∧w.cell? ⟨b,off+k*3+2,none⟩=some (.slice xs[k].ad xs[k].bs.length xs[k].c):=by
 have hr:=h.part (k*3) 3;rw[aa0 xs k hk]at hr;exact⟨hr,hr 0 _ rfl,hr 1 _ rfl,hr 2 _ rfl⟩
theorem aa1 {W w:World}{L:List SP}{c:Nat}(I:U W w L) :
   Calls prog 95 #[.slice none 0 c] w λe V=>e=.returned (.slice none 0 0)∧U W V L:=by
 refine EN func95 ntmps95 rfl rfl λa E=>?_;refine RN 6 E I λa E=>?_;replace E:=E.ef 4;refine RT 3 E I ?_;exact⟨rfl,I⟩
theorem aa2 {W w:World}{L:List SP}{x:Addr}{c:Nat}(I:U W w L) :
   Calls prog 95 #[.slice (some x) 0 c] w λe V=>∃ av,e=.returned (.slice av 0 0)∧U W V (Sl 5 1 av 0 0 []::L):=by
 refine EN func95 ntmps95 rfl rfl λa E=>?_;refine RN 6 E I λa E=>?_;replace E:=E.aN 4;refine RN 2 E I λa E=>?_;refine tp E rfl I underlying22 Ty.t5 rfl λb5 a w E I ho=>?_;clear ho;refine RN 1 E I λa E=>?_;refine B1 E rfl underlying22 Ty.t5 rfl (bf _) λa E=>?_;refine RT 1 E I ?_;exact⟨_,rfl,I⟩
theorem aa3 {W w:World}{L:List SP}{b off c:Nat}{bs:List UInt8}(I:U W w L)(hr:Rd w b off (bc bs))(h0:0<bs.length)(hl:bs.length≤140737488355328) :
   Calls prog 95 #[.slice (some ⟨b,off,none⟩) bs.length c] w λe V=>∃ av c',e=.returned (.slice av bs.length c')∧U W V (Sl 5 1 av bs.length c' (bc bs)::L):=by
 refine EN func95 ntmps95 rfl rfl λa E=>?_;refine RN 6 E I λa E=>?_;replace E:=E.aN 4;refine RN 2 E I λa E=>?_;refine tp E rfl I underlying22 Ty.t5 rfl λb5 a w E I ho=>?_;replace hr:=ho.rd hr;clear ho;refine RN 1 E I λa E=>?_;refine cI E rfl I underlying22 Ty.t5 rfl rfl hr (by rw[dw,Nat.mul_one]) (ep bs) h0 (by decide) (by omega) λrU qH a w E I=>?_;refine RT 1 E I ?_;rw[Nat.zero_add] at *;exact⟨_,_,rfl,I⟩
theorem aa4 {W w:World}{L:List SP}{ad:Option Addr}{n c:Nat}{bs:List UInt8}(I:U W w L)(hr:a6 w ad n bs)(hl:n≤140737488355328) :
   Calls prog 95 #[.slice ad n c] w λe V=>∃ av c',e=.returned (.slice av n c')∧U W V (Sl 5 1 av n c' (bc bs)::L):=by
 obtain⟨rfl,h2,h3⟩:=hr;cases ad with
 | none =>
  have h0:=h2 rfl;obtain rfl:=g5 h0;exact (aa1 I).mono λe V ⟨h,I⟩=>⟨none,0,h,I.bM _ _ _⟩
 | some x =>
  rcases Nat.eq_zero_or_pos bs.length with h0 | h0
  ·obtain rfl:=g5 h0;exact (aa2 I).mono λe V ⟨av,h,I⟩=>⟨av,0,h,I⟩
  ·obtain⟨b,off,rfl,hr⟩:=h3 x rfl h0;exact aa3 I hr h0 hl
theorem MB {W w:World}{L:List SP}{ad:Option Addr}{n c:Nat}{f t:Int}{bs:List UInt8}(I:U W w L)(hr:∀ V,U W V L→a6 V ad n bs)(hl:n≤140737488355328) :
   Calls prog 76 #[.agg #[.int .i64 f,.int .i64 t,.slice ad n c]] w λe V=>∃ av c',e=.returned (.agg #[.int .i64 f,.int .i64 t,.slice av n c'])∧U W V (Sl 5 1 av n c' (bc bs)::L):=by
 refine EN func76 ntmps76 rfl rfl λa E=>?_;refine BX 1 E I λb1 a w E I=>?_;refine AL 0 E I λb2 a w E I=>?_;refine aY 3 E I (aa4 I (hr _ I.sub) hl) λav c' a w E I=>?_;refine ST 1 E I (λa w E I=>?_);refine SA 2 E I λa w E I=>?_;refine RT 0 E I ?_;exact⟨_,_,rfl,I.sub⟩
theorem MC {W w:World}{L R:List SP}{q e:Nat}{s:Option Addr}{n c:Nat}(I:U W w L) [fC L q e [.slice s n c] R] :
   Calls prog 23 #[pt q] w λe V=>e=.returned (.int .i64 n)∧U W V L:=by
 refine EN func23 ntmps23 rfl rfl λa E=>?_;refine RN 6 E I λa E=>?_;replace E:=E.aN 4;refine RT 8 E I ?_;exact⟨rfl,I⟩
theorem MD {W w:World}{L:List SP}{q:Nat}{ms:List oH}(I:U W w (bJ q ms::L)) :
   Calls prog 23 #[pt q] w λe V=>e=.returned (.int .i64 ms.length)∧U W V (bJ q ms::L):=by
 obtain⟨ad,c,xs,rfl,hx,I⟩:=bJ.open I;refine (MC (q:=q) I).mono λe V ⟨h,I⟩=>⟨by rw[h];simp,bJ.shut (q:=q) (ad:=ad) (xs:=xs) I rfl rfl rfl hx.1 hx.2⟩
theorem Be {W w:World}{L R:List SP}{q e:Nat}{s:Option Addr}{n c:Nat}{i:Int}(I:U W w L) [fC L q e [.slice s n c] R] :
   Calls prog 75 #[pt q,.int .i64 i] w λe V=>e=.returned (.bool (decide (0≤i)&&decide (i<n)))∧U W V L:=by
 refine EN func75 ntmps75 rfl rfl λa E=>?_;refine BY 6 E I (λbA a E=>?_) λbA a E=>?_
 ·
  refine CL 2 E I (MC (q:=q) I) λa w E I=>?_;refine RT 3 E I ?_;exact⟨by rw[dk (p:=0≤i) (by omega),Bool.true_and],I⟩
 refine RT 6 E I ?_;exact⟨by rw[bn (p:=0≤i) (by omega),Bool.false_and],I⟩
theorem aa5 {W w:World}{L:List SP}(I:U W w L) :
   Calls prog 42 #[] w λe V=>∃ q,e=.returned (pt q)∧U W V (bJ q []::L):=by
 refine EN func42 ntmps42 rfl rfl λa E=>?_;refine BX 4 E I λb2 a w E I=>?_;refine RT 1 E I ?_;exact⟨_,rfl,by
  have h1:=(fI.nil (I.bM 124 3 none));exact (bJ.shut (q:=b2) (xs:=[]) (ms:=[]) h1 rfl rfl rfl (by simp) (by simp)).sub⟩
theorem ME {p q r vs:List Value}{o:Nat}(ho:o=p.length)(h:q.length=vs.length):cB (p++q++r) o vs=p++vs++r:=by
 subst ho;have e1:(p++q++r).take p.length=p:=by rw[dv,List.take_left]
 have e2:(p++q++r).drop (p.length+vs.length)=r:=by rw[← h,show p.length+q.length=(p++q).length from by simp,drop_left]
 rw[cB,e1,e2]
theorem aa6 {pre cs post:List Value}{n i:Nat}(hl:cs.length=n*3)(hi:i<n) :
   ∃ v,v.length=3∧cB (pre++cs++post) (pre.length+i*3) (cs.drop ((i+1)*3))=(pre++(cs.take (i*3)++cs.drop ((i+1)*3)))++v++post:=by
 refine⟨(cs.drop (i*3)).drop ((n-1-i)*3),by rw[c6,c6];omega,?_⟩;have tJ:cs=cs.take (i*3)++((cs.drop (i*3)).take ((n-1-i)*3)++(cs.drop (i*3)).drop ((n-1-i)*3)):=by rw[jE,jE]
 have e:pre++cs++post=(pre++cs.take (i*3))++(cs.drop (i*3)).take ((n-1-i)*3)++((cs.drop (i*3)).drop ((n-1-i)*3)++post):=by
  conv=>lhs;rw[tJ]
  simp only[dv]
 rw[e,ME (by rw[aL,et];omega) (by rw[et,c6,c6];omega)];simp only[dv]
theorem aa7 {W w:World}{L:List SP}{ad:Option Addr}{c n i:Nat}{cs:List Value}(I:U W w (Sl 124 3 ad n c cs::L))(hi:i<n)(hn:n≤140737488355328)(fN:∀ v∈cs,v.oneCell'=true) :
   Calls prog 103 #[.slice ad n c,.int .i64 i,.int .i64 ((i+1:Nat):Int)] w λe V=>e=.returned (.slice ad (n-1) c)∧U W V (Sl 124 3 ad (n-1) c (cs.take (i*3)++cs.drop ((i+1)*3))::L):=by
 have aj:=(I.sl ad);obtain⟨b,pre,post,⟨h1,h2,rfl,h4⟩,gx⟩:=I.lv (by omega);replace I:=gx;clear gx;have nJ:∃ pZ,fk (some ⟨b,pre.length,none⟩) (i+1) c 3=some ⟨b,pZ,none⟩∧∀ w,U W w (aa b 124 (pre++cs++post)::L)→Rd w b pZ (cs.drop ((i+1)*3)):=by
  by_cases MF:c=i+1
  ·refine⟨pre.length,by simp[fk,MF],λw _=>?_⟩;rw[List.drop_of_length_le (by omega)];intro j v hj;simp at hj
  ·refine⟨pre.length+(i+1)*3,oP MF,λw I=>?_⟩;intro j v hj;have hlt:=(a2.1 hj).1;rw[c6]at hlt;rw[I.cell,dv,getElem?_append_right (by omega),show pre.length+(i+1)*3+j-pre.length=(i+1)*3+j from by omega,lS (by omega)];rw[getElem?_drop]at hj;exact hj
 obtain⟨pZ,yu,nJ⟩:=nJ;refine EN func103 ntmps103 rfl rfl λa E=>?_;refine RN 8 E I λa E=>?_;refine SS E (PH E underlying108 Ty.t124 (by omega) (by omega) (by omega)) λa E=>?_;refine RN 5 E I λa E=>?_;rw[show decide ((i:Int)=((i+1:Nat):Int))=false from bn (by omega)]at E;replace E:=E.aN 16;refine bQ 6 [] [0,1,2,3,4,5,1006,7] E I λa w E I hH hC=>?_;refine RH 6 E I hH hC λa E=>?_;rw[yu,oP (by omega:c≠0)]at E;refine PK E rfl I underlying108 Ty.t124 rfl (nJ _ I) (by simp;omega) (λv hv=>fN v (List.mem_of_mem_drop hv)) (by omega) (by simp;omega) λa w E I=>?_;obtain⟨v,hv,DT⟩:=aa6 (pre:=pre) (post:=post) (n:=n) (i:=i) h1 hi;rw[show pre.length+0*3+(i-0)*3=pre.length+i*3 from by omega,DT]at I;rw[show i-0+(n-(i+1))=n-1 from by omega,show pre.length+0*3=pre.length from by omega]at E;have hP:(pre++(cs.take (i*3)++cs.drop ((i+1)*3))).length=pre.length+(n-1)*3:=by
  simp only[aL,et,c6];omega
 refine RN 1 E I λa E=>?_;refine RN 6 E I λa E=>?_;rw[oP (by omega)]at E;have hle:pre.length+(n-1)*3+(n-(n-1))*3≤(pre++(cs.take (i*3)++cs.drop ((i+1)*3))++v++post).length:=by
  rw[aL,aL,hP,hv];omega
 refine Hn E rfl I underlying108 Ty.t124 rfl rfl hle λa w E I=>?_;refine RT 3 E I ?_;refine⟨rfl,?_⟩;generalize hz:(Builtin.zeroCells (Value.cells (.agg #[.int .i64 0,.int .i64 0,.slice none 0 0])) (n-(n-1))).toList=zs at I;have iU:zs.length=(n-(n-1))*3:=by rw[← hz];exact wQ 0 (aX:=0) rfl _
 rw[ME hP.symm (by rw[hv,iU];omega)]at I;rw[dv _ zs post]at I;exact U.iG I (by rw[aL]at hP;omega) (by omega) (by rw[aL,iU];omega)
def pH (ms:List oH)(n:Nat):Bool:=decide (ms.length<300)&&decide (n≤1000)
theorem aa8 {W w:World}{L:List SP}{q:Nat}{ms:List oH}{ad:Option Addr}{n c:Nat}{f t:Int}{bs:List UInt8}(I:U W w (bJ q ms::L))(hr:∀ V,U W V L→a6 V ad n bs) :
   Calls prog 100 #[pt q,.agg #[.int .i64 f,.int .i64 t,.slice ad n c]] w λe V=>e=.returned (.bool (pH ms n))∧U W V (bJ q (if pH ms n then ms++[(f,t,bs)] else ms)::L):=by
 have nW:=(hr _ I.tail).1;subst nW;obtain⟨ld,dK,xs,rfl,hx,I⟩:=bJ.open I;refine EN func100 ntmps100 rfl rfl λa E=>?_;refine BX 1 E I λb3 a w E I=>?_;refine RN 6 E I λa E=>?_;replace E:=E.aN 7;refine BY 8 E I (λlz a E=>?_) λlz a E=>?_
 ·
  have hm:pH (xs.map cY.m) bs.length=false:=by simp only[pH,bd,Bool.and_eq_false_iff,decide_eq_false_iff_not];left;omega
  refine RT 8 E I ?_;exact⟨by rw[hm],by rw[hm,ae (by decide)];exact (bJ.shut (q:=q) (ad:=ld) (xs:=xs) I rfl rfl rfl hx.1 hx.2).sub⟩
 refine IF 5 E I (λaj a E=>?_) λaj a E=>?_
 ·
  have hm:pH (xs.map cY.m) bs.length=false:=by simp only[pH,bd,Bool.and_eq_false_iff,decide_eq_false_iff_not];right;omega
  refine RT 2 E I ?_;exact⟨by rw[hm],by rw[hm,ae (by decide)];exact (bJ.shut (q:=q) (ad:=ld) (xs:=xs) I rfl rfl rfl hx.1 hx.2).sub⟩
 have hm:pH (xs.map cY.m) bs.length=true:=by simp only[pH,bd,fB,decide_eq_true_eq];omega
 refine aZ 1 (λw0 V=>V.cell? ⟨q,0,none⟩=some (.slice ld xs.length dK)) [5,6,7] [0,1,2,3,3004,1005,1006,1007,1008,9,10,1011] E I λa w E I hH=>?_;have hC:=hH.at w (I.bB rfl);refine RH 4 E I hH hC λa E=>?_;refine QH E (λw hc=>ag E (hc)) hC λa E=>?_;refine RH 1 E I hH hC λa E=>?_;refine aY 0 E I (MB I (λV h=>hr V h.sub) (by omega)) λav c' a w E I=>?_;replace hC:=hH.at w (I.bB rfl);refine RH 0 E I hH hC λa E=>?_;refine cn E rfl I underlying108 Ty.t124 rfl rfl rfl rfl (by decide) (by decide) λHF a w E I ho=>?_;clear ho;replace hC:=hH.at w (I.bB rfl);refine RH 0 E I hH hC λa E=>?_;refine cI E rfl I underlying108 Ty.t124 rfl rfl I.ai rfl (by simp[Value.oneCell']) (by decide) (by decide) (by omega) λKC KD a w E I=>?_;refine ST 2 E I (λa w E I=>?_);refine RT 2 E I ?_;refine⟨by rw[hm],?_⟩;rw[hm,ak rfl];have h3:=(I.pick (fI xs)).pick (Sl 5 1 av bs.length c' (bc bs));have h4:=fI.MA (a:=xs) (b:=[]) (m:=⟨f,t,av,c',bs⟩) (by rw[append_nil];exact h3);refine (bJ.shut (q:=q) (xs:=xs++[⟨f,t,av,c',bs⟩]) (ms:=xs.map cY.m++[(f,t,bs)]) h4 (by simp) (by rw[Bd];rfl) (by simp[cY.m]) (by simp;omega) ?_).sub;intro x c3;rcases eM.1 c3 with h | h
 ·exact hx.2 x h
 ·obtain rfl:=mem_singleton.1 h;exact Int.ofNat_le.1 aj
theorem aa9 {W w:World}{L:List SP}{q:Nat}{ms:List oH}{i:Int}(I:U W w (bJ q ms::L))(hi:(decide (0≤i)&&decide (i<ms.length))=false) :
   Calls prog 52 #[pt q,.int .i64 i] w λe V=>e=.returned (.tuple #[.agg #[.int .i64 0,.int .i64 0,.slice none 0 0],.bool false])∧U W V (bJ q ms::L):=by
 obtain⟨ld,dK,xs,rfl,hx,I⟩:=bJ.open I;rw[bd]at hi;refine EN func52 ntmps52 rfl rfl λa E=>?_;refine AL 1 E I λb4 a w E I=>?_;refine CL 5 E I (Be (q:=q) I) λa w E I=>?_;rw[hi]at E;refine RN 1 E I λa E=>?_;replace E:=E.ef 9;refine SA 3 E I λa w E I=>?_;refine RT 1 E I ?_;exact⟨rfl,(bJ.shut (q:=q) (ad:=ld) (xs:=xs) I rfl rfl rfl hx.1 hx.2).sub⟩
theorem F6 {i n:Nat}(h:i<n):(decide (0≤(i:Int))&&decide ((i:Int)<(n:Int)))=true:=by
 simp;omega
theorem aba {W w:World}{L:List SP}{q:Nat}{ms:List oH}{i:Nat}(I:U W w (bJ q ms::L))(hi:i<ms.length) :
   Calls prog 52 #[pt q,.int .i64 i] w λe V=>∃ ad c,e=.returned (.tuple #[.agg #[.int .i64 ms[i].1,.int .i64 ms[i].2.1,.slice ad ms[i].2.2.length c],.bool true])∧U W V (Sl 5 1 ad ms[i].2.2.length c (bc ms[i].2.2)::bJ q ms::L):=by
 obtain⟨ld,dK,xs,rfl,hx,I⟩:=bJ.open I;have dF:i<xs.length:=by simpa using hi
 simp only[getElem_map,cY.m];refine EN func52 ntmps52 rfl rfl λa E=>?_;refine AL 1 E I λb4 a w E I=>?_;refine CL 5 E I (Be (q:=q) I) λa w E I=>?_;rw[F6 dF]at E;refine RN 1 E I λa E=>?_;replace E:=E.aN 9;refine RN 2 E I λa E=>?_;obtain⟨b',dB,rfl,de⟩:=I.bY ld (by omega);have gF:=F5 de i dF;refine RN 6 E I λa E=>?_;refine SS E (bT E underlying124 rfl Ty.t124 (gF.1)) λa E=>?_;refine aY 0 E I (MB I (λV h=>fI.rd h i dF) (by have:=hx.2 xs[i] (getElem_mem dF);omega)) λav c' a w E I=>?_;refine SA 0 E I λa w E I=>?_;refine RT 1 E I ?_;exact⟨_,_,rfl,(bJ.shut (q:=q) (ad:=some ⟨b',dB,none⟩) (xs:=xs) I rfl rfl rfl hx.1 hx.2).sub⟩
theorem abb (xs:List cY):∀ v∈iE xs,v.oneCell'=true:=by
 intro v hv;simp only[iE,List.mem_flatMap,cY.cells]at hv;obtain⟨x,_,hx⟩:=hv;simp at hx;rcases hx with rfl | rfl | rfl <;> rfl
theorem abc {W w:World}{L:List SP}{q:Nat}{ms:List oH}{i:Nat}(I:U W w (bJ q ms::L))(hi:i<ms.length) :
   Calls prog 63 #[pt q,.int .i64 i] w λe V=>e=.returned (.bool true)∧U W V (bJ q (ms.eraseIdx i)::L):=by
 obtain⟨ld,dK,xs,rfl,hx,I⟩:=bJ.open I;have dF:i<xs.length:=by simpa using hi
 refine EN func63 ntmps63 rfl rfl λa E=>?_;refine CL 6 E I (Be (q:=q) I) λa w E I=>?_;rw[F6 dF]at E;refine RN 1 E I λa E=>?_;replace E:=E.aN 8;refine CL 10 E I (aa7 (I.pick (Sl 124 3 ld xs.length dK (iE xs))) dF (by omega) (abb xs)) λa w E I=>?_;refine ST 2 E I (λa w E I=>?_);refine RT 2 E I ?_;refine⟨rfl,?_⟩;have h1:=I.pick (fI xs);have h0:xs=xs.take i++xs[i]::xs.drop (i+1):=by rw[← ka dF,jE]
 have h2:=h1;rw[show fI xs=fI (xs.take i++xs[i]::xs.drop (i+1)) from by rw[← h0]]at h2;have h3:=(fI.out h2).tail;rw[Mz,aaZ,← Bd,← eraseIdx_eq_take_drop_succ]at h3;exact (bJ.shut (q:=q) (ad:=ld) (xs:=xs.eraseIdx i) (ms:=(xs.map cY.m).eraseIdx i) h3 (by rw[List.length_eraseIdx];simp[dF]) rfl (by simp only[eraseIdx_eq_take_drop_succ,cQ,map_take,map_drop]) (by rw[List.length_eraseIdx];simp[dF];omega) (λx h=>hx.2 x (mem_of_mem_eraseIdx h))).sub
theorem MG (bs:List UInt8)(i:Nat)(x:UInt8):(bc bs).set i (.int .u8 (x.toNat:Int))=bc (bs.set i x):=by
 simp[bc,List.map_set]
theorem yx {p q r:List Value}{i:Nat}{v:Value}(h:i<q.length):(p++q++r).set (p.length+i) v=p++q.set i v++r:=by
 rw[dv,set_append_right _ _ (by omega),show p.length+i-p.length=i from by omega,set_append_left _ _ h,dv]
theorem abd {W w:World}{L:List SP}{q:Nat}{ms:List oH}{i:Nat}{aT:Int}{x:UInt8}(I:U W w (bJ q ms::L))(hi:i<ms.length) :
   Calls prog 64 #[pt q,.int .i64 i,.int .i64 aT,.int .u8 (x.toNat:Int)] w λe V =>
    e=.returned (.bool (decide (0≤aT)&&decide (aT<ms[i].2.2.length)))∧U W V (bJ q (if decide (0≤aT)&&decide (aT<ms[i].2.2.length) then ms.set i (ms[i].1,ms[i].2.1,ms[i].2.2.set aT.toNat (ms[i].2.2.getD aT.toNat 0 ^^^ x)) else ms)::L):=by
 obtain⟨ld,dK,xs,rfl,hx,I⟩:=bJ.open I;have dF:i<xs.length:=by simpa using hi
 simp only[getElem_map,cY.m];obtain⟨b',dB,rfl,de⟩:=I.bY ld (by omega);clear de;refine EN func64 ntmps64 rfl rfl λa E=>?_;refine CL 6 E I (Be (q:=q) I) λa w E I=>?_;rw[F6 dF]at E;refine RN 2 E I λa E=>?_;replace E:=E.aN 13;refine BY 4 E I (λfa a E=>?_) λfa a E=>?_
 ·
  have hm:(decide (0≤aT)&&decide (aT<xs[i].bs.length))=false:=by rw[bn (by omega),Bool.false_and]
  refine RN 4 E I λa E=>?_;have gF:=F5 (I.cC b' dB (by omega)) i dF;refine RT 11 E I ?_;exact⟨by rw[hm],by rw[hm,ae (by decide)];exact (bJ.shut (q:=q) (ad:=some ⟨b',dB,none⟩) (xs:=xs) I rfl rfl rfl hx.1 hx.2).sub⟩
 refine RN 4 E I λa E=>?_;have gF:=F5 (I.cC b' dB (by omega)) i dF;refine RN 4 E I λa E=>?_;refine bE E (cS E rfl (s:=17)) (ag E (gF.2.2.2)) rfl λa E=>?_;refine IF 3 E I (λaj a E=>?_) λaj a E=>?_
 ·
  have hm:(decide (0≤aT)&&decide (aT<xs[i].bs.length))=false:=by rw[bn (p:=aT<xs[i].bs.length) (by omega),Bool.and_false]
  refine RT 2 E I ?_;exact⟨by rw[hm],by rw[hm,ae (by decide)];exact (bJ.shut (q:=q) (ad:=some ⟨b',dB,none⟩) (xs:=xs) I rfl rfl rfl hx.1 hx.2).sub⟩
 have hm:(decide (0≤aT)&&decide (aT<xs[i].bs.length))=true:=by simp;omega
 obtain⟨A,rfl⟩:∃ A:Nat,aT=A:=⟨aT.toNat,by omega⟩;have hA:A<xs[i].bs.length:=by omega
 rw[hm,ak rfl,Int.toNat_natCast];have h1:=I.pick (fI xs);have h0:xs=xs.take i++xs[i]::xs.drop (i+1):=by rw[← ka dF,jE]
 rw[show fI xs=fI (xs.take i++xs[i]::xs.drop (i+1)) from by rw[← h0]]at h1;replace I:=fI.out h1;clear h1;obtain⟨xa,tM⟩:∃ xa,xs[i].ad=xa:=⟨_,rfl⟩;have h2:=I;rw[show xs[i].own=Sl 5 1 xa xs[i].bs.length xs[i].c (bc xs[i].bs) from by rw[← tM];rfl]at h2;have cg:=(h2.sl xa).2;obtain⟨bb,pre,post,⟨h3,h4,h5,h6⟩,gx⟩:=h2.lv (by omega);rw[h5]at tM;replace I:=gx;clear gx h2;rw[tM]at gF;have hb:(pre++bc xs[i].bs++post)[pre.length+A]?=some (.int .u8 (xs[i].bs[A].toNat:Int)):=by
  rw[dv,getElem?_append_right (by omega),show pre.length+A-pre.length=A from by omega,lS (by rw[dw];exact hA)];simp[bc,hA]
 refine RN 8 E I λa E=>?_;refine SS E (ag E (gF.2.2.2)) λa E=>?_;refine RN 2 E I λa E=>?_;refine SS E (ag E (I.bB hb)) λa E=>?_;refine ST 3 E I (λa w E I=>?_) (hlt:=(by simp only[aL,dw];omega));refine RT 2 E I ?_;refine⟨rfl,?_⟩;rw[yx (by rw[dw];exact hA),MG]at I;have h7:=U.iG (n:=xs[i].bs.length) (c:=xs[i].c) (sz:=1) (I.jD bb) (by rw[dw,br,Nat.mul_one]) h4 h6;obtain⟨m',wB⟩:∃ m':cY,m'=⟨xs[i].frm,xs[i].to,xs[i].ad,xs[i].c,xs[i].bs.set A (xs[i].bs[A] ^^^ x)⟩:=⟨_,rfl⟩;have F7:m'.own=Sl 5 1 (some ⟨bb,pre.length,none⟩) xs[i].bs.length xs[i].c (bc (xs[i].bs.set A (xs[i].bs[A] ^^^ x))):=by
  rw[wB,cY.own];simp only[br,tM]
 rw[← F7]at h7;have h8:=fI.MA (a:=xs.take i) (b:=xs.drop (i+1)) (m:=m') ((h7.pick (fI (xs.take i++xs.drop (i+1)))).pick m'.own);have va:xs.set i m'=xs.take i++m'::xs.drop (i+1):=by rw[set_eq_take_append_cons_drop,ak dF]
 rw[← va]at h8;refine (bJ.shut (q:=q) (ad:=some ⟨b',dB,none⟩) (xs:=xs.set i m') (ms:=(xs.map cY.m).set i (xs[i].frm,xs[i].to,xs[i].bs.set A (xs[i].bs.getD A 0 ^^^ x))) h8 (by rw[br]) ?_ ?_ (by rw[br];exact hx.1) ?_).sub
 ·rw[va]
  conv=>lhs;rw[h0]
  rw[Bd,Bd]
  congr 1
  simp only[iE,flatMap_cons]
  congr 1
  rw[wB,cY.cells,cY.cells];simp only[br]
 ·rw[List.map_set,wB,cY.m,bl,aI hA,Option.getD_some]
 ·intro y hy;rcases mem_or_eq_of_mem_set hy with h | h
  ·exact hx.2 y h
  ·rw[h,wB];simp only[br];exact hx.2 _ (getElem_mem dF)
end
section
theorem abe {l:List Br}{frm:Int}{P:List (List UInt8)}(b:Br)(h:0<(l.foldl (hU frm P) b).done)(hb:b.done=0) :
   l.foldl (hU frm P) b∈l∧(l.foldl (hU frm P) b).done≤P.length∧oZ ((l.foldl (hU frm P) b).al.take (l.foldl (hU frm P) b).done) P=true:=by
 have key:∀ (l:List Br) (b:Br),(l.foldl (hU frm P) b=b)∨(l.foldl (hU frm P) b∈l∧(l.foldl (hU frm P) b).done≤P.length∧oZ ((l.foldl (hU frm P) b).al.take (l.foldl (hU frm P) b).done) P=true):=by
  intro l
  induction l with
  | nil=>intro b;exact .inl rfl
  | cons y l ih =>
   intro b;rw[foldl_cons];rcases ih (hU frm P b y) with h | ⟨h1,h2,h3⟩
   ·rw[h];unfold hU;split
    ·rename_i hc;exact .inr ⟨mem_cons_self ..,hc.2.2.1,hc.2.2.2⟩
    ·exact .inl rfl
   ·exact .inr ⟨gO _ h1,h2,h3⟩
 rcases key l b with h1 | h1
 ·rw[h1,hb]at h;omega
 ·exact h1
theorem abf {u P:List (List UInt8)}(hl:u.length≤P.length)(h:oZ u P=true):u=P.take u.length:=by
 have h1:=Ww.1 h;rw[Nat.min_eq_left hl,take_length]at h1;exact h1
theorem MH (p:Pr):∀ (a b:List (List UInt8)) (fr:Int) (g:Nat→Int),foldI p fr g (a++b)=foldI p (fr+(a.length:Nat)) (foldI p fr g a) b
 | [],b,fr,g=>by simp[foldI]
 | x::a,b,fr,g=>by
  rw[cons_append,foldI,MH p a b,foldI,e7]
  congr 1;omega
theorem iJ.drop {w:World}{ad:Option Addr}{zs:List ea}{d c:Nat}(h:iJ w ad zs)(hc:zs.length≤c):iJ w (fk ad d c 1) (zs.drop d):=by
 refine⟨λh0=>?_,λx hx=>h.2 x (List.mem_of_mem_drop hx)⟩;rw[c6]at h0;obtain⟨b,o,rfl,hr⟩:=h.1 (by omega);refine⟨b,o+d*1,oP (by omega),λj v hj=>?_⟩;rw[map_drop,getElem?_drop]at hj;have:=hr _ v hj;rw[Nat.mul_one,Nat.add_assoc];exact this
theorem MJ {w:World}{b nk base front:Nat}{p:Pr}{M:ji}(h:Rd w b 0 (dR p M nk base front)):Rd w b 1 (bP p M.aq M.cO):=h.part 1 2
theorem abg {p:Pr}{f:Nat}{g:Nat→Int}{P:List (List UInt8)}{d:Nat}(hd:d≤P.length):foldI p ((f+d:Nat):Int) (foldI p (f:Int) g (P.take d)) (P.drop d)=foldI p (f:Int) g P:=by
 have h1:=MH p (P.take d) (P.drop d) (f:Int) g;rw[jE,et,Nat.min_eq_left hd]at h1;rw[h1];rfl
section
variable {W w:World}{L:List SP}{n c i N tq sq r base front:Nat}{ad:Option Addr}{M:ji}{B:iR}{p:Pr}{s:Pl}{m:Mu}{A:Sn}{T:Tr}{t:Nat→Nat}{px:aC}
set_option maxHeartbeats 1000000 in
theorem abh (I:U W w (aD W M p m::L))(h:MI p M N m)(a1:dg p)(aE:p.title.size≤1000000000):Calls prog 265 #[pt M.mb] w λr V=>∃ ad c,r=.returned (.tuple #[.slice ad 128 c,.int .i64 (fx p M.B.gs m.s).2])∧U W V (Sl 5 1 ad 128 c (bc (fx p M.B.gs m.s).1)::aD W M p m::L):=by
 have hw:=h.wf;have bN:=hw.wc.kR;have iB:m.s.k.ls.length≤8:=by rw[hw.wc.ls];exact hw.wc.n.2
 have gJ:=hw.wc.lM;have jx:aU m.s.k.ls≤aF m.s.k:=hw.wc.nA;have fy:=h.gs;have fo:=h.front;obtain⟨t,hI⟩:=h.inv;obtain⟨i,px,g9,kK⟩:=hI.lZ (mem_cons_self ..);have sm:=(hI.base px (bK g9) kK).1;have kL:=Tree.wt ((aD.open I).tree M.tq);clear h;obtain⟨s,A,T,J,ks,base,front⟩:=m;simp only at hw bN iB gJ jx fo hI g9 kK sm kL;subst fo;refine EN func265 ntmps265 rfl rfl λa E=>?_;refine CL 5 E I (AI I) λa w E I=>?_;replace I:=aP.open ((aD.open I).pick (aP W M.B p s));dsimp only at I;refine CL 0 E I (sM (I.pick (az M.B.core s.k)) hw.wc) λa w E I=>?_;refine RN 1 E I λa E=>?_;replace I:=aP.fold I M.B p s;refine aZ 2 (λw0 V=>Rd V M.mb 0 (dR p M ks.length base (ax s.k))) [8,9,10] [0,1,2,3,4,5,7,3006,1008,1009,1010,11,12,13,14,15,16,17,1018,19,20] E I λa w E I hH=>?_;have hC:=hH.at w (I.ai (b:=M.mb));refine RH 3 E I hH hC λa E=>?_;replace E:=E.aN 15;refine RH 4 E I hH hC λa E=>?_;refine QH E (λw hc=>ag E (hc 8 _ rfl)) hC λa E=>?_;replace I:=aD.fold I M p ⟨s,A,T,J,ks,base,ax s.k⟩;refine RH 0 E I hH hC λa E=>?_;refine CL 0 E I (AI I) λa w E I=>?_;replace hC:=hH.at w ((aD.open I).ai (b:=M.mb));replace I:=aP.open ((aD.open I).pick (aP W M.B p s));dsimp only at I;refine RH 0 E I hH hC λa E=>?_;refine CL 0 E I (ow (I.pick (az M.B.core s.k))) λa w E I=>?_;replace hC:=hH.at w (I.ai (b:=M.mb));obtain⟨D,I,hD⟩:=az.qu I;refine RH 0 E I hH hC λa E=>?_;refine CL 0 E I (re I bN iB) λa w E I=>?_;replace hC:=hH.at w (I.ai (b:=M.mb));refine RH 1 E I hH hC λa E=>?_;rw[show decide (((ax s.k:Nat):Int)≠((aU s.k.ls:Nat):Int))=false from IM]at E;refine RH 2 E I hH hC λa E=>?_;replace E:=E.aN 26;refine RH 4 E I hH hC λa E=>?_;refine bE E (cS E rfl (s:=26)) (ag E (hC 8 _ rfl)) rfl λa E=>?_;refine RH 2 E I hH hC λa E=>?_;replace I:=aD.fold (aP.fold (hD _ _ I) M.B p s) M p ⟨s,A,T,J,ks,base,ax s.k⟩;refine IF 0 E I (λaj a E=>?_) λaj a E=>?_
 ·
  refine CL 2 E I (sW I) λa w E I=>?_;replace I:=aD.open I;dsimp only at I;refine aY 0 E I (Lt (I.pick (aP W M.B p s)) hw a1 aE fy) λad c a w E I=>?_;refine RT 4 E I ?_;exact⟨ad,c,rfl,(aD.fold I M p ⟨s,A,T,J,ks,base,ax s.k⟩).sub⟩
 have hhf:ax s.k<aF s.k:=by omega
 refine RN 1 E I λa E=>?_;replace I:=aD.open I;dsimp only at I;refine aZ 0 (λw0 V=>Rd V M.mb 0 (dR p M ks.length base (ax s.k))) [1,2] [0,3,4,5,8,3006,1001,1002,1007,1009,10] E I λa w E I hH=>?_;have hC:=hH.at w (I.ai (b:=M.mb));refine RH 5 E I hH hC λa E=>?_;refine QH E (λw hc=>ag E (hc 0 _ rfl)) hC λa E=>?_;replace I:=aD.fold I M p ⟨s,A,T,J,ks,base,ax s.k⟩;refine RH 0 E I hH hC λa E=>?_;refine CL 0 E I (AI I) λa w E I=>?_;replace hC:=hH.at w ((aD.open I).ai (b:=M.mb));replace I:=aP.open ((aD.open I).pick (aP W M.B p s));dsimp only at I;refine RH 0 E I hH hC λa E=>?_;refine CL 0 E I (ow (I.pick (az M.B.core s.k))) λa w E I=>?_;replace hC:=hH.at w (I.ai (b:=M.mb));replace I:=aP.fold I M.B p s;refine RH 0 E I hH hC λa E=>?_;refine CL 0 E I (LD (I.pick (aP W M.B p s))) λa w E I=>?_;replace I:=aP.open (I.pick (aP W M.B p s));obtain⟨D,I,hD⟩:=az.qu (I.pick (az M.B.core s.k));refine jI 0 E I (Fg (r:=0) (to:=aF s.k) (.inl rfl) (by decide) I fy bN iB hw.wc.m5 gJ (λV dd=>(dd.pick (Sl 5 1 M.B.adT M.B.gs.table.length M.B.cT (bc M.B.gs.table))).cF M.B.adT _ rfl rfl)) λfS ga X a w E ⟨⟨sU,ic⟩,I⟩=>?_;have mq:=ic rfl;subst mq;rw[wi]at I;replace I:=I.sub (M:=Qu M.B.core.qb M.B.core.aB s.k.ls::D::b9 fS (aF s.k-aU s.k.ls) ga (dt M.B.gs s.k.ls (aF s.k))::aa M.B.pb 192 (gp p M.B s.g)::aA W p M.B.aq M.B.cO::Sl 5 1 M.B.adT M.B.gs.table.length M.B.cT (bc M.B.gs.table)::aa M.mb 177 (dR p M ks.length base (ax s.k))::aA W p M.aq M.cO::Sl 179 1 M.du ks.length M.dA (gI ks)::ah (eY p M.aq M.cO M.tq M.jq M.sq) ks::Tree M.tq M.sq T::aw M.sq M.r A::bI M.jq J::L);replace I:=aD.fold (aP.fold (hD _ _ I) M.B p s) M p ⟨s,A,T,J,ks,base,ax s.k⟩;have hO:(dt M.B.gs s.k.ls (aF s.k)).length=aF s.k-aU s.k.ls:=vT _ _ _;have mx:∀ b∈dt M.B.gs s.k.ls (aF s.k),b.length≤1099511627776:=λb hb=>by
  rw[dt,c1]at hb;obtain⟨i,_,rfl⟩:=hb;rw[m3,iQ,bd];omega
 have MK:fx p M.B.gs s=(gj (foldI p (ax s.k) s.g (dt M.B.gs s.k.ls (aF s.k))),aF s.k):=by rw[fx,ae (by omega)]
 clear ic sU;generalize dt M.B.gs s.k.ls (aF s.k)=P at I hO mx MK;rw[← hO]at E I;rw[MK];have AT:=(b9.le (I.pick (b9 fS P.length ga P))).2;refine RN 1 E I λa E=>?_;refine RN 1 E I λa E=>?_;replace I:=aD.open I;dsimp only at I;refine RN 5 E I λa E=>?_;replace I:=aD.fold I M p ⟨s,A,T,J,ks,base,ax s.k⟩;refine CL 0 E I (Fk I g9 kK) λa w E I=>?_;refine AL 0 E I λcG a w E I=>?_;change U W w (aa cG 183 (ints .i32 32 (λ_=>0))::_) at I;refine SA 0 E I λa w E I=>?_;refine RN 1 E I λa E=>?_;refine b7 (M:=λa w=>∃ (d:Nat) (g1:Nat→Int),(d≤P.length∧foldI p ((ax s.k+d:Nat):Int) g1 (P.drop d)=foldI p (ax s.k:Int) s.g P∧dM g1)∧Fr a 92 [(0,pt M.mb),(4,.int .i64 (aF s.k)),(5,.slice fS P.length ga),(6,pt cG),(7,.int .i64 d)]∧U W w (aa cG 183 (ints .i32 32 g1)::b9 fS P.length ga P::aD W M p ⟨s,A,T,J,ks,base,ax s.k⟩::L)) ?_ ?_
 ·
  refine b7 (M:=λa w=>∃ (b8:Nat) (hX:Option Addr) (cb:Nat),Fr a 92 [(0,pt M.mb),(4,.int .i64 (aF s.k)),(5,.slice fS P.length ga),(6,pt cG),(7,.int .i64 0),(8,pt b8),(9,.bool (decide (0<(T.fG (ax s.k:Int) P).done)))]∧U W w (aa b8 238 (ca (T.fG (ax s.k:Int) P) hX cb)::aa cG 183 (ints .i32 32 s.g)::b9 fS P.length ga P::aD W M p ⟨s,A,T,J,ks,base,ax s.k⟩::L)) ?_ ?_
  ·
   refine RN 0 E I λa E=>?_;rw[sm]at I;replace I:=aD.open (I.pick (aD W M p ⟨s,A,T,J,ks,base,ax s.k⟩));dsimp only at I;refine aZ 0 (λw0 V=>Rd V M.mb 0 (dR p M ks.length base (ax s.k))) [7,13] [0,1,2,4,5,6,8,3003,3007,2009,10,11,12,1013,1014,15] E I λa w E I hH=>?_;have hC:=hH.at w (I.ai (b:=M.mb));refine RH 7 E I hH hC λa E=>?_;refine QH E (λw hc=>ag E (hc 4 _ rfl)) hC λa E=>?_;refine QH E (λw hc=>ag E (hc 8 _ rfl)) hC λa E=>?_;refine RH 0 E I hH hC λa E=>?_;refine DN [(9,[10,11,12,1013,1014,15]),(13,[1009,10,11,12,1014,15])] (by kernel_rfl) rfl ⟨⟨_,rfl,?_⟩,⟨_,rfl,?_⟩,trivial⟩
   ·
    refine RH 0 E I hH hC λa E=>?_;refine aY 0 E I (Ix (p:=P) (I.tree M.tq) (λV h=>b9.rd (h.pick (b9 fS P.length ga P))) AT ⟨by omega,mx⟩) λhX cb a w E I=>?_;refine RN 3 E I λa E=>?_;refine eR E rfl I Ty.t238 rfl λb8 a w E I ho=>?_;clear ho;replace hC:=hH.at w (I.ai (b:=M.mb));refine RH 0 E I hH hC λa E=>?_;refine SA 0 E I λa w E I=>?_;refine RN 1 E I λa E=>?_;exact⟨_,hX,cb,E.ab [0,4,5,6,7,8,9],(aD.fold I M p ⟨s,A,T,J,ks,base,ax s.k⟩).sub⟩
   refine RH 0 E I hH hC λa E=>?_;refine eR E rfl I Ty.t238 rfl λb8 a w E I ho=>?_;clear ho;replace hC:=hH.at w (I.ai (b:=M.mb));refine RH 0 E I hH hC λa E=>?_;refine aY 0 E I (Ix (p:=P) (I.tree M.tq) (λV h=>b9.rd (h.pick (b9 fS P.length ga P))) AT ⟨by omega,mx⟩) λhX cb a w E I=>?_;refine SA 3 E I λa w E I=>?_;refine RN 1 E I λa E=>?_;exact⟨_,hX,cb,E.ab [0,4,5,6,7,8,9],(aD.fold I M p ⟨s,A,T,J,ks,base,ax s.k⟩).sub⟩
  clear E;(try clear I);rintro a w ⟨b8,hX,cb,E,I⟩;refine IF 2 E I (λao a E=>?_) λao a E=>?_
  ·
   obtain⟨pA,nW,ML⟩:=abe (l:=T.l) (frm:=(ax s.k:Int)) (P:=P) l6 (by simpa [Tr.fG] using ao) rfl;change T.fG (ax s.k:Int) P∈T.l at pA;obtain⟨j,pb,F8,MM⟩:=hI.IP pA;have abi:=(hI.fY _ pA).2 pb (bK F8) MM;have abj:=(hI.au pb (bK F8)).2;refine aZ 0 (λw0 V=>Rd V b8 0 (ca (T.fG (ax s.k:Int) P) hX cb)) [3,5,6] [0,1,4,3002,3005,1003,1006,7] E I λa w E I hH=>?_;have hC:=hH.at w (I.ai (b:=b8));refine RH 3 E I hH hC λa E=>?_;refine QH E (λw hc=>ag E (hc 4 _ rfl)) hC λa E=>?_;refine QH E (λw hc=>ag E (hc 3 _ rfl)) hC λa E=>?_;refine RH 0 E I hH hC λa E=>?_;refine CL 0 E I (Fk (I.pick (aD W M p ⟨s,A,T,J,ks,base,ax s.k⟩)) F8 MM) λa w E I=>?_;replace hC:=hH.at w (I.ai (b:=b8));refine RH 0 E I hH hC λa E=>?_;refine SA 0 E I λa w E I=>?_;replace hC:=hH.at w (I.ai (b:=b8));refine RH 1 E I hH hC λa E=>?_;change (T.fG (ax s.k:Int) P).done≤P.length at nW;change oZ ((T.fG (ax s.k:Int) P).al.take (T.fG (ax s.k:Int) P).done) P=true at ML;have dm:=(kL.ok _ pA).2.1;generalize T.fG (ax s.k:Int) P=bb at *;have e1:bb.al.take bb.done=P.take bb.done:=by
    have:=abf (u:=bb.al.take bb.done) (P:=P) (by rw[et];omega) ML
    rwa [et,Nat.min_eq_left dm]at this
   exact⟨bb.done,pb.g,⟨nW,by rw[abi,e1];exact abg nW,abj⟩,E.ab [0,4,5,6,7],I.sub⟩
  refine RN 0 E I λa E=>?_;exact⟨0,s.g,⟨Nat.zero_le _,rfl,hw.pv a1⟩,E.ab [0,4,5,6,7],I.sub⟩
 clear E;(try clear I);rintro a w ⟨d,g1,⟨ma,AY,abk⟩,E,I⟩;refine RN 1 E I λa E=>?_;replace I:=aD.open (I.pick (aD W M p ⟨s,A,T,J,ks,base,ax s.k⟩));dsimp only at I;obtain⟨zs,c0,eL,I⟩:=b9.open (I.pick (b9 fS P.length ga P));have iU:zs.length=P.length:=by rw[← c0,bd]
 refine aZ 0 (λw0 V=>Rd V M.mb 0 (dR p M ks.length base (ax s.k))∧Rd V cG 0 (ints .i32 32 g1)) [4,8,10] [0,1,2,5,6,7,9,11,12,13,16,3003,3004,1008,1010,1014,1015,17,18] E I λa w E I hH=>?_;have hC:=hH.at w ⟨I.ai (b:=M.mb),I.ai (b:=cG)⟩;refine RH 10 E I hH hC λa E=>?_;rw[show P.length-d=(P.drop d).length from (c6 ..).symm]at E;refine RH 1 E I hH hC λa E=>?_;refine QH E (λw hc=>bT E underlying45 rfl Ty.t45 (MJ hc.1)) hC λa E=>?_;refine QH E (λw hc=>bT E underlying183 rfl Ty.t183 (hc.2)) hC λa E=>?_;refine RH 0 E I hH hC λa E=>?_;refine SS E (ag E (hC.1 8 _ rfl)) λa E=>?_;refine RH 1 E I hH hC λa E=>?_;rw[show ((ax s.k:Nat):Int)+(d:Int)=((ax s.k+d:Nat):Int) from rfl]at E;refine CL 0 E I (K0 (P:=P.drop d) (zs:=zs.drop d) (fr:=((ax s.k+d:Nat):Int)) (I.pick (aA W p M.aq M.cO)) a1 aE abk ⟨by rw[c6];omega,λb hb=>mx b (List.mem_of_mem_drop hb)⟩ ⟨by omega,by have:ax s.k≤1000:=gN jx gJ;omega⟩ (by rw[map_drop,c0]) (λV h=>(U.lY (h.sub (M:=Sl 22 1 fS P.length ga (zs.map aM)::ah a7 zs::[]))).drop (by omega))) λa w E I=>?_;refine aY 0 E I (xV I) λad2 c2 a w E I=>?_;refine RN 2 E I λa E=>?_;refine RT 0 E I ?_;rw[AY]at I;exact⟨ad2,c2,rfl,(aD.fold I M p ⟨s,A,T,J,ks,base,ax s.k⟩).sub⟩
end
end
section
section
variable {W w:World}{L:List SP}{n c cP cT nb nw rm me aK bt:Nat}{adP adT:Option Addr}{M:ji}{B:iR}{x:UInt8}{p:Pr}{s:Pl}{m:Mu}{tb:List UInt8}{cf:Cf}{y id ba order ct workers room:Int}
set_option maxHeartbeats 1000000 in
theorem abl (I:U W w (aA W p adP cP::L))(hm:eN ⟨n,me,id,aK,bt,ba,order,nb,nw,rm⟩)(a1:dg p)(fy:cR ⟨ba,order,tb⟩)(aE:p.title.size≤1000000000)(dW:p.ops.length≤1000000000)(eJ:tb.length≤1099511627776)(hT:∀ V,U W V (aA W p adP cP::L)→a6 V adT tb.length tb) :
   Calls prog 59 #[.agg (cc ⟨n,me,id,aK,bt,ba,order,nb,nw,rm⟩).toArray,.agg (bP p adP cP).toArray,.slice adT tb.length cT] w λr V=>∃ (M:ji) (m:Mu),r=.returned (.tuple #[pt M.mb,.int .i64 0]) ∧
    (M.B.gs=⟨ba,order,tb⟩∧m.s=ez p ⟨n,me,id,aK,bt,ba,order,nb,nw,rm⟩∧MI p M 1 m∧m.T.l=[]∧m.J=[]∧∀ k∈m.ks,k.1=kH)∧U W V (aD W M p m::aA W p adP cP::L):=by
 obtain⟨cf,c5⟩:∃ cf:Cf,cf=⟨n,me,id,aK,bt,ba,order,nb,nw,rm⟩:=⟨_,rfl⟩;have cD:=hm;simp only[eN,fv]at cD;obtain⟨⟨h1,h2,h3⟩,⟨h4,h5,h6,h7⟩,h8,h9,fF,mO⟩:=cD;rw[← c5];refine EN func59 ntmps59 rfl rfl λa E=>?_;refine BX 1 E I λb3 a w E I=>?_;change U W w (aa b3 28 (cc cf)::_) at I;refine BX 0 E I λb4 a w E I=>?_;change U W w (aa b4 45 (bP p adP cP)::_) at I;refine RN 6 E I λa E=>?_;rw[c5]at E;refine bg 0 E I (Lw (tb:=tb) (I.pick (aA W p adP cP)) hm a1 fy aE dW eJ (λV hw=>hT V hw.sub)) λB a w E ⟨MN,I⟩=>?_;rw[← c5]at I;refine RN 9 E I λa E=>?_;replace E:=E.aN 19;refine RN 2 E I λa E=>?_;replace I:=I.bM 114 4 none;rw[bP]at I;refine RN 2 E I λa E=>?_;refine gV E rfl I underlying43 Ty.t114 rfl rfl (by decide) (λh0=>(I.pick (aA W p adP cP)).qQ adP h0) (by rw[iW CQ]) (yZ IB _) (by omega) λgm gn a w E I=>?_;rw[nil_append,Nat.zero_add]at I;rw[Nat.zero_add]at E;refine ST 1 E I (λa w E I=>?_);refine RN 1 E I λa E=>?_;replace I:=(I.pick (Sl 114 4 gm p.ops.length gn (rows dL p.ops))).CS;refine aZ 0 (λw0 V=>Rd V b3 0 (cc cf)∧Rd V b4 0 [.string p.title,.slice gm p.ops.length gn]) [3,4,5] [0,2,3001,1003,1004,1005,6,1007,8] E I λa w E I hH=>?_;have hC:=hH.at w ⟨I.ai (b:=b3),I.ai (b:=b4)⟩;refine RH 2 E I hH hC λa E=>?_;refine QH E (λw hc=>bT E underlying45 rfl Ty.t45 (hc.2)) hC λa E=>?_;refine RH 0 E I hH hC λa E=>?_;refine SS E (ag E (hC.1 9 _ rfl)) λa E=>?_;rw[show cf.room=(rm:Int) from by rw[c5]]at E;refine RH 0 E I hH hC λa E=>?_;refine aY 0 E I (TT (n:=rm) I (by omega)) λsq r a w E I=>?_;replace hC:=hH.at w ⟨I.ai (b:=b3),I.ai (b:=b4)⟩;refine RH 0 E I hH hC λa E=>?_;refine bg 0 E I (UE I) λjq a w E I=>?_;replace hC:=hH.at w ⟨I.ai (b:=b3),I.ai (b:=b4)⟩;refine RH 1 E I hH hC λa E=>?_;refine wP E rfl I rfl λgC a w E I ho=>?_;clear ho;change U W w (aa gC 177 [pt B.pb,.string p.title,.slice gm p.ops.length gn,pt sq,.pointer none,pt jq,.slice none 0 0,.int .i64 0,.int .i64 0]::_) at I;refine RN 1 E I λa E=>?_;refine aZ 1 (λw0 V=>Rd V b3 0 (cc cf)∧V.cell? ⟨gC,3,none⟩=some (pt sq)) [6] [0,1,2,3,5,3004,1006,1007,8,9,1010] E I λa w E I hH=>?_;have hC:=hH.at w ⟨I.ai (b:=b3),(I.ai (b:=gC)) 3 _ rfl⟩;refine RH 5 E I hH hC λa E=>?_;refine QH E (λw hc=>ag E (hc.2)) hC λa E=>?_;refine RH 0 E I hH hC λa E=>?_;refine SS E (ag E (hC.1 7 _ rfl)) λa E=>?_;rw[show cf.ct=(nb:Int) from by rw[c5]]at E;refine RH 0 E I hH hC λa E=>?_;refine bg 0 E I (T7 (m:=(nb:Int)) I) λtq a w E I=>?_;rw[show (min (max (nb:Int) 0) 8).toNat=nb from by omega]at I;refine ST 2 E I (λa w E I=>?_);refine RN 3 E I λa E=>?_;refine SS E (ag E ((I.ai (b:=b3)) 8 _ rfl)) λa E=>?_;rw[show cf.workers=(nw:Int) from by rw[c5]]at E;refine RN 1 E I λa E=>?_;refine aR (λμ a w=>∃ (ks:List Kx) (du:Option Addr) (dA:Nat),(μ=nw-ks.length∧ks.length≤nw∧(∀ k∈ks,k.1=kH))∧Fr a 93 [(3,pt b3),(8,pt B.pb),(10,pt gC),(44,.int .i64 nw),(45,.int .i64 ks.length)]∧U W w (aa gC 177 (dR p ⟨gC,B,sq,r,tq,jq,du,dA,gm,gn⟩ ks.length 0 0)::Sl 179 1 du ks.length dA (gI ks)::ah (eY p gm gn tq jq sq) ks::aa b3 28 (cc cf)::aP W B p (ez p cf)::aA W p gm gn::aA W p adP cP::Tree tq sq ⟨nb,[],0,0⟩::aw sq r ⟨0,4*rm,0,[]⟩::bI jq []::L)) (nw) (⟨[],none,0,⟨by simp,by simp,λk hk=>by cases hk⟩,E.ab [3,8,10,44,45],(show U W w (Sl 179 1 none ([]:List Kx).length 0 (gI [])::ah (eY p gm gn tq jq sq) []::aa gC 177 (dR p ⟨gC,B,sq,r,tq,jq,none,0,gm,gn⟩ ([]:List Kx).length 0 0)::_) from (I.iI (f:=eY p gm gn tq jq sq)).bM 179 1 none).sub⟩) ?_;clear E I;rintro μ a w ⟨ks,du,dA,⟨rfl,eH,uM⟩,E,I⟩;refine IF 3 E I (λao a E=>?_) λao a E=>?_
 ·
  refine aZ 1 (λw0 V=>Rd V gC 0 (dR p ⟨gC,B,sq,r,tq,jq,du,dA,gm,gn⟩ ks.length 0 0)) [8,12,16,20,21,22] [0,1,2,3,5,6,7,9,10,11,13,14,15,17,18,19,3004,3008,3012,3016,1020,1021,1022,1023,24,25,1026] E I λa w E I hH=>?_;have hC:=hH.at w (I.ai (b:=gC));refine RH 16 E I hH hC λa E=>?_;refine QH E (λw hc=>ag E (hc 6 _ rfl)) hC λa E=>?_;refine QH E (λw hc=>bT E underlying45 rfl Ty.t45 (MJ hc)) hC λa E=>?_;refine QH E (λw hc=>ag E (hc 4 _ rfl)) hC λa E=>?_;refine QH E (λw hc=>ag E (hc 5 _ rfl)) hC λa E=>?_;refine RH 0 E I hH hC λa E=>?_;refine SS E (ag E (hC 3 _ rfl)) λa E=>?_;refine RH 0 E I hH hC λa E=>?_;refine bg 0 E I (WA I) λwb a w E I=>?_;replace hC:=hH.at w (I.ai (b:=gC));refine RH 0 E I hH hC λa E=>?_;refine cn E rfl I underlying175 Ty.t179 rfl rfl rfl rfl (by decide) (by decide) λb69 a w E I ho=>?_;clear ho;replace hC:=hH.at w (I.ai (b:=gC));refine RH 0 E I hH hC λa E=>?_;refine cI E rfl I underlying175 Ty.t179 rfl rfl I.ai rfl (by simp[Value.oneCell']) (by decide) (by decide) (by omega) λuN uO a w E I=>?_;refine ST 2 E I (λa w E I=>?_);have o8:U W w (aa gC 177 (dR p ⟨gC,B,sq,r,tq,jq,uN,uO,gm,gn⟩ (ks++[(kH,wb)]).length 0 0)::Sl 179 1 uN (ks++[(kH,wb)]).length uO (gI (ks++[(kH,wb)]))::aa wb 247 (cv p gm gn tq jq sq kH)::ah (eY p gm gn tq jq sq) ks::aa b3 28 (cc cf)::aP W B p (ez p cf)::aA W p gm gn::aA W p adP cP::Tree tq sq ⟨nb,[],0,0⟩::aw sq r ⟨0,4*rm,0,[]⟩::bI jq []::L):=by
   have e1:(ks++[(kH,wb)]).length=ks.length+1:=by simp
   have e2:gI (ks++[(kH,wb)])=gI ks++[pt wb]:=by simp[gI]
   rw[e1,e2];change U W w (aa gC 177 (dR p ⟨gC,B,sq,r,tq,jq,uN,uO,gm,gn⟩ (ks.length+1) 0 0)::Sl 179 1 uN (ks.length+1) uO (gI ks++[pt wb])::_) at I;exact I.sub
  have MO:=U.jG (f:=eY p gm gn tq jq sq) (x:=(kH,wb)) (l:=ks) (o8.sub (M:=aa wb 247 (cv p gm gn tq jq sq kH)::ah (eY p gm gn tq jq sq) ks::aa gC 177 (dR p ⟨gC,B,sq,r,tq,jq,uN,uO,gm,gn⟩ (ks++[(kH,wb)]).length 0 0)::Sl 179 1 uN (ks++[(kH,wb)]).length uO (gI (ks++[(kH,wb)]))::aa b3 28 (cc cf)::aP W B p (ez p cf)::aA W p gm gn::aA W p adP cP::Tree tq sq ⟨nb,[],0,0⟩::aw sq r ⟨0,4*rm,0,[]⟩::bI jq []::L));replace I:=MO;clear o8 MO;refine RN 2 E I λa E=>?_;have abm:(ks++[(kH,wb)]).length=ks.length+1:=by simp
  refine⟨nw-(ks.length+1),by omega,ks++[(kH,wb)],uN,uO,⟨by omega,by omega,λk hk=>?_⟩,?_,I.sub⟩
  ·rcases eM.1 hk with hk | hk
   ·exact uM k hk
   ·rw[mem_singleton.1 hk]
  ·rw[abm];exact E.ab [3,8,10,44,45]
 refine aZ 1 (λw0 V=>Rd V gC 0 (dR p ⟨gC,B,sq,r,tq,jq,du,dA,gm,gn⟩ ks.length 0 0)) [6] [0,1,2,3,5,3004,1006,1007,8,9,10,11,12,1013] E I λa w E I hH=>?_;have hC:=hH.at w (I.ai (b:=gC));refine RH 5 E I hH hC λa E=>?_;refine QH E (λw hc=>ag E (hc 3 _ rfl)) hC λa E=>?_;refine RH 0 E I hH hC λa E=>?_;refine CL 0 E I (LC (I.pick (aP W B p (ez p cf)))) λa w E I=>?_;replace hC:=hH.at w (I.ai (b:=gC));refine RH 0 E I hH hC λa E=>?_;refine bg 0 E I (Ig (g:=(ez p cf).g) (I.store sq) (by simp[Sn.used,TS];omega) (by simp)) λt a w E ⟨⟨ZJ,Fo⟩,I⟩=>?_;refine ST 5 E I (λa w E I=>?_);refine RN 3 E I λa E=>?_;refine SS E (ag E ((I.ai (b:=b3)) 3 _ rfl)) λa E=>?_;rw[show cf.aK=(aK:Int) from by rw[c5]]at E;refine ST 2 E I (λa w E I=>?_);change U W w (aa gC 177 (dR p ⟨gC,B,sq,r,tq,jq,du,dA,gm,gn⟩ ks.length 1 aK)::_) at I;refine RT 4 E I ?_;obtain rfl:ks.length=nw:=by omega
 have gL:=aD.fold I ⟨gC,B,sq,r,tq,jq,du,dA,gm,gn⟩ p ⟨ez p cf,(⟨0,4*rm,0,[]⟩:Sn).add (ez p cf).g t,⟨nb,[],0,0⟩,[],ks,1,aK⟩;refine⟨⟨gC,B,sq,r,tq,jq,du,dA,gm,gn⟩,⟨ez p cf,(⟨0,4*rm,0,[]⟩:Sn).add (ez p cf).g t,⟨nb,[],0,0⟩,[],ks,1,aK⟩,rfl,⟨MN,rfl,?_,rfl,rfl,uM⟩,gL.sub⟩;obtain⟨ps,ev,mr,hk⟩:∃ ps ev mr,(ez p cf).k={ fg cf with ps:=ps,ev:=ev,mr:=mr }:=(vZ (p:=p) (c:=cf) (by rw[c5];exact hm)).ey.2.2;have F9:cw p (ez p cf):=cw.new (by rw[c5];exact hm);have hfd:ax (ez p cf).k=aK:=by
  obtain⟨l,kD,l3⟩:=Ai F9.wc.kR;rw[ax,l3];rw[hk]at kD;have hl3:l∈List.replicate cf.n.toNat (List.replicate cf.aK.toNat 0):=kD;rw[(List.mem_replicate.1 hl3).2,jK,c5];rfl
 have bO:∀ k∈ks.map (·.1),k=kH:=λk hk=>by
  obtain⟨y,hy,rfl⟩:=c1.1 hk;exact uM y hy
 exact { wf:=F9,gs:=by rw[MN];exact fy,front:=hfd.symm,fY:=λy hy=>(by cases hy),J:=by simp,most:=by rw[hk,c5];rfl,workers:=by rw[hk,c5];rfl,ks:=by dsimp only;omega,room:=⟨by rw[hk,c5];simp only[Sn.add,fg];omega,by simp only[Sn.add];omega⟩,n:=⟨bf _,Nat.zero_le _,Nat.zero_le _⟩,inv:=⟨t,by
  refine⟨?_,λx hx=>?_,λx hx _=>?_,λy hy=>(by cases hy),λk hk=>?_⟩
  ·rw[LF (λk hk=>by rw[bO k hk];rfl)];exact List.Perm.refl _
  ·rw[mem_singleton.1 hx];exact⟨rfl,F9.pv a1⟩
  ·rw[mem_singleton.1 hx];exact⟨rfl,rfl⟩
  ·rw[bO k hk];exact⟨Int.le_refl _,λh=>(by cases h)⟩⟩ }
end
end
end Go.Proofs.YteoldcfapaiobaaGreat
