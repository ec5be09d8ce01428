/- quintainref21.Player. -/
import Derived.Test.YteoldcfapaiobaaGreatB13RefC
import Derived.Test.YteoldcfapaiobaaGreatB12Mul
import Derived.Test.YteoldcfapaiobaaGreatB10Core
namespace Go.Proofs.YteoldcfapaiobaaGreat
open Tryz
open List (mem_cons_self length_range take_succ_cons getElem?_drop set_eq_take_append_cons_drop perm_middle getElem?_append_right drop_left take_zero foldl_cons nil_append map_cons set_append_right set_append_left mem_range drop_eq_nil_of_le getElem_map eraseIdx_eq_take_drop_succ cons_append take_length append_nil mem_or_eq_of_mem_set getElem_mem map_take map_drop mem_singleton mem_of_mem_eraseIdx foldl_append length_filter_le flatMap_cons)
open Go.RowKit
set_option linter.unusedVariables false
set_option linter.unusedSimpArgs false
set_option maxRecDepth 10000
set_option synthInstance.maxSize 4000
set_option synthInstance.maxHeartbeats 400000
section
structure fU where
 pb:Nat
 core:nH
 aq:Option Addr
 cO:Nat
 adT:Option Addr
 cT:Nat
 gs:Gs
abbrev eV (p:Pr)(B:fU)(g:Nat→Int):List Value:=[pt B.core.cb,.string p.title,.slice B.aq p.ops.length B.cO,.int .i64 B.gs.kind,.int .i64 B.gs.order,.slice B.adT B.gs.table.length B.cT]++ints .i32 32 g
theorem MT {w:World}{b:Nat}{p:Pr}{B:fU}{g:Nat→Int}(h:Rd w b 0 (eV p B g)):Rd w b 1 (bw p B.aq B.cO):=h.part 1 2
theorem aaL {w:World}{b:Nat}{p:Pr}{B:fU}{g:Nat→Int}(h:Rd w b 0 (eV p B g)):Rd w b 3 (dr B.gs B.adT B.cT):=h.part 3 3
theorem Bl {w:World}{b:Nat}{p:Pr}{B:fU}{g:Nat→Int}(h:Rd w b 0 (eV p B g)):Rd w b 6 (ints .i32 32 g):=by
 have h1:=h.part 6 32
 rwa [show ((eV p B g).drop 6).take 32=ints .i32 32 g from by
  show (ints .i32 32 g).take 32=_;exact fY (by rw[dm];exact bk _)]at h1
theorem MU (p:Pr)(B:fU)(g:Nat→Int):(eV p B g).length=38:=by rw[eV,aM,dm];rfl
theorem aaM (p:Pr)(B:fU)(g g':Nat→Int):cD (eV p B g) 6 (ints .i32 32 g')=eV p B g':=by
 rw[cD,dm,drop_eq_nil_of_le (by rw[MU];exact bk _),append_nil,eV,eV]
 congr 1
def bZ (W:World)(B:fU)(p:Pr)(s:Pl):SP:=λh=>cn [aa B.pb 51 (eV p B s.g),a1 B.core s.k,ay W p B.aq B.cO] h
section
variable {W w:World}{L R:List SP}{n c i cP cT:Nat}{ad adP adT:Option Addr}{B:fU}{x:UInt8}{p:Pr}{s:Pl}{bs tb:List UInt8}{k:Ks}{C:nH}{A:mF}
theorem bZ.open (I:U W w (bZ W B p s::L)):U W w (aa B.pb 51 (eV p B s.g)::a1 B.core s.k::ay W p B.aq B.cO::L) :=
 I.open (M:=[_,_,_]) λ_ h=>h
theorem bZ.fold (I:U W w L)(B:fU)(p:Pr)(s:Pl)[kk:fE L [aa B.pb 51 (eV p B s.g),a1 B.core s.k,ay W p B.aq B.cO] R]:U W w (bZ W B p s::R) :=
 U.shut (M:=[_,_,_]) (I.perm kk.perm) λ_ h=>h
theorem F7 (I:U W w (bN C.lb C.lo C.cL k.ls::aa C.cb 72 (cZ k C A)::L))(hk:WC k):Calls prog 19 #[pt C.cb] w λr V=>r=.returned (.int .i64 (aw k))∧U W V (bN C.lb C.lo C.cL k.ls::aa C.cb 72 (cZ k C A)::L):=by
 have hn:=hk.n;have e6:=hk.ls;refine EN func19 ntmps19 rfl rfl λa E=>?_;refine RN 7 E I λa E=>?_;obtain⟨xs,bd,I⟩:=bN.open I;have b0:xs.length=k.ls.length:=by rw[← bd,gf]
 rw[← b0]at E;refine CL 0 E I (A6 (xs:=xs) I (by omega) (by omega) (λV hw=>U.oD hw)) λa w E I=>?_;refine RT 1 E I ?_;exact⟨by rw[bd];rfl,bN.close I bd⟩
theorem F8 (I:U W w (bZ W B p s::L))(hw:WP p s)(a7:db p)(aC:p.title.size≤1000000000):Calls prog 66 #[pt B.pb] w λr V=>r=.returned (.tuple #[])∧U W V (bZ W B p (eC p s)::L):=by
 refine EN func66 ntmps66 rfl rfl λa E=>?_;refine RN 0 E I λa E=>?_;refine aP (λμ a w=>∃ (i:Nat),(μ=aw s.k-s.k.mr.length-i∧i≤aw s.k-s.k.mr.length)∧Fr a 60 [(0,pt B.pb)]∧U W w (bZ W B p (il p i s)::L)) (aw s.k-s.k.mr.length) (⟨0,⟨rfl,by omega⟩,E.ab [0],I⟩) ?_;clear E I;rintro μ a w ⟨i,⟨rfl,hi⟩,E,I⟩;obtain⟨j2,e6,l4⟩:=hw.ql i hi;have fb:il p (i+1) s=nE p (il p i s):=EW p i s;have CI:=hw.low;have vp:aw (il p i s).k=aw s.k:=by rw[aw,e6];rfl
 generalize FC:il p i s=si at I j2 e6 l4 fb vp;replace I:=bZ.open I;have bP:=j2.wc.k0;have iE:si.k.ls.length≤8:=by rw[j2.wc.ls];exact j2.wc.n.2
 have wB:0<si.k.ls.length:=by rw[j2.wc.ls];have:=j2.wc.n;omega
 have Zo:aw si.k≤1000:=gF j2.wc.m7 j2.wc.lr;obtain⟨A,I⟩:=a1.open (I.pick (a1 B.core si.k));refine aY 2 (λw0 V=>Rd V B.pb 0 (eV p B si.g)∧Rd V B.core.cb 0 (cZ si.k B.core A)) [11,12] [0,1,2,8,9,10,3003,4,5,3006,7,1011,1012,13] E I λa w E I hH=>?_;have hC:=hH.at w ⟨I.ai (b:=B.pb),I.ai (b:=B.core.cb)⟩;refine RH 6 E I hH hC λa E=>?_;refine QH E (λw hc=>ae E (hc.1 0 _ rfl)) hC λa E=>?_;refine RH 2 E I hH hC λa E=>?_;refine QH E (λw hc=>ae E (hc.2 16 _ rfl)) hC λa E=>?_;refine RH 1 E I hH hC λa E=>?_;refine SS E (ae E (hC.1 0 _ rfl)) λa E=>?_;refine RH 0 E I hH hC λa E=>?_;refine CL 0 E I (F7 ((I.pick (aa B.core.cb 72 (cZ si.k B.core A))).pick (bN B.core.lb B.core.lo B.core.cL si.k.ls)) j2.wc) λa w E I=>?_;replace hC:=hH.at w ⟨I.ai (b:=B.pb),I.ai (b:=B.core.cb)⟩;refine RH 1 E I hH hC λa E=>?_;refine IF 0 E I (λaj a E=>?_) λaj a E=>?_
 ·
  have p6:si.k.mr.length<aW si.k.ls:=by
   have:aW si.k.ls=aw si.k:=rfl;omega
  have Zq:si.k.mr.length<aw si.k:=p6;refine RN 11 E I λa E=>?_;obtain⟨xs,bd,I⟩:=bN.open (I.pick (bN B.core.lb B.core.lo B.core.cL si.k.ls));have b0:xs.length=si.k.ls.length:=by rw[← bd,gf]
  have eH:=m4 si.k.ls si.k.mr.length;refine aY 0 (λw0 V=>Rd V B.pb 0 (eV p B si.g)∧Rd V B.core.cb 0 (cZ si.k B.core A)) [8,13,14,15,16,18] [0,1,2,3,5,6,7,9,10,11,12,17,3004,3008,1013,1014,1015,1016,1018,1019,20,21,22,23,24,1025] E I λa w E I hH=>?_;have hC:=hH.at w ⟨I.ai (b:=B.pb),I.ai (b:=B.core.cb)⟩;refine RH 12 E I hH hC λa E=>?_;refine QH E (λw hc=>bR E underlying45 rfl Ty.t45 (MT hc.1)) hC λa E=>?_;refine QH E (λw hc=>bR E underlying49 rfl Ty.t49 (Bl hc.1)) hC λa E=>?_;refine RH 0 E I hH hC λa E=>?_;refine SS E (ae E (hC.1 0 _ rfl)) λa E=>?_;refine RH 2 E I hH hC λa E=>?_;refine SS E (ae E (hC.2 10 _ rfl)) λa E=>?_;rw[← b0]at E;refine RH 0 E I hH hC λa E=>?_;refine a6 0 E I (FJ (xs:=xs) (f:=si.k.mr.length) I (by omega) (by omega) (λV hw=>U.oD hw) (by rw[bd];exact p6)) λiG iS a w E I=>?_;replace hC:=hH.at w ⟨I.ai (b:=B.pb),I.ai (b:=B.core.cb)⟩;rw[bd]at E I;refine RH 0 E I hH hC λa E=>?_;refine aR 0 E I (DU (b:=bL si.k.ls si.k.mr.length) (fr:=si.k.mr.length) (I.pick (ay W p B.aq B.cO)) a7 aC (j2.py a7) (by omega) (by omega) (λV hw=>(hw.pick (Sl 5 1 iG (bL si.k.ls si.k.mr.length).length iS (bc (bL si.k.ls si.k.mr.length)))).cu iG _ rfl rfl)) λnst a w E ⟨ph,I⟩=>?_;refine RN 5 E I λa E=>?_;refine qy E rfl I Ty.t49 tv (by rw[dm,MU];decide) λa w E I=>?_;rw[aaM]at I;refine RN 0 E I λa E=>?_;replace I:=bN.close (I.sub (M:=Sl 65 1 (some ⟨B.core.lb,B.core.lo,none⟩) si.k.ls.length B.core.cL (xs.map aL)::ah ba xs::aa B.pb 51 (eV p B (e0 p si.k.mr.length (bL si.k.ls si.k.mr.length) si.g))::ay W p B.aq B.cO::aa B.core.cb 72 (cZ si.k B.core A)::aa B.core.hb 3 (e7 si.k.ps)::aa B.core.dZ 3 (eU si.k.ps)::aa B.core.wb 313 (rows e9 si.k.ps)::aa B.core.xb 4 (e8 si.k.ps)::Sl 100 1 A.ch si.k.mr.length A.cM (c4 si.k.mr)::Sl 102 3 A.adE si.k.ev.length A.cE (rows bU si.k.ev)::L)) bd;replace I:=a1.fold I B.core si.k A;refine aY 0 (λw0 V=>Rd V B.pb 0 (eV p B (e0 p si.k.mr.length (bL si.k.ls si.k.mr.length) si.g))) [7,8] [0,1,2,4,5,6,3003,1007,1008,1009] E I λa w E I hH=>?_;have hC:=hH.at w (I.ai (b:=B.pb));refine RH 6 E I hH hC λa E=>?_;refine QH E (λw hc=>ae E (hc 0 _ rfl)) hC λa E=>?_;refine RH 0 E I hH hC λa E=>?_;refine SS E (bR E underlying49 rfl Ty.t49 (Bl hC)) λa E=>?_;refine RH 0 E I hH hC λa E=>?_;refine CL 0 E I (X5 I) λa w E I=>?_;replace hC:=hH.at w (I.ai (b:=B.pb));refine RH 0 E I hH hC λa E=>?_;refine CL 0 E I (aaq (I.pick (a1 B.core si.k)) j2.wc (by omega) (D2 _)) λa w E I=>?_;refine RN 0 E I λa E=>?_;exact⟨aw s.k-s.k.mr.length-(i+1),by omega,i+1,⟨rfl,by omega⟩,E.ab [0],by
   rw[fb];show U W w (bZ W B p ⟨lq si.k (jh (gm (e0 p si.k.mr.length (bL si.k.ls si.k.mr.length) si.g))),e0 p si.k.mr.length (bL si.k.ls si.k.mr.length) si.g⟩::L);exact (bZ.fold I B p ⟨lq si.k (jh (gm (e0 p si.k.mr.length (bL si.k.ls si.k.mr.length) si.g))),e0 p si.k.mr.length (bL si.k.ls si.k.mr.length) si.g⟩).sub⟩
 refine RT 0 E I ?_;obtain rfl:i=aw s.k-s.k.mr.length:=by
  have:aW si.k.ls=aw si.k:=rfl;omega
 refine⟨rfl,?_⟩;rw[eC,FC];exact (bZ.fold (a1.fold I B.core si.k A) B p si).sub
theorem aaN (I:U W w (bZ W B p s::L))(hw:cv p s)(a7:db p)(aC:p.title.size≤1000000000):Calls prog 71 #[pt B.pb,.int .u8 (x.toNat:Nat)] w λr V=>r=.returned (.int .i64 (dH p x s).1)∧U W V (bZ W B p (dH p x s).2::L):=by
 have h1:=uo x s.k;have lk:=hw.toWP.more (hw.wc.ak x) (hw.held.ak x) h1.1 h1.2;replace I:=bZ.open I;refine EN func71 ntmps71 rfl rfl λa E=>?_;refine CL 8 E I (aas (x:=x) (I.pick (a1 B.core s.k)) hw.wc) λa w E I=>?_;refine RN 1 E I λa E=>?_;replace I:=bZ.fold I B p ⟨(c3 x s.k).2,s.g⟩;refine CL 2 E I (F8 I lk a7 aC) λa w E I=>?_;refine RT 3 E I ?_;exact⟨rfl,I⟩
theorem aaO (I:U W w (bZ W B p s::L))(hw:cv p s)(a7:db p)(aC:p.title.size≤1000000000)(hb:bs.length≤65536)(hc:bs.length≤c)(hp:∀ V,U W V L→aQ V ad bs.length bs) :
   Calls prog 110 #[pt B.pb,.slice ad bs.length c] w λr V=>r=.returned (.int .i64 (dI p bs s).1)∧U W V (bZ W B p (dI p bs s).2::L):=by
 have h1:=rr bs s.k;have lk:=hw.toWP.more (hw.wc.recv bs).1 ((hw.wc.recv bs).2 hw.held) h1.1 h1.2;replace I:=bZ.open I;refine EN func110 ntmps110 rfl rfl λa E=>?_;refine CL 8 E I (aaJ (bs:=bs) (ad:=ad) (c:=c) (I.pick (a1 B.core s.k)) hw.wc hw.held hb hc (λV cJ=>hp V cJ.tail.tail)) λa w E I=>?_;refine RN 1 E I λa E=>?_;replace I:=bZ.fold I B p ⟨(dD bs s.k).2,s.g⟩;refine CL 2 E I (F8 I lk a7 aC) λa w E I=>?_;refine RT 3 E I ?_;exact⟨rfl,I⟩
theorem MV (I:U W w (bZ W B p s::L))(hw:cv p s):Calls prog 77 #[pt B.pb] w λr V=>∃ ad c,r=.returned (.tuple #[.slice ad 128 c,.int .i64 (lx s).2])∧U W V (Sl 5 1 ad 128 c (bc (lx s).1)::bZ W B p s::L):=by
 replace I:=bZ.open I;refine EN func77 ntmps77 rfl rfl λa E=>?_;refine aY 4 (λw0 V=>Rd V B.pb 0 (eV p B s.g)) [4,8] [0,1,2,5,6,7,3003,3008,1004,1009,10,11] E I λa w E I hH=>?_;have hC:=hH.at w (I.ai (b:=B.pb));refine RH 6 E I hH hC λa E=>?_;refine QH E (λw hc=>bR E underlying49 rfl Ty.t49 (Bl hc)) hC λa E=>?_;refine QH E (λw hc=>ae E (hc 0 _ rfl)) hC λa E=>?_;refine RH 0 E I hH hC λa E=>?_;refine a6 0 E I (uf I) λad c a w E I=>?_;replace hC:=hH.at w (I.ai (b:=B.pb));refine RH 0 E I hH hC λa E=>?_;refine CL 0 E I (FZ (I.pick (a1 B.core s.k)) hw.wc) λa w E I=>?_;refine RN 2 E I λa E=>?_;refine RT 0 E I ?_;exact⟨ad,c,rfl,(bZ.fold I B p s).sub (M:=Sl 5 1 ad 128 c (bc (gm s.g))::bZ W B p s::L)⟩
theorem F9 (I:U W w (bN C.lb C.lo C.cL k.ls::aa C.cb 72 (cZ k C A)::L))(hk:WC k):Calls prog 20 #[pt C.cb] w λr V=>r=.returned (.int .i64 (aI k))∧U W V (bN C.lb C.lo C.cL k.ls::aa C.cb 72 (cZ k C A)::L):=by
 have ej:k.me<k.ls.length:=by rw[hk.ls];exact hk.me
 refine EN func20 ntmps20 rfl rfl λa E=>?_;refine bS 3 [8] [0,1,2,4,5,6,7,3003,1008,9,10,1011,12,13] E I λa w E I hH hC=>?_;obtain⟨xs,bd,I⟩:=bN.open I;have b0:xs.length=k.ls.length:=by rw[← bd,gf]
 obtain⟨mI,ol,y,yz,hy,oC,pE⟩:=(U.oD I).at (i:=k.me) (by omega);cases yz;have jB:aI k=y.2.2.length:=by
  show (k.ls.getD k.me []).length=_;rw[← bd,s4 hy]
 replace hH:=Hd.gv I;refine RH 11 E I hH hC λa E=>?_;refine SS E (ae E (oC)) λa E=>?_;rw[aL]at E;refine RH 2 E I hH hC λa E=>?_;refine RT 0 E I ?_;exact⟨by rw[jB],bN.close I bd⟩
theorem aaP (I:U W w (bZ W B p s::L))(hw:cv p s)(a7:db p)(aC:p.title.size≤1000000000)(fA:cY B.gs)(hT:aQ W B.adT B.gs.table.length B.gs.table):Calls prog 78 #[pt B.pb] w λr V=>∃ ad c,r=.returned (.tuple #[.slice ad 128 c,.int .i64 (fz p B.gs s).2])∧U W V (Sl 5 1 ad 128 c (bc (fz p B.gs s).1)::bZ W B p s::L):=by
 have iE:s.k.ls.length≤8:=by rw[hw.wc.ls];exact hw.wc.n.2
 have wB:0<s.k.ls.length:=by rw[hw.wc.ls];have:=hw.wc.n;omega
 have gL:=hw.wc.lr;have fq:aw s.k≤aI s.k:=hw.wc.m7;replace I:=bZ.open I;refine EN func78 ntmps78 rfl rfl λa E=>?_;refine aY 5 (λw0 V=>Rd V B.pb 0 (eV p B s.g)) [4,8] [0,1,2,5,6,7,3003,3008,1004,1009,10] E I λa w E I hH=>?_;have hC:=hH.at w (I.ai (b:=B.pb));refine RH 6 E I hH hC λa E=>?_;refine QH E (λw hc=>ae E (hc 0 _ rfl)) hC λa E=>?_;refine QH E (λw hc=>ae E (hc 0 _ rfl)) hC λa E=>?_;refine RH 0 E I hH hC λa E=>?_;refine CL 0 E I (rF (I.pick (a1 B.core s.k)) hw.wc) λa w E I=>?_;replace hC:=hH.at w (I.ai (b:=B.pb));refine RH 0 E I hH hC λa E=>?_;refine CL 0 E I (FZ I hw.wc) λa w E I=>?_;refine RN 1 E I λa E=>?_;refine IF 0 E I (λaj a E=>?_) λaj a E=>?_
 ·
  replace I:=bZ.fold I B p s;refine a6 2 E I (MV I hw) λad c a w E I=>?_;refine RT 4 E I ?_;refine⟨ad,c,?_,?_⟩
  ·rw[fz,al (by omega)]
  ·rw[fz,al (by omega)];exact I
 refine RN 1 E I λa E=>?_;obtain⟨A,I⟩:=a1.open (I.pick (a1 B.core s.k));refine aY 0 (λw0 V=>Rd V B.pb 0 (eV p B s.g)∧Rd V B.core.cb 0 (cZ s.k B.core A)) [7,11,12,16,17,18,19,23,27,28,29,31] [0,1,2,4,5,6,8,9,10,13,14,15,20,21,22,24,25,26,3003,3007,3011,3016,3017,3018,3019,3023,3027,2012,2028,2029,2030,1031,1032] E I λa w E I hH=>?_;have hC:=hH.at w ⟨I.ai (b:=B.pb),I.ai (b:=B.core.cb)⟩;refine RH 18 E I hH hC λa E=>?_;refine QH E (λw hc=>bR E underlying45 rfl Ty.t45 (MT hc.1)) hC λa E=>?_;refine QH E (λw hc=>bR E underlying49 rfl Ty.t49 (Bl hc.1)) hC λa E=>?_;refine QH E (λw hc=>ae E (hc.1 0 _ rfl)) hC λa E=>?_;refine QH E (λw hc=>ae E (hc.1 0 _ rfl)) hC λa E=>?_;refine RH 2 E I hH hC λa E=>?_;refine QH E (λw hc=>ae E (hc.2 10 _ rfl)) hC λa E=>?_;refine QH E (λw hc=>bR E underlying47 rfl Ty.t47 (aaL hc.1)) hC λa E=>?_;refine QH E (λw hc=>ae E (hc.1 0 _ rfl)) hC λa E=>?_;refine RH 0 E I hH hC λa E=>?_;refine DN [(12,[2028,2029,2030,1031,1032]),(31,[1012,1028,1029,1030,1032])] (by kernel_rfl) rfl ⟨⟨_,rfl,?_⟩,⟨_,rfl,?_⟩,trivial⟩
 ·
  refine RH 0 E I hH hC λa E=>?_;refine CL 0 E I (F7 ((I.pick (aa B.core.cb 72 (cZ s.k B.core A))).pick (bN B.core.lb B.core.lo B.core.cL s.k.ls)) hw.wc) λa w E I=>?_;replace hC:=hH.at w ⟨I.ai (b:=B.pb),I.ai (b:=B.core.cb)⟩;refine RH 0 E I hH hC λa E=>?_;refine DN [(28,[2029,2030,1031,1032]),(31,[1028,1029,1030,1032])] (by kernel_rfl) rfl ⟨⟨_,rfl,?_⟩,⟨_,rfl,?_⟩,trivial⟩
  ·
   refine RH 0 E I hH hC λa E=>?_;refine CL 0 E I (F9 ((I.pick (aa B.core.cb 72 (cZ s.k B.core A))).pick (bN B.core.lb B.core.lo B.core.cL s.k.ls)) hw.wc) λa w E I=>?_;replace hC:=hH.at w ⟨I.ai (b:=B.pb),I.ai (b:=B.core.cb)⟩;refine RH 0 E I hH hC λa E=>?_;refine DN [(29,[2030,1031,1032]),(31,[1029,1030,1032])] (by kernel_rfl) rfl ⟨⟨_,rfl,?_⟩,⟨_,rfl,?_⟩,trivial⟩
   ·
    obtain⟨xs,bd,I⟩:=bN.open (I.pick (bN B.core.lb B.core.lo B.core.cL s.k.ls));have b0:xs.length=s.k.ls.length:=by rw[← bd,gf]
    rw[← b0]at E;refine RH 0 E I hH hC λa E=>?_;refine jI 0 E I (A7 (xs:=xs) (b:=B.gs) (r:=0) (to:=aI s.k) (by decide) I fA (by omega) (by omega) (by rw[bd];exact hw.wc.m6) gL (λV cJ=>U.oD cJ) (λV cJ=>hT.gv cJ)) λfT gd X a w E ⟨⟨sW,ie⟩,I⟩=>?_;replace hC:=hH.at w ⟨I.ai (b:=B.pb),I.ai (b:=B.core.cb)⟩;have mB:=ie rfl;subst mB;rw[wm,bd]at I;rw[bd]at E;have jg:(dx B.gs s.k.ls (aI s.k)).length=aI s.k-aW s.k.ls:=vW _ _ _;have mE:∀ b∈dx B.gs s.k.ls (aI s.k),b.length≤1099511627776:=λb hb=>by
     rw[dx,c0]at hb;obtain⟨i,_,rfl⟩:=hb;rw[m4,iR,bg];omega
    obtain⟨ys,hU,kg,I⟩:=cd.open I;refine RH 0 E I hH hC λa E=>?_;refine DN [(30,[1031,1032]),(31,[1030,1032])] (by kernel_rfl) rfl ⟨⟨_,rfl,?_⟩,⟨_,rfl,?_⟩,trivial⟩
    ·
     refine RH 0 E I hH hC λa E=>?_;refine CL 0 E I (yD (P:=dx B.gs s.k.ls (aI s.k)) (zs:=ys) (fr:=aw s.k) (I.pick (ay W p B.aq B.cO)) jg a7 aC (hw.py a7) ⟨by omega,mE⟩ hU (by omega) (λV cJ=>U.l6 (cJ.sub (M:=Sl 22 1 fT (aI s.k-aW s.k.ls) gd (ys.map aL)::ah ba ys::[])))) λa w E ⟨ph,I⟩=>?_;refine RN 0 E I λa E=>?_;refine eW E rfl I Ty.t49 rfl λb4 a w E I ho=>?_;clear ho;replace hC:=hH.at w ⟨I.ai (b:=B.pb),I.ai (b:=B.core.cb)⟩;refine RH 0 E I hH hC λa E=>?_;refine SA 0 E I λa w E I=>?_;refine RN 0 E I λa E=>?_;replace I:=bN.close (I.sub (M:=Sl 65 1 (some ⟨B.core.lb,B.core.lo,none⟩) s.k.ls.length B.core.cL (xs.map aL)::ah ba xs::aa b4 49 (ints .i32 32 (foldI p (aw s.k) s.g (dx B.gs s.k.ls (aI s.k))))::aa B.pb 51 (eV p B s.g)::ay W p B.aq B.cO::aa B.core.cb 72 (cZ s.k B.core A)::aa B.core.hb 3 (e7 s.k.ps)::aa B.core.dZ 3 (eU s.k.ps)::aa B.core.wb 313 (rows e9 s.k.ps)::aa B.core.xb 4 (e8 s.k.ps)::Sl 100 1 A.ch s.k.mr.length A.cM (c4 s.k.mr)::Sl 102 3 A.adE s.k.ev.length A.cE (rows bU s.k.ev)::L)) bd;replace I:=a1.fold I B.core s.k A;refine aY 1 (λw0 V=>Rd V b4 0 (ints .i32 32 (foldI p (aw s.k) s.g (dx B.gs s.k.ls (aI s.k))))∧Rd V B.pb 0 (eV p B s.g)) [1,5] [2,3,4,3000,3005,1001,1006,7,8] E I λa w E I hH=>?_;have hC:=hH.at w ⟨I.ai (b:=b4),I.ai (b:=B.pb)⟩;refine RH 3 E I hH hC λa E=>?_;refine QH E (λw hc=>bR E underlying49 rfl Ty.t49 (hc.1)) hC λa E=>?_;refine QH E (λw hc=>ae E (hc.2 0 _ rfl)) hC λa E=>?_;refine RH 0 E I hH hC λa E=>?_;refine a6 0 E I (uf I) λad2 c2 a w E I=>?_;replace hC:=hH.at w ⟨I.ai (b:=b4),I.ai (b:=B.pb)⟩;refine RH 0 E I hH hC λa E=>?_;refine CL 0 E I (rF (I.pick (a1 B.core s.k)) hw.wc) λa w E I=>?_;refine RN 2 E I λa E=>?_;refine RT 0 E I ?_;refine⟨ad2,c2,?_,?_⟩
     ·rw[fz,ag (by omega)]
     ·rw[fz,ag (by omega)];exact (bZ.fold I B p s).sub (M:=Sl 5 1 ad2 128 c2 (bc (gm (foldI p (aw s.k) s.g (dx B.gs s.k.ls (aI s.k)))))::bZ W B p s::L)
    refine RH 0 E I hH hC λa E=>?_;refine eW E rfl I Ty.t49 rfl λb4 a w E I ho=>?_;clear ho;replace hC:=hH.at w ⟨I.ai (b:=B.pb),I.ai (b:=B.core.cb)⟩;refine RH 0 E I hH hC λa E=>?_;refine CL 0 E I (yD (P:=dx B.gs s.k.ls (aI s.k)) (zs:=ys) (fr:=aw s.k) (I.pick (ay W p B.aq B.cO)) jg a7 aC (hw.py a7) ⟨by omega,mE⟩ hU (by omega) (λV cJ=>U.l6 (cJ.sub (M:=Sl 22 1 fT (aI s.k-aW s.k.ls) gd (ys.map aL)::ah ba ys::[])))) λa w E ⟨ph,I⟩=>?_;refine SA 0 E I λa w E I=>?_;refine RN 0 E I λa E=>?_;replace I:=bN.close (I.sub (M:=Sl 65 1 (some ⟨B.core.lb,B.core.lo,none⟩) s.k.ls.length B.core.cL (xs.map aL)::ah ba xs::aa b4 49 (ints .i32 32 (foldI p (aw s.k) s.g (dx B.gs s.k.ls (aI s.k))))::aa B.pb 51 (eV p B s.g)::ay W p B.aq B.cO::aa B.core.cb 72 (cZ s.k B.core A)::aa B.core.hb 3 (e7 s.k.ps)::aa B.core.dZ 3 (eU s.k.ps)::aa B.core.wb 313 (rows e9 s.k.ps)::aa B.core.xb 4 (e8 s.k.ps)::Sl 100 1 A.ch s.k.mr.length A.cM (c4 s.k.mr)::Sl 102 3 A.adE s.k.ev.length A.cE (rows bU s.k.ev)::L)) bd;replace I:=a1.fold I B.core s.k A;refine aY 1 (λw0 V=>Rd V b4 0 (ints .i32 32 (foldI p (aw s.k) s.g (dx B.gs s.k.ls (aI s.k))))∧Rd V B.pb 0 (eV p B s.g)) [1,5] [2,3,4,3000,3005,1001,1006,7,8] E I λa w E I hH=>?_;have hC:=hH.at w ⟨I.ai (b:=b4),I.ai (b:=B.pb)⟩;refine RH 3 E I hH hC λa E=>?_;refine QH E (λw hc=>bR E underlying49 rfl Ty.t49 (hc.1)) hC λa E=>?_;refine QH E (λw hc=>ae E (hc.2 0 _ rfl)) hC λa E=>?_;refine RH 0 E I hH hC λa E=>?_;refine a6 0 E I (uf I) λad2 c2 a w E I=>?_;replace hC:=hH.at w ⟨I.ai (b:=b4),I.ai (b:=B.pb)⟩;refine RH 0 E I hH hC λa E=>?_;refine CL 0 E I (rF (I.pick (a1 B.core s.k)) hw.wc) λa w E I=>?_;refine RN 2 E I λa E=>?_;refine RT 0 E I ?_;refine⟨ad2,c2,?_,?_⟩
    ·rw[fz,ag (by omega)]
    ·rw[fz,ag (by omega)];exact (bZ.fold I B p s).sub (M:=Sl 5 1 ad2 128 c2 (bc (gm (foldI p (aw s.k) s.g (dx B.gs s.k.ls (aI s.k)))))::bZ W B p s::L)
   refine RH 0 E I hH hC λa E=>?_;refine eW E rfl I Ty.t49 rfl λb4 a w E I ho=>?_;clear ho;replace hC:=hH.at w ⟨I.ai (b:=B.pb),I.ai (b:=B.core.cb)⟩;obtain⟨xs,bd,I⟩:=bN.open (I.pick (bN B.core.lb B.core.lo B.core.cL s.k.ls));have b0:xs.length=s.k.ls.length:=by rw[← bd,gf]
   rw[← b0]at E;refine RH 0 E I hH hC λa E=>?_;refine jI 0 E I (A7 (xs:=xs) (b:=B.gs) (r:=0) (to:=aI s.k) (by decide) I fA (by omega) (by omega) (by rw[bd];exact hw.wc.m6) gL (λV cJ=>U.oD cJ) (λV cJ=>hT.gv cJ)) λfT gd X a w E ⟨⟨sW,ie⟩,I⟩=>?_;replace hC:=hH.at w ⟨I.ai (b:=B.pb),I.ai (b:=B.core.cb)⟩;have mB:=ie rfl;subst mB;rw[wm,bd]at I;rw[bd]at E;have jg:(dx B.gs s.k.ls (aI s.k)).length=aI s.k-aW s.k.ls:=vW _ _ _;have mE:∀ b∈dx B.gs s.k.ls (aI s.k),b.length≤1099511627776:=λb hb=>by
    rw[dx,c0]at hb;obtain⟨i,_,rfl⟩:=hb;rw[m4,iR,bg];omega
   obtain⟨ys,hU,kg,I⟩:=cd.open I;refine RH 0 E I hH hC λa E=>?_;refine CL 0 E I (yD (P:=dx B.gs s.k.ls (aI s.k)) (zs:=ys) (fr:=aw s.k) (I.pick (ay W p B.aq B.cO)) jg a7 aC (hw.py a7) ⟨by omega,mE⟩ hU (by omega) (λV cJ=>U.l6 (cJ.sub (M:=Sl 22 1 fT (aI s.k-aW s.k.ls) gd (ys.map aL)::ah ba ys::[])))) λa w E ⟨ph,I⟩=>?_;refine SA 0 E I λa w E I=>?_;refine RN 0 E I λa E=>?_;replace I:=bN.close (I.sub (M:=Sl 65 1 (some ⟨B.core.lb,B.core.lo,none⟩) s.k.ls.length B.core.cL (xs.map aL)::ah ba xs::aa b4 49 (ints .i32 32 (foldI p (aw s.k) s.g (dx B.gs s.k.ls (aI s.k))))::aa B.pb 51 (eV p B s.g)::ay W p B.aq B.cO::aa B.core.cb 72 (cZ s.k B.core A)::aa B.core.hb 3 (e7 s.k.ps)::aa B.core.dZ 3 (eU s.k.ps)::aa B.core.wb 313 (rows e9 s.k.ps)::aa B.core.xb 4 (e8 s.k.ps)::Sl 100 1 A.ch s.k.mr.length A.cM (c4 s.k.mr)::Sl 102 3 A.adE s.k.ev.length A.cE (rows bU s.k.ev)::L)) bd;replace I:=a1.fold I B.core s.k A;refine aY 1 (λw0 V=>Rd V b4 0 (ints .i32 32 (foldI p (aw s.k) s.g (dx B.gs s.k.ls (aI s.k))))∧Rd V B.pb 0 (eV p B s.g)) [1,5] [2,3,4,3000,3005,1001,1006,7,8] E I λa w E I hH=>?_;have hC:=hH.at w ⟨I.ai (b:=b4),I.ai (b:=B.pb)⟩;refine RH 3 E I hH hC λa E=>?_;refine QH E (λw hc=>bR E underlying49 rfl Ty.t49 (hc.1)) hC λa E=>?_;refine QH E (λw hc=>ae E (hc.2 0 _ rfl)) hC λa E=>?_;refine RH 0 E I hH hC λa E=>?_;refine a6 0 E I (uf I) λad2 c2 a w E I=>?_;replace hC:=hH.at w ⟨I.ai (b:=b4),I.ai (b:=B.pb)⟩;refine RH 0 E I hH hC λa E=>?_;refine CL 0 E I (rF (I.pick (a1 B.core s.k)) hw.wc) λa w E I=>?_;refine RN 2 E I λa E=>?_;refine RT 0 E I ?_;refine⟨ad2,c2,?_,?_⟩
   ·rw[fz,ag (by omega)]
   ·rw[fz,ag (by omega)];exact (bZ.fold I B p s).sub (M:=Sl 5 1 ad2 128 c2 (bc (gm (foldI p (aw s.k) s.g (dx B.gs s.k.ls (aI s.k)))))::bZ W B p s::L)
  refine RH 0 E I hH hC λa E=>?_;refine eW E rfl I Ty.t49 rfl λb4 a w E I ho=>?_;clear ho;replace hC:=hH.at w ⟨I.ai (b:=B.pb),I.ai (b:=B.core.cb)⟩;refine RH 0 E I hH hC λa E=>?_;refine CL 0 E I (F9 ((I.pick (aa B.core.cb 72 (cZ s.k B.core A))).pick (bN B.core.lb B.core.lo B.core.cL s.k.ls)) hw.wc) λa w E I=>?_;replace hC:=hH.at w ⟨I.ai (b:=B.pb),I.ai (b:=B.core.cb)⟩;obtain⟨xs,bd,I⟩:=bN.open (I.pick (bN B.core.lb B.core.lo B.core.cL s.k.ls));have b0:xs.length=s.k.ls.length:=by rw[← bd,gf]
  rw[← b0]at E;refine RH 0 E I hH hC λa E=>?_;refine jI 0 E I (A7 (xs:=xs) (b:=B.gs) (r:=0) (to:=aI s.k) (by decide) I fA (by omega) (by omega) (by rw[bd];exact hw.wc.m6) gL (λV cJ=>U.oD cJ) (λV cJ=>hT.gv cJ)) λfT gd X a w E ⟨⟨sW,ie⟩,I⟩=>?_;replace hC:=hH.at w ⟨I.ai (b:=B.pb),I.ai (b:=B.core.cb)⟩;have mB:=ie rfl;subst mB;rw[wm,bd]at I;rw[bd]at E;have jg:(dx B.gs s.k.ls (aI s.k)).length=aI s.k-aW s.k.ls:=vW _ _ _;have mE:∀ b∈dx B.gs s.k.ls (aI s.k),b.length≤1099511627776:=λb hb=>by
   rw[dx,c0]at hb;obtain⟨i,_,rfl⟩:=hb;rw[m4,iR,bg];omega
  obtain⟨ys,hU,kg,I⟩:=cd.open I;refine RH 0 E I hH hC λa E=>?_;refine CL 0 E I (yD (P:=dx B.gs s.k.ls (aI s.k)) (zs:=ys) (fr:=aw s.k) (I.pick (ay W p B.aq B.cO)) jg a7 aC (hw.py a7) ⟨by omega,mE⟩ hU (by omega) (λV cJ=>U.l6 (cJ.sub (M:=Sl 22 1 fT (aI s.k-aW s.k.ls) gd (ys.map aL)::ah ba ys::[])))) λa w E ⟨ph,I⟩=>?_;refine SA 0 E I λa w E I=>?_;refine RN 0 E I λa E=>?_;replace I:=bN.close (I.sub (M:=Sl 65 1 (some ⟨B.core.lb,B.core.lo,none⟩) s.k.ls.length B.core.cL (xs.map aL)::ah ba xs::aa b4 49 (ints .i32 32 (foldI p (aw s.k) s.g (dx B.gs s.k.ls (aI s.k))))::aa B.pb 51 (eV p B s.g)::ay W p B.aq B.cO::aa B.core.cb 72 (cZ s.k B.core A)::aa B.core.hb 3 (e7 s.k.ps)::aa B.core.dZ 3 (eU s.k.ps)::aa B.core.wb 313 (rows e9 s.k.ps)::aa B.core.xb 4 (e8 s.k.ps)::Sl 100 1 A.ch s.k.mr.length A.cM (c4 s.k.mr)::Sl 102 3 A.adE s.k.ev.length A.cE (rows bU s.k.ev)::L)) bd;replace I:=a1.fold I B.core s.k A;refine aY 1 (λw0 V=>Rd V b4 0 (ints .i32 32 (foldI p (aw s.k) s.g (dx B.gs s.k.ls (aI s.k))))∧Rd V B.pb 0 (eV p B s.g)) [1,5] [2,3,4,3000,3005,1001,1006,7,8] E I λa w E I hH=>?_;have hC:=hH.at w ⟨I.ai (b:=b4),I.ai (b:=B.pb)⟩;refine RH 3 E I hH hC λa E=>?_;refine QH E (λw hc=>bR E underlying49 rfl Ty.t49 (hc.1)) hC λa E=>?_;refine QH E (λw hc=>ae E (hc.2 0 _ rfl)) hC λa E=>?_;refine RH 0 E I hH hC λa E=>?_;refine a6 0 E I (uf I) λad2 c2 a w E I=>?_;replace hC:=hH.at w ⟨I.ai (b:=b4),I.ai (b:=B.pb)⟩;refine RH 0 E I hH hC λa E=>?_;refine CL 0 E I (rF (I.pick (a1 B.core s.k)) hw.wc) λa w E I=>?_;refine RN 2 E I λa E=>?_;refine RT 0 E I ?_;refine⟨ad2,c2,?_,?_⟩
  ·rw[fz,ag (by omega)]
  ·rw[fz,ag (by omega)];exact (bZ.fold I B p s).sub (M:=Sl 5 1 ad2 128 c2 (bc (gm (foldI p (aw s.k) s.g (dx B.gs s.k.ls (aI s.k)))))::bZ W B p s::L)
 refine RH 0 E I hH hC λa E=>?_;refine eW E rfl I Ty.t49 rfl λb4 a w E I ho=>?_;clear ho;replace hC:=hH.at w ⟨I.ai (b:=B.pb),I.ai (b:=B.core.cb)⟩;refine RH 0 E I hH hC λa E=>?_;refine CL 0 E I (F7 ((I.pick (aa B.core.cb 72 (cZ s.k B.core A))).pick (bN B.core.lb B.core.lo B.core.cL s.k.ls)) hw.wc) λa w E I=>?_;replace hC:=hH.at w ⟨I.ai (b:=B.pb),I.ai (b:=B.core.cb)⟩;refine RH 0 E I hH hC λa E=>?_;refine CL 0 E I (F9 ((I.pick (aa B.core.cb 72 (cZ s.k B.core A))).pick (bN B.core.lb B.core.lo B.core.cL s.k.ls)) hw.wc) λa w E I=>?_;replace hC:=hH.at w ⟨I.ai (b:=B.pb),I.ai (b:=B.core.cb)⟩;obtain⟨xs,bd,I⟩:=bN.open (I.pick (bN B.core.lb B.core.lo B.core.cL s.k.ls));have b0:xs.length=s.k.ls.length:=by rw[← bd,gf]
 rw[← b0]at E;refine RH 0 E I hH hC λa E=>?_;refine jI 0 E I (A7 (xs:=xs) (b:=B.gs) (r:=0) (to:=aI s.k) (by decide) I fA (by omega) (by omega) (by rw[bd];exact hw.wc.m6) gL (λV cJ=>U.oD cJ) (λV cJ=>hT.gv cJ)) λfT gd X a w E ⟨⟨sW,ie⟩,I⟩=>?_;replace hC:=hH.at w ⟨I.ai (b:=B.pb),I.ai (b:=B.core.cb)⟩;have mB:=ie rfl;subst mB;rw[wm,bd]at I;rw[bd]at E;have jg:(dx B.gs s.k.ls (aI s.k)).length=aI s.k-aW s.k.ls:=vW _ _ _;have mE:∀ b∈dx B.gs s.k.ls (aI s.k),b.length≤1099511627776:=λb hb=>by
  rw[dx,c0]at hb;obtain⟨i,_,rfl⟩:=hb;rw[m4,iR,bg];omega
 obtain⟨ys,hU,kg,I⟩:=cd.open I;refine RH 0 E I hH hC λa E=>?_;refine CL 0 E I (yD (P:=dx B.gs s.k.ls (aI s.k)) (zs:=ys) (fr:=aw s.k) (I.pick (ay W p B.aq B.cO)) jg a7 aC (hw.py a7) ⟨by omega,mE⟩ hU (by omega) (λV cJ=>U.l6 (cJ.sub (M:=Sl 22 1 fT (aI s.k-aW s.k.ls) gd (ys.map aL)::ah ba ys::[])))) λa w E ⟨ph,I⟩=>?_;refine SA 0 E I λa w E I=>?_;refine RN 0 E I λa E=>?_;replace I:=bN.close (I.sub (M:=Sl 65 1 (some ⟨B.core.lb,B.core.lo,none⟩) s.k.ls.length B.core.cL (xs.map aL)::ah ba xs::aa b4 49 (ints .i32 32 (foldI p (aw s.k) s.g (dx B.gs s.k.ls (aI s.k))))::aa B.pb 51 (eV p B s.g)::ay W p B.aq B.cO::aa B.core.cb 72 (cZ s.k B.core A)::aa B.core.hb 3 (e7 s.k.ps)::aa B.core.dZ 3 (eU s.k.ps)::aa B.core.wb 313 (rows e9 s.k.ps)::aa B.core.xb 4 (e8 s.k.ps)::Sl 100 1 A.ch s.k.mr.length A.cM (c4 s.k.mr)::Sl 102 3 A.adE s.k.ev.length A.cE (rows bU s.k.ev)::L)) bd;replace I:=a1.fold I B.core s.k A;refine aY 1 (λw0 V=>Rd V b4 0 (ints .i32 32 (foldI p (aw s.k) s.g (dx B.gs s.k.ls (aI s.k))))∧Rd V B.pb 0 (eV p B s.g)) [1,5] [2,3,4,3000,3005,1001,1006,7,8] E I λa w E I hH=>?_;have hC:=hH.at w ⟨I.ai (b:=b4),I.ai (b:=B.pb)⟩;refine RH 3 E I hH hC λa E=>?_;refine QH E (λw hc=>bR E underlying49 rfl Ty.t49 (hc.1)) hC λa E=>?_;refine QH E (λw hc=>ae E (hc.2 0 _ rfl)) hC λa E=>?_;refine RH 0 E I hH hC λa E=>?_;refine a6 0 E I (uf I) λad2 c2 a w E I=>?_;replace hC:=hH.at w ⟨I.ai (b:=b4),I.ai (b:=B.pb)⟩;refine RH 0 E I hH hC λa E=>?_;refine CL 0 E I (rF (I.pick (a1 B.core s.k)) hw.wc) λa w E I=>?_;refine RN 2 E I λa E=>?_;refine RT 0 E I ?_;refine⟨ad2,c2,?_,?_⟩
 ·rw[fz,ag (by omega)]
 ·rw[fz,ag (by omega)];exact (bZ.fold I B p s).sub (M:=Sl 5 1 ad2 128 c2 (bc (gm (foldI p (aw s.k) s.g (dx B.gs s.k.ls (aI s.k)))))::bZ W B p s::L)
theorem aaQ {n me aE bm:Nat}{id aX order cm workers room:Int}(I:U W w (ay W p adP cP::L))(hm:eO ⟨n,me,id,aE,bm,aX,order,cm,workers,room⟩)(a7:db p)(aC:p.title.size≤1000000000) :
   Calls prog 46 #[.agg (br ⟨n,me,id,aE,bm,aX,order,cm,workers,room⟩).toArray,.agg (bw p adP cP).toArray,.slice adT tb.length cT] w λr V=>∃ B:fU,r=.returned (pt B.pb)∧(B.gs=⟨aX,order,tb⟩∧B.adT=adT)∧U W V (bZ W B p (eD p ⟨n,me,id,aE,bm,aX,order,cm,workers,room⟩)::L):=by
 refine EN func46 ntmps46 rfl rfl λa E=>?_;refine BX 1 E I λb3 a w E I=>?_;change U W w (aa b3 28 (br ⟨n,me,id,aE,bm,aX,order,cm,workers,room⟩)::_) at I;refine BX 0 E I λb4 a w E I=>?_;change U W w (aa b4 45 [.string p.title,.slice adP p.ops.length cP]::_) at I;refine aY 2 (λw0 V=>Rd V b3 0 (br ⟨n,me,id,aE,bm,aX,order,cm,workers,room⟩)∧Rd V b4 0 [.string p.title,.slice adP p.ops.length cP]) [1,2,4,6,8] [3,5,7,3000,3002,3004,3006,3008,1001,9,1010,11] E I λa w E I hH=>?_;have hC:=hH.at w ⟨I.ai (b:=b3),I.ai (b:=b4)⟩;refine RH 3 E I hH hC λa E=>?_;refine QH E (λw hc=>bR E underlying28 rfl Ty.t28 (hc.1)) hC λa E=>?_;refine QH E (λw hc=>bR E underlying45 rfl Ty.t45 (hc.2)) hC λa E=>?_;refine QH E (λw hc=>ae E (hc.1 5 _ rfl)) hC λa E=>?_;refine QH E (λw hc=>ae E (hc.1 6 _ rfl)) hC λa E=>?_;refine RH 1 E I hH hC λa E=>?_;refine aR 0 E I (aaz I hm) λBc a w E I=>?_;replace hC:=hH.at w ⟨I.ai (b:=b3),I.ai (b:=b4)⟩;refine RH 1 E I hH hC λa E=>?_;refine wW E rfl I rfl λsC a w E I ho=>?_;clear ho;change U W w (aa sC 51 (eV p ⟨sC,Bc,adP,cP,adT,cT,⟨aX,order,tb⟩⟩ ou)::_) at I;refine RN 1 E I λa E=>?_;replace I:=bZ.fold I ⟨sC,Bc,adP,cP,adT,cT,⟨aX,order,tb⟩⟩ p ⟨fh ⟨n,me,id,aE,bm,aX,order,cm,workers,room⟩,ou⟩;refine CL 2 E I (F8 I (wa hm) a7 aC) λa w E I=>?_;refine RT 3 E I ?_;have h9:U W w (bZ W ⟨sC,Bc,adP,cP,adT,cT,⟨aX,order,tb⟩⟩ p (eD p ⟨n,me,id,aE,bm,aX,order,cm,workers,room⟩)::_):=I;exact⟨⟨sC,Bc,adP,cP,adT,cT,⟨aX,order,tb⟩⟩,rfl,⟨rfl,rfl⟩,h9.sub⟩
end
end
section
section
variable {W w:World}{L:List SP}{e:jZ}
theorem aaR (I:U W w L):Calls prog 79 #[.agg (bU e).toArray,.agg (bU e).toArray] w λr V=>r=.returned (.bool true)∧U W V L:=by
 refine EN func79 ntmps79 rfl rfl λa E=>?_;refine BX 1 E I λb2 a w E I=>?_;change U W w (aa b2 102 [.int .i64 e.1,.int .i64 e.2.1,.int .i64 e.2.2]::_) at I;refine BX 0 E I λb3 a w E I=>?_;change U W w (aa b3 102 [.int .i64 e.1,.int .i64 e.2.1,.int .i64 e.2.2]::_) at I;refine RN 8 E I λa E=>?_;rw[dq (by omega)]at E;refine RN 7 E I λa E=>?_;rw[dq (by omega)]at E;refine RT 7 E I ?_;exact⟨by simp,I.sub⟩
end
end
section
theorem MW {k:Ks}(h:WC k):(bo k).1.length≤1000:=by
 have hn:=h.n;have hl:∀ k:Ks,(bI k).length≤k.n:=λk=>by
  rw[bI];exact gF (length_filter_le _ _) (by rw[length_range];exact bk _)
 unfold bo;split
 ·simp
 ·simp only;split
  ·simp
  ·rw[bg];have:=hl { k with now:=k.now+1 };have h2:({ k with now:=k.now+1 }:Ks).n=k.n:=rfl;omega
theorem MX {k:Ks}(h:WC k):(bG k).1.length≤1000:=by
 have hn:=h.n;unfold bG;split
 ·simp
 ·rw[bg,bI];have h2:=length_filter_le (λi=>decide (i≠k.me)) (List.range k.n);rw[length_range]at h2;show ((List.range k.n).filter (·≠k.me)).length≤1000;omega
theorem aaS (p:Pr)(x:UInt8){s:Pl}(h:cv p s):(dH p x s).2.k.now=s.k.now:=by
 have he:=uo x s.k;have h1:=(KY (h.toWP.more (h.wc.ak x) (h.held.ak x) he.1 he.2)).2.2.2.2.2.1;rw[dH,h1];show (c3 x s.k).2.now=_;by_cases h0:(c3 x s.k).1=0
 ·obtain⟨_,_,_,h4⟩:=uj h0;rw[h4]
 ·rw[uk h0]
theorem aaT (k:Ks)(q:Pk):(fS k q).now=k.now:=by
 unfold fS;split
 ·rfl
 ·obtain⟨ps,ev,h9,_⟩:=vY { k with ls:=k.ls.set q.aZ.toNat (dw (k.ls.getD q.aZ.toNat []) q.first.toNat q.ak),ps:=k.ps.set q.aZ.toNat (fR k.now (aI k) q (ar k q.aZ.toNat)) };rw[h9]
theorem aaU (p:Pr)(bs:List UInt8){s:Pl}(h:cv p s):(dI p bs s).2.k.now=s.k.now:=by
 have he:=rr bs s.k;have h1:=(KY (h.toWP.more (h.wc.recv bs).1 ((h.wc.recv bs).2 h.held) he.1 he.2)).2.2.2.2.2.1;rw[dI,h1];show (dD bs s.k).2.now=_;by_cases h0:(dD bs s.k).1=0
 ·obtain⟨q,_,_,_,_,_,h6⟩:=AD h0;rw[h6,aaT]
 ·rw[v7 h0]
theorem aaV (k:Ks):(bo k).2.now≤k.now+1:=by
 rcases v8 k with h1 | ⟨hc,h1 | ⟨i,hi,h1⟩⟩ <;> rw[h1]
 ·exact Nat.le_succ _
 ·exact bk _
 ·exact bk _
theorem aaW (k:Ks):(bG k).2.now=k.now:=by
 unfold bG;split <;> rfl
structure Bm (W:World)(t:TypeId)(ad:Addr)(uD uE uF uG uH uI uJ uK:FuncId)(p:Pr)(gs:Gs)(J:Nat→Pl→SP):Prop where
 Ga : oS prog t "Press" uD
 cP:g4 prog uD=true
 Gb : oS prog t "Receive" uE
 Gc:g4 prog uE=true
 Ge : oS prog t "Tick" uF
 cT:g4 prog uF=true
 Gf : oS prog t "Quit" uG
 Gg:g4 prog uG=true
 Gh : oS prog t "Events" uH
 cE:g4 prog uH=true
 Bn : oS prog t "Confirmed" uI
 Bo:g4 prog uI=true
 Gi : oS prog t "Display" uJ
 Gj:g4 prog uJ=true
 Gk : oS prog t "Closed" uK
 Gl:g4 prog uK=true
 ak:∀ (w:World) (L:List SP) (i:Nat) (s:Pl) (x:UInt8),i≤1000000→cv p s→U W w (J i s::L)→Calls prog uD (List.toArray [.pointer (some ad),.int .u8 (x.toNat:Nat)]) w λr V=>r=.returned (.int .i64 (dH p x s).1)∧U W V (J (i+1) (dH p x s).2::L)
 recv:∀ (w:World) (L:List SP) (i:Nat) (s:Pl) (bs:List UInt8) (a:Option Addr) (c:Nat),i≤1000000→cv p s→bs.length≤65536→bs.length≤c→(∀ V,U W V L→aQ V a bs.length bs)→U W w (J i s::L)→Calls prog uE (List.toArray [.pointer (some ad),.slice a bs.length c]) w λr V=>r=.returned (.int .i64 (dI p bs s).1)∧U W V (J (i+1) (dI p bs s).2::L)
 tick:∀ (w:World) (L:List SP) (i:Nat) (s:Pl),i≤1000000→cv p s→s.k.now≤1000000→U W w (J i s::L)→Calls prog uF (List.toArray [.pointer (some ad)]) w λr V=>∃ a c,r=.returned (.slice a (bo s.k).1.length c)∧U W V (ct 124 a (bo s.k).1.length c (bo s.k).1::J (i+1) ⟨(bo s.k).2,s.g⟩::L)
 lu:∀ (w:World) (L:List SP) (i:Nat) (s:Pl),i≤1000000→cv p s→U W w (J i s::L)→Calls prog uG (List.toArray [.pointer (some ad)]) w λr V=>∃ a c,r=.returned (.slice a (bG s.k).1.length c)∧U W V (ct 124 a (bG s.k).1.length c (bG s.k).1::J (i+1) ⟨(bG s.k).2,s.g⟩::L)
 events:∀ (w:World) (L:List SP) (i:Nat) (s:Pl),i≤1000000→cv p s→U W w (J i s::L)→Calls prog uH (List.toArray [.pointer (some ad)]) w λr V=>∃ a c,r=.returned (.slice a s.k.ev.length c)∧U W V (Sl 135 1 a s.k.ev.length c (s.k.ev.map cz)::J (i+1) ⟨{ s.k with ev:=[] },s.g⟩::L)
 Bp:∀ (w:World) (L:List SP) (i:Nat) (s:Pl),i≤1000000→cv p s→U W w (J i s::L)→Calls prog uI (List.toArray [.pointer (some ad)]) w λr V=>∃ a c,r=.returned (.tuple #[.slice a 128 c,.int .i64 (lx s).2])∧U W V (Sl 5 1 a 128 c (bc (lx s).1)::J i s::L)
 Gm:∀ (w:World) (L:List SP) (i:Nat) (s:Pl),i≤1000000→cv p s→U W w (J i s::L)→Calls prog uJ (List.toArray [.pointer (some ad)]) w λr V=>∃ a c,r=.returned (.tuple #[.slice a 128 c,.int .i64 (fz p gs s).2])∧U W V (Sl 5 1 a 128 c (bc (fz p gs s).1)::J i s::L)
 closed:∀ (w:World) (L:List SP) (i:Nat) (s:Pl),i≤1000000→cv p s→U W w (J i s::L)→Calls prog uK (List.toArray [.pointer (some ad)]) w λr V=>r=.returned (.bool s.k.cl)∧U W V (J i s::L)
section
variable {W w:World}{L:List SP}{i:Nat}{t:TypeId}{ad:Addr}{uD uE uF uG uH uI uJ uK:FuncId}{p:Pr}{gs:Gs}{J:Nat→Pl→SP}{B:fU}{s:Pl}{b:Bool}
theorem aaX (M:Bm W t ad uD uE uF uG uH uI uJ uK p gs J)(hi:i≤1000000)(I:U W w (J i s::bZ W B p s::L))(hw:cv p s)(a7:db p)(aC:p.title.size≤1000000000)(fA:cY B.gs)(hbg:B.gs=gs)(hT:aQ W B.adT B.gs.table.length B.gs.table) :
   Calls prog 53 #[.iface t (.pointer (some ad)),pt B.pb] w λe V=>e=.returned (.bool true)∧U W V (J i s::bZ W B p s::L):=by
 subst hbg;refine EN func53 ntmps53 rfl rfl λa E=>?_;refine RN 4 E I λa E=>?_;refine jv E rfl M.Bn M.Bo rfl (M.Bp _ _ i s hi hw I) (by rfl) ?_;clear E I;rintro e w ⟨dj,dN,rfl,I⟩;refine⟨_,rfl,λa E=>?_⟩;refine a6 7 E I (MV (I.pick (bZ W B p s)) hw) λdW c2 a w E I=>?_;refine RN 7 E I λa E=>?_;refine jv E rfl M.Gi M.Gj rfl (M.Gm _ _ i s hi hw (I.pick (J i s))) (by rfl) ?_;clear E I;rintro e w ⟨a3,c7,rfl,I⟩;refine⟨_,rfl,λa E=>?_⟩;refine a6 7 E I (aaP (I.pick (bZ W B p s)) hw a7 aC fA hT) λa4 fP a w E I=>?_;refine RN 5 E I λa E=>?_;have b9:(lx s).1.length=128:=tZ _;have mj:(fz p B.gs s).1.length=128:=by
  rw[fz];split
  ·exact tZ _
  ·exact tZ _
 replace I:=I.sub (M:=Sl 5 1 a4 128 fP (bc (fz p B.gs s).1)::Sl 5 1 a3 128 c7 (bc (fz p B.gs s).1)::Sl 5 1 dW 128 c2 (bc (lx s).1)::Sl 5 1 dj 128 dN (bc (lx s).1)::bZ W B p s::J i s::L);obtain⟨A,I⟩:∃ A,U W w (Sl 5 1 a4 128 fP (bc (fz p B.gs s).1)::Sl 5 1 a3 128 c7 (bc (fz p B.gs s).1)::Sl 5 1 dW 128 c2 (bc (lx s).1)::Sl 5 1 dj 128 dN (bc (lx s).1)::aa B.core.cb 72 (cZ s.k B.core A)::bN B.core.lb B.core.lo B.core.cL s.k.ls::aa B.core.hb 3 (e7 s.k.ps)::aa B.core.dZ 3 (eU s.k.ps)::aa B.core.wb 313 (rows e9 s.k.ps)::aa B.core.xb 4 (e8 s.k.ps)::Sl 100 1 A.ch s.k.mr.length A.cM (c4 s.k.mr)::Sl 102 3 A.adE s.k.ev.length A.cE (rows bU s.k.ev)::aa B.pb 51 (eV p B s.g)::ay W p B.aq B.cO::J i s::L):=by
  obtain⟨A,h⟩:=a1.open ((bZ.open (I.pick (bZ W B p s))).pick (a1 B.core s.k));exact⟨A,h.sub⟩
 refine aY 1 (λw0 V=>((aQ V dj 128 (lx s).1∧aQ V dW 128 (lx s).1)∧aQ V a3 128 (fz p B.gs s).1∧aQ V a4 128 (fz p B.gs s).1)∧Rd V B.pb 0 (eV p B s.g)∧Rd V B.core.cb 0 (cZ s.k B.core A)) [7,19,24] [0,1,2,3,4,6,3005,1007,8,9,10,11,12,13,14,15,16,18,3017,1019,20,21,22,23,25,26,27,3028,29,30,3031,1024,32,33,34] E I λa w E I hH=>?_;have hC:=hH.at w ⟨⟨⟨I.cu dj _ rfl b9,I.cu dW _ rfl b9⟩,I.cu a3 _ rfl mj,I.cu a4 _ rfl mj⟩,I.ai (b:=B.pb),I.ai (b:=B.core.cb)⟩;refine RH 4 E I hH hC λa E=>?_;rw[dq (by omega)]at E;refine RH 2 E I hH hC λa E=>?_;refine QH E (λw hc=>lg E underlying22 underlying5 underlying9 (hc.1.1.1)) hC λa E=>?_;refine RH 0 E I hH hC λa E=>?_;refine bC E (cI E rfl (s:=36)) (lg E underlying22 underlying5 underlying9 (hC.1.1.2)) rfl λa E=>?_;refine RH 0 E I hH hC λa E=>?_;refine QP E (λw=>rS E) λa E=>?_;rw[p0,beq_self_eq_true]at E;refine RH 2 E I hH hC λa E=>?_;replace E:=E.dX 43;refine RH 5 E I hH hC λa E=>?_;rw[dq (by omega)]at E;refine RH 2 E I hH hC λa E=>?_;refine QH E (λw hc=>lg E underlying22 underlying5 underlying9 (hc.1.2.1)) hC λa E=>?_;refine RH 0 E I hH hC λa E=>?_;refine bC E (cI E rfl (s:=48)) (lg E underlying22 underlying5 underlying9 (hC.1.2.2)) rfl λa E=>?_;refine RH 0 E I hH hC λa E=>?_;refine QP E (λw=>rS E) λa E=>?_;rw[p0,beq_self_eq_true]at E;refine RH 2 E I hH hC λa E=>?_;replace E:=E.dX 55;refine RH 4 E I hH hC λa E=>?_;refine QH E (λw hc=>ae E (hc.2.1 0 _ rfl)) hC λa E=>?_;refine RH 2 E I hH hC λa E=>?_;refine QH E (λw hc=>ae E (hc.2.2 18 _ rfl)) hC λa E=>?_;refine RH 0 E I hH hC λa E=>?_;refine jv E (cI E rfl (s:=55)) M.Gk M.Gl rfl (M.closed _ _ i s hi hw (I.pick (J i s))) (by rfl) ?_;clear E I;rintro e w ⟨rfl,I⟩;refine⟨_,rfl,λa E=>?_⟩;replace hC:=hH.at w ⟨⟨⟨I.cu dj _ rfl b9,I.cu dW _ rfl b9⟩,I.cu a3 _ rfl mj,I.cu a4 _ rfl mj⟩,I.ai (b:=B.pb),I.ai (b:=B.core.cb)⟩;refine RH 3 E I hH hC λa E=>?_;refine RT 0 E I ?_;refine⟨by simp,?_⟩;exact (bZ.fold (a1.fold I B.core s.k A) B p s).sub (M:=J i s::bZ W B p s::L)
set_option maxHeartbeats 4000000 in
end
end
section
structure Wd where
 ps:List Pl
 net:List Ml
 ev:List (List jZ)
structure ft where
 fn:Int
 a:Int
 b:Int
 n:Int
def Bq:Pl:=⟨fh ⟨0,0,0,0,0,0,0,0,0,0⟩,ou⟩
def an (v:Wd)(i:Nat):Pl:=v.ps.getD i Bq
def fV (b:Int):UInt8:=UInt8.ofNat (b%256).toNat
theorem aaY (b:Int):((fV b).toNat:Int)=b%256:=by
 have h1:=Int.emod_nonneg b (show (256:Int)≠0 by decide);have h2:=Int.emod_lt_of_pos b (show (0:Int)<256 by decide);rw[fV,UInt8.toNat_ofNat',Nat.mod_eq_of_lt (by omega)];omega
def oG (net:List Ml)(m:Ml):List Ml:=if net.length<300 then net++[m] else net
def eo (net l:List Ml):List Ml:=l.foldl oG net
theorem MY (net:List Ml){l:List Ml}{i:Nat}(h:i<l.length):eo net (l.take (i+1))=oG (eo net (l.take i)) l[i]:=by
 rw[eo,← List.take_append_getElem h,foldl_append];rfl
theorem Bs:∀ {l net:List Ml} {m:Ml},m∈eo net l→m∈net∨m∈l
 | [],net,m,h=>.inl h
 | x::l,net,m,h=>by
  rcases Bs (l:=l) (net:=oG net x) h with h | h
  ·rw[oG]at h;split at h
   ·rcases eR.1 h with h | h
    ·exact .inl h
    ·exact .inr (by rw[mem_singleton.1 h];exact mem_cons_self)
   ·exact .inl h
  ·exact .inr (gM _ h)
theorem Gn:∀ {l net:List Ml},net.length≤300→(eo net l).length≤300
 | [],net,h=>h
 | x::l,net,h=>Gn (l:=l) (net:=oG net x) (by
  rw[oG];split
  ·rw[aM,ji];omega
  ·exact h)
noncomputable def gg (p:Pr)(s:ft)(v:Wd):Int×Wd :=
 if s.n<0∨(v.net.length:Int)≤s.n then (3,v) else
 if s.fn=6 then (if s.a<0∨((v.net.getD s.n.toNat (0,0,[])).2.2.length:Int)≤s.a then (3,v) else
  (0,{ v with net:=v.net.set s.n.toNat ((v.net.getD s.n.toNat (0,0,[])).1,(v.net.getD s.n.toNat (0,0,[])).2.1,(v.net.getD s.n.toNat (0,0,[])).2.2.set s.a.toNat ((v.net.getD s.n.toNat (0,0,[])).2.2.getD s.a.toNat 0 ^^^ fV s.b)) }))
 else if s.fn=4 then (0,{ v with net:=v.net.eraseIdx s.n.toNat })
 else ((dI p (v.net.getD s.n.toNat (0,0,[])).2.2 (an v (v.net.getD s.n.toNat (0,0,[])).2.1)).1,
  { v with ps:=v.ps.set (v.net.getD s.n.toNat (0,0,[])).2.1 (dI p (v.net.getD s.n.toNat (0,0,[])).2.2 (an v (v.net.getD s.n.toNat (0,0,[])).2.1)).2,net:=if s.fn=5 then v.net else v.net.eraseIdx s.n.toNat })
def fW (p:Pr)(s:ft)(v:Wd):Int×Wd :=
 if s.a<0∨(v.ps.length:Int)≤s.a then (7,v) else
 if s.fn=1 then ((dH p (fV s.b) (an v s.a.toNat)).1,{ v with ps:=v.ps.set s.a.toNat (dH p (fV s.b) (an v s.a.toNat)).2 })
 else if s.fn=2 then (0,{ v with ps:=v.ps.set s.a.toNat ⟨(bo (an v s.a.toNat).k).2,(an v s.a.toNat).g⟩,net:=eo v.net (bo (an v s.a.toNat).k).1 })
 else if s.fn=8 then (0,{ v with ps:=v.ps.set s.a.toNat ⟨(bG (an v s.a.toNat).k).2,(an v s.a.toNat).g⟩,net:=eo v.net (bG (an v s.a.toNat).k).1 })
 else (0,v)
noncomputable def bt (p:Pr)(s:ft)(v:Wd):Int×Wd:=if s.fn<1∨8<s.fn then (1,v) else if 3≤s.fn∧s.fn≤6 then gg p s v else fW p s v
def s9 (i:Nat)(v:Wd):Wd:={ v with ps:=v.ps.set i ⟨{ (an v i).k with ev:=[] },(an v i).g⟩,ev:=v.ev.set i (v.ev.getD i []++(an v i).k.ev) }
def cj (v:Wd):Nat→Wd
 | 0=>v
 | i+1=>s9 i (cj v i)
def kA (v:Wd):Wd:=cj v v.ps.length
noncomputable def dz (p:Pr)(s:ft)(v:Wd):Wd:=if s.fn=7 then v else kA (bt p s v).2
structure bB (p:Pr)(cf:Cf)(c:Nat)(v:Wd):Prop where
 may:eO cf
 n:v.ps.length=cf.n.toNat
 ev:v.ev.length=v.ps.length
 pl:∀ i,i<v.ps.length→cv p (an v i)∧fg (an v i).k={ cf with me:=i }∧(an v i).k.now≤c
 net:v.net.length≤300∧∀ m∈v.net,m.2.1<v.ps.length∧m.2.2.length≤1000
 kx:∀ e∈v.ev,e.length≤9*c∧∀ x∈e,sN x
section
variable {p:Pr}{cf:Cf}{c i j:Nat}{v:Wd}{s:ft}{q:Pl}
theorem qw (h:i<v.ps.length)(net:List Ml)(ev:List (List jZ)):an ⟨v.ps.set i q,net,ev⟩ j=if i=j then q else an v j:=by
 rw[an,an,bl,bl];show ((v.ps.set i q)[j]?).getD Bq=_;rw[jF];split
 ·rfl
 ·rfl
theorem bB.len (h:bB p cf c v):2≤v.ps.length∧v.ps.length≤8:=by
 have h1:=h.n;have h2:=h.may.1.1;unfold dE at h2;omega
theorem bB.put (h:bB p cf c v)(hi:i<v.ps.length)(hw:cv p q)(hc:fg q.k=fg (an v i).k)(hn:q.k.now≤c+1){net:List Ml}(hl:net.length≤300)(hm:∀ m∈net,m.2.1<v.ps.length∧m.2.2.length≤1000) :
   bB p cf (c+1) { v with ps:=v.ps.set i q,net:=net }:=by
 refine⟨h.may,by show (v.ps.set i q).length=_;rw[bu];exact h.n,by show v.ev.length=(v.ps.set i q).length;rw[bu];exact h.ev,λj hj=>?_,⟨hl,?_⟩,λe he=>⟨by have:=(h.kx e he).1;omega,(h.kx e he).2⟩⟩
 ·have la:j<v.ps.length:=by have:j<(v.ps.set i q).length:=hj;rwa [bu]at this
  rw[qw (v:=v) hi];split
  ·rename_i e;subst e;exact⟨hw,hc.trans (h.pl _ hi).2.1,hn⟩
  ·exact⟨(h.pl j la).1,(h.pl j la).2.1,by have:=(h.pl j la).2.2;omega⟩
 ·intro m vv;show m.2.1<(v.ps.set i q).length∧_;rw[bu];exact hm m vv
theorem bB.more (h:bB p cf c v){d:Nat}(hd:c≤d):bB p cf d v :=
 ⟨h.may,h.n,h.ev,λi hi=>⟨(h.pl i hi).1,(h.pl i hi).2.1,gF (h.pl i hi).2.2 hd⟩,h.net,λe he=>⟨by have:=(h.kx e he).1;omega,(h.kx e he).2⟩⟩
theorem MZ {k:Ks}(h:WC k):∀ m∈(bo k).1,m.2.1<k.n∧m.2.2.length≤1000:=by
 intro m hm;unfold bo at hm;split at hm
 ·cases hm
 ·simp only at hm;split at hm
  ·cases hm
  ·obtain⟨i,hi,rfl⟩:=c0.1 hm;have h1:=(List.mem_filter.1 hi).1;rw[mem_range]at h1;exact⟨h1,gF (KZ _) (by decide)⟩
theorem M0 {k:Ks}(h:WC k):∀ m∈(bG k).1,m.2.1<k.n∧m.2.2.length≤1000:=by
 intro m hm;unfold bG at hm;split at hm
 ·cases hm
 ·obtain⟨i,hi,rfl⟩:=c0.1 hm;have h1:=(List.mem_filter.1 hi).1;rw[mem_range]at h1;exact⟨h1,gF (KZ _) (by decide)⟩
theorem bB.ta (h:bB p cf c v)(hi:i<v.ps.length):(an v i).k.n=v.ps.length:=by
 have h1:=(h.pl i hi).2.1;have h2:(fg (an v i).k).n=cf.n:=by rw[h1]
 have h3:((an v i).k.n:Int)=cf.n:=h2;have:=h.n;have h4:=h.may.1.1;unfold dE at h4;omega
theorem bB.M1 (h:bB p cf c v){l:List Ml}(hl:∀ m∈l,m.2.1<v.ps.length∧m.2.2.length≤1000):(eo v.net l).length≤300∧∀ m∈eo v.net l,m.2.1<v.ps.length∧m.2.2.length≤1000 :=
 ⟨Gn h.net.1,λm hm=>(Bs hm).elim (h.net.2 m) (hl m)⟩
theorem bB.ak (h:bB p cf c v)(hi:i<v.ps.length)(b:UInt8):bB p cf (c+1) { v with ps:=v.ps.set i (dH p b (an v i)).2 } :=
 h.put hi (lA.ak (h.pl i hi).1 b).wf (lA.ak (h.pl i hi).1 b).cf (by have:=(h.pl i hi).2.2;rw[aaS p b (h.pl i hi).1];omega) h.net.1 h.net.2
theorem bB.recv (h:bB p cf c v)(hi:i<v.ps.length)(bs:List UInt8){net:List Ml}(hl:net.length≤300)(hm:∀ m∈net,m.2.1<v.ps.length∧m.2.2.length≤1000):bB p cf (c+1) { v with ps:=v.ps.set i (dI p bs (an v i)).2,net:=net } :=
 h.put hi (lA.recv (h.pl i hi).1 bs).wf (lA.recv (h.pl i hi).1 bs).cf (by have:=(h.pl i hi).2.2;rw[aaU p bs (h.pl i hi).1];omega) hl hm
theorem bB.tick (h:bB p cf c v)(hi:i<v.ps.length):bB p cf (c+1) { v with ps:=v.ps.set i ⟨(bo (an v i).k).2,(an v i).g⟩,net:=eo v.net (bo (an v i).k).1 }:=by
 have h1:=h.M1 (l:=(bo (an v i).k).1) λm hm=>by have:=MZ (h.pl i hi).1.wc m hm;rwa [h.ta hi]at this
 exact h.put hi (h.pl i hi).1.tick (FT _) (by have:=(h.pl i hi).2.2;have:=aaV (an v i).k;show (bo (an v i).k).2.now≤_;omega) h1.1 h1.2
theorem bB.lu (h:bB p cf c v)(hi:i<v.ps.length):bB p cf (c+1) { v with ps:=v.ps.set i ⟨(bG (an v i).k).2,(an v i).g⟩,net:=eo v.net (bG (an v i).k).1 }:=by
 have h1:=h.M1 (l:=(bG (an v i).k).1) λm hm=>by have:=M0 (h.pl i hi).1.wc m hm;rwa [h.ta hi]at this
 exact h.put hi (h.pl i hi).1.lu (FU _) (by have:=(h.pl i hi).2.2;have:=aaW (an v i).k;show (bG (an v i).k).2.now≤_;omega) h1.1 h1.2
theorem bB.one (h:bB p cf c v):bB p cf (c+1) (fW p s v).2:=by
 unfold fW;split
 ·exact h.more (Nat.le_succ _)
 ·have hi:s.a.toNat<v.ps.length:=by omega
  split
  ·exact h.ak hi _
  ·split
   ·exact h.tick hi
   ·split
    ·exact h.lu hi
    ·exact h.more (Nat.le_succ _)
theorem bB.Gp (h:bB p cf c v){j:Nat}(hj:j<v.net.length):(v.net.getD j (0,0,[])).2.1<v.ps.length∧(v.net.getD j (0,0,[])).2.2.length≤1000:=by
 rw[bl,aF hj];exact h.net.2 _ (getElem_mem hj)
theorem bB.erase (h:bB p cf c v)(j:Nat):(v.net.eraseIdx j).length≤300∧∀ m∈v.net.eraseIdx j,m.2.1<v.ps.length∧m.2.2.length≤1000 :=
 ⟨gF (List.length_eraseIdx_le _ _) h.net.1,λm hm=>h.net.2 m (mem_of_mem_eraseIdx hm)⟩
theorem bB.M3 (h:bB p cf c v){net:List Ml}(hl:net.length≤300)(hm:∀ m∈net,m.2.1<v.ps.length∧m.2.2.length≤1000):bB p cf (c+1) { v with net:=net } :=
 { h.more (Nat.le_succ c) with net:=⟨hl,hm⟩ }
theorem bB.yE (h:bB p cf c v):bB p cf (c+1) (gg p s v).2:=by
 unfold gg;split
 ·exact h.more (Nat.le_succ _)
 ·rename_i hr;have hj:s.n.toNat<v.net.length:=by omega
  have hx:=h.Gp hj;split
  ·split
   ·exact h.more (Nat.le_succ _)
   ·refine h.M3 (by rw[bu];exact h.net.1) λm hm=>?_;rcases mem_or_eq_of_mem_set hm with h1 | rfl
    ·exact h.net.2 m h1
    ·exact⟨hx.1,by show (List.set _ _ _).length≤_;rw[bu];exact hx.2⟩
  ·split
   ·exact h.M3 (h.erase _).1 (h.erase _).2
   ·refine h.recv hx.1 _ ?_ ?_ <;> split
    ·exact h.net.1
    ·exact (h.erase _).1
    ·exact h.net.2
    ·exact (h.erase _).2
theorem bB.step (h:bB p cf c v):bB p cf (c+1) (bt p s v).2:=by
 unfold bt;split
 ·exact h.more (Nat.le_succ _)
 ·split
  ·exact h.yE
  ·exact h.one
theorem qx (v:Wd):∀ i,(cj v i).ps.length=v.ps.length∧(cj v i).net=v.net∧(cj v i).ev.length=v.ev.length
 | 0=>⟨rfl,rfl,rfl⟩
 | i+1=>by
  obtain⟨h1,h2,h3⟩:=qx v i;exact⟨by show (List.set _ _ _).length=_;rw[bu,h1],h2,by show (List.set _ _ _).length=_;rw[bu,h3]⟩
theorem yF (v:Wd):∀ {i j:Nat},i≤v.ps.length→an (cj v i) j=if j<i then ⟨{ (an v j).k with ev:=[] },(an v j).g⟩ else an v j
 | 0,j,_=>by rw[ag (Nat.not_lt_zero _)];rfl
 | i+1,j,h=>by
  have h1:=yF v (i:=i) (j:=i) (by omega);rw[ag (Nat.lt_irrefl _)]at h1;show an ⟨(cj v i).ps.set i _,_,_⟩ j=_;rw[qw (v:=cj v i) (by rw[(qx v i).1];omega),h1,yF v (i:=i) (j:=j) (by omega)];by_cases h2:i=j
  ·subst h2;rw[al rfl,al (by omega)]
  ·rw[ag h2];by_cases h3:j<i
   ·rw[al h3,al (by omega)]
   ·rw[ag h3,ag (by omega)]
theorem Gq (v:Wd)(hl:v.ev.length=v.ps.length):∀ {i j:Nat},i≤v.ps.length→(cj v i).ev.getD j []=if j<i then v.ev.getD j []++(an v j).k.ev else v.ev.getD j []
 | 0,j,_=>by rw[ag (Nat.not_lt_zero _)];rfl
 | i+1,j,h=>by
  have h1:=yF v (i:=i) (j:=i) (by omega);rw[ag (Nat.lt_irrefl _)]at h1;have h4:=Gq v hl (i:=i) (j:=i) (by omega);rw[ag (Nat.lt_irrefl _)]at h4;show ((cj v i).ev.set i ((cj v i).ev.getD i []++(an (cj v i) i).k.ev)).getD j []=_;rw[h1,h4,bl,jF];by_cases h2:i=j
  ·subst h2;rw[al rfl,al (by rw[(qx v i).2.2,hl];omega),al (by omega)];rfl
  ·rw[ag h2,← bl,Gq v hl (i:=i) (j:=j) (by omega)];by_cases h3:j<i
   ·rw[al h3,al (by omega)]
   ·rw[ag h3,ag (by omega)]
theorem aaZ {α:Type}{l:List α}{x d:α}(h:x∈l):∃ i,i<l.length∧l.getD i d=x:=by
 obtain⟨i,hi,rfl⟩:=List.getElem_of_mem h;exact⟨i,hi,by rw[bl,aF hi];rfl⟩
theorem wE {α:Type}{l:List α}{d:α}{i:Nat}(h:i<l.length):l.getD i d∈l:=by
 rw[bl,aF h];exact getElem_mem _
theorem bB.cj (h:bB p cf c v){i:Nat}(hi:i≤v.ps.length):bB p cf (c+1) (cj v i):=by
 obtain⟨h1,h2,h3⟩:=qx v i;refine⟨h.may,by rw[h1];exact h.n,by rw[h1,h3];exact h.ev,λj hj=>?_,by rw[h1,h2];exact h.net,λe he=>?_⟩
 ·rw[h1]at hj;obtain⟨dj,dW,a3⟩:=h.pl j hj;rw[yF v hi];split
  ·exact⟨dj.told,dW,by show (an v j).k.now≤_;omega⟩
  ·exact⟨dj,dW,by omega⟩
 ·obtain⟨j,hj,rfl⟩:=aaZ (d:=[]) he;rw[h3]at hj;rw[Gq v h.ev hi];have h4:=h.kx _ (wE (d:=[]) hj);have h5:=(h.pl j (by rw[← h.ev];exact hj)).1.wc;split
  ·refine⟨by have:=h5.kx;rw[aM];omega,λx hx=>?_⟩;rcases eR.1 hx with hx | hx
   ·exact h4.2 x hx
   ·exact h5.bx x hx
  ·exact⟨by omega,h4.2⟩
theorem bB.drain (h:bB p cf c v):bB p cf (c+1) (kA v):=h.cj (bk _)
theorem bB.go (h:bB p cf c v):bB p cf (c+2) (dz p s v):=by
 unfold dz;split
 ·exact h.more (by omega)
 ·exact h.step.drain
end
end
section
structure c5 where
 frm:Int
 to:Int
 ad:Option Addr
 c:Nat
 bs:List UInt8
abbrev c5.cells (m:c5):List Value:=[.int .i64 m.frm,.int .i64 m.to,.slice m.ad m.bs.length m.c]
def iH (ms:List c5):List Value:=ms.flatMap c5.cells
def c5.own (m:c5):SP:=Sl 5 1 m.ad m.bs.length m.c (bc m.bs)
def fJ (ms:List c5):SP:=λh=>cn (ms.map c5.own) h
theorem Bt (l m:List c5):iH (l++m)=iH l++iH m:=by simp[iH]
theorem M4 (l:List c5)(i:Nat):(iH l).drop (i*3)=iH (l.drop i):=by
 induction i generalizing l with
 | zero=>simp
 | succ i ih =>
  cases l with
  | nil=>simp[iH]
  | cons x l =>
   rw[show (i+1)*3=i*3+3 from by omega];simp only[iH,flatMap_cons,List.drop_succ_cons,c5.cells] at *;rw[← ih l];simp
theorem aa0 (l:List c5)(i:Nat):(iH l).take (i*3)=iH (l.take i):=by
 induction i generalizing l with
 | zero=>simp[iH]
 | succ i ih =>
  cases l with
  | nil=>simp[iH]
  | cons x l =>
   rw[show (i+1)*3=i*3+3 from by omega];simp only[iH,flatMap_cons,take_succ_cons,c5.cells] at *;rw[← ih l];simp
theorem aa1 (l:List c5)(i:Nat)(h:i<l.length):((iH l).drop (i*3)).take 3=l[i].cells:=by
 rw[M4,kb h];simp only[iH,flatMap_cons,c5.cells,cons_append,nil_append,take_succ_cons,take_zero]
theorem fJ.nil {W w:World}{L:List SP}(I:U W w L):U W w (fJ []::L) :=
 ⟨I.below,let ⟨h,p,q⟩:=I.sat;⟨h,p,λ_=>none,h,λ_=>.inl rfl,λ_ _ e=>(by cases e),Hp.Sub.refl _,trivial,q⟩⟩
theorem fJ.out {W w:World}{L:List SP}{a b:List c5}{m:c5}(I:U W w (fJ (a++m::b)::L)):U W w (m.own::fJ (a++b)::L):=by
 have h1:=I.open (M:=(a++m::b).map c5.own) (λ_ x=>x);have h2:((a++m::b).map c5.own++L).Perm (m.own::((a++b).map c5.own++L)):=by
  rw[← cons_append,← map_cons];exact ((perm_middle (a:=m) (l₁:=a) (l₂:=b)).map c5.own).append_right L
 have h3:=h1.perm h2;have h4:=h3.perm (List.perm_append_comm (l₁:=[m.own]) (l₂:=(a++b).map c5.own++L));have h5:U W w ((a++b).map c5.own++(L++[m.own])):=by simpa using h4
 have h6:=U.shut (A:=fJ (a++b)) h5 (λ_ x=>x);exact h6.perm (List.Perm.trans (List.perm_append_comm (l₁:=fJ (a++b)::L) (l₂:=[m.own])) (List.Perm.refl _))
theorem fJ.M5 {W w:World}{L:List SP}{a b:List c5}{m:c5}(I:U W w (m.own::fJ (a++b)::L)):U W w (fJ (a++m::b)::L):=by
 have h1:U W w (fJ (a++b)::([m.own]++L)):=I.perm (List.Perm.swap _ _ _);have h2:=h1.open (M:=(a++b).map c5.own) (λ_ x=>x);refine U.shut (M:=(a++m::b).map c5.own) (h2.perm ?_) (λ_ x=>x);have h3:((a++b).map c5.own++([m.own]++L)).Perm (m.own::((a++b).map c5.own++L)):=by
  have:=perm_middle (a:=m.own) (l₁:=(a++b).map c5.own) (l₂:=L);simpa using this
 refine h3.trans ?_;rw[← cons_append,← map_cons];exact (((perm_middle (a:=m) (l₁:=a) (l₂:=b)).map c5.own).symm).append_right L
theorem fJ.rd {W w:World}{L R:List SP}{xs:List c5}(I:U W w L)[k:pQ L (fJ xs) R](i:Nat)(h:i<xs.length):aQ w xs[i].ad xs[i].bs.length xs[i].bs:=by
 have h1:=I.pick (fJ xs);rw[show xs=xs.take i++xs[i]::xs.drop (i+1) from by rw[← kb h,jE]]at h1;have h2:=fJ.out h1;refine⟨rfl,λe=>?_,λx hx hp=>?_⟩
 ·rcases Nat.eq_zero_or_pos xs[i].bs.length with h0 | h0
  ·exact h0
  ·obtain⟨b,off,e2,_⟩:=U.bW (L:=xs[i].own::_) (e:=5) (sz:=1) (n:=xs[i].bs.length) (c:=xs[i].c) (cs:=bc xs[i].bs) (k:=⟨List.Perm.refl _⟩) h2 xs[i].ad h0;rw[e]at e2;cases e2
 ·obtain⟨b,off,e2,hr⟩:=U.bW (L:=xs[i].own::_) (e:=5) (sz:=1) (n:=xs[i].bs.length) (c:=xs[i].c) (cs:=bc xs[i].bs) (k:=⟨List.Perm.refl _⟩) h2 xs[i].ad hp;exact⟨b,off,by rw[hx]at e2;cases e2;rfl,hr⟩
abbrev oH:=Int×Int×List UInt8
def c5.m (x:c5):oH:=(x.frm,x.to,x.bs)
def bM (q:Nat)(ms:List oH):SP:=λh=>∃ i:(Option Addr×Nat)×List c5,(i.2.map c5.m=ms∧ms.length≤300∧∀ x∈i.2,x.bs.length≤1000) ∧
 cn [aa q 110 [.slice i.1.1 i.2.length i.1.2],Sl 124 3 i.1.1 i.2.length i.1.2 (iH i.2),fJ i.2] h
theorem bM.open {W w:World}{L:List SP}{q:Nat}{ms:List oH}(I:U W w (bM q ms::L)) :
   ∃ ad c xs,ms=xs.map c5.m∧(xs.length≤300∧∀ x∈xs,x.bs.length≤1000)∧U W w (aa q 110 [.slice ad xs.length c]::Sl 124 3 ad xs.length c (iH xs)::fJ xs::L):=by
 obtain⟨i,⟨h1,h2,h3⟩,h⟩:=I.jt (B:=λi:(Option Addr×Nat)×List c5=>cn [aa q 110 [.slice i.1.1 i.2.length i.1.2],Sl 124 3 i.1.1 i.2.length i.1.2 (iH i.2),fJ i.2]) (λ_ h=>h);exact⟨i.1.1,i.1.2,i.2,h1.symm,⟨by rw[← h1]at h2;simpa using h2,h3⟩,h.open (λ_ x=>x)⟩
theorem bM.shut {W w:World}{L R R2 R3:List SP}{q n c:Nat}{ad:Option Addr}{cs:List Value}{xs:List c5}{ms:List oH}(I:U W w L)[k:fD L q 110 [.slice ad n c] R][k2:fL R ad n c 124 3 cs R2][k3:pQ R2 (fJ xs) R3]
   (hn:n=xs.length) (hc:cs=iH xs) (hm:ms=xs.map c5.m) (h3:xs.length≤300) (h4:∀ x∈xs,x.bs.length≤1000):U W w (bM q ms::R3):=by
 subst hn;subst hc;subst hm;have h1:=(I.perm k.perm).perm (List.Perm.cons _ (k2.perm.trans (List.Perm.cons _ k3.perm)));exact U.shut (M:=[_,_,_]) h1 λ_ x=>⟨((ad,c),xs),⟨rfl,by simpa using h3,h4⟩,x⟩
theorem Gr {w:World}{b off:Nat}{xs:List c5}(h:Rd w b off (iH xs))(k:Nat)(hk:k<xs.length) :
   Rd w b (off+k*3) xs[k].cells∧w.cell? ⟨b,off+k*3,none⟩=some (.int .i64 xs[k].frm)∧w.cell? ⟨b,off+k*3+1,none⟩=some (.int .i64 xs[k].to)∧w.cell? ⟨b,off+k*3+2,none⟩=some (.slice xs[k].ad xs[k].bs.length xs[k].c):=by
 have hr:=h.part (k*3) 3;rw[aa1 xs k hk]at hr;exact⟨hr,hr 0 _ rfl,hr 1 _ rfl,hr 2 _ rfl⟩
theorem aa2 {W w:World}{L:List SP}{c:Nat}(I:U W w L) :
   Calls prog 95 #[.slice none 0 c] w λe V=>e=.returned (.slice none 0 0)∧U W V L:=by
 refine EN func95 ntmps95 rfl rfl λa E=>?_;refine RN 6 E I λa E=>?_;replace E:=E.dX 4;refine RT 3 E I ?_;exact⟨rfl,I⟩
theorem aa3 {W w:World}{L:List SP}{x:Addr}{c:Nat}(I:U W w L) :
   Calls prog 95 #[.slice (some x) 0 c] w λe V=>∃ av,e=.returned (.slice av 0 0)∧U W V (Sl 5 1 av 0 0 []::L):=by
 refine EN func95 ntmps95 rfl rfl λa E=>?_;refine RN 6 E I λa E=>?_;replace E:=E.aK 4;refine RN 2 E I λa E=>?_;refine tu E rfl I underlying22 Ty.t5 rfl λb5 a w E I ho=>?_;clear ho;refine RN 1 E I λa E=>?_;refine Cl E rfl underlying22 Ty.t5 rfl (bk _) λa E=>?_;refine RT 1 E I ?_;exact⟨_,rfl,I⟩
theorem aa4 {W w:World}{L:List SP}{b off c:Nat}{bs:List UInt8}(I:U W w L)(hr:Rd w b off (bc bs))(h0:0<bs.length)(hl:bs.length≤140737488355328) :
   Calls prog 95 #[.slice (some ⟨b,off,none⟩) bs.length c] w λe V=>∃ av c',e=.returned (.slice av bs.length c')∧U W V (Sl 5 1 av bs.length c' (bc bs)::L):=by
 refine EN func95 ntmps95 rfl rfl λa E=>?_;refine RN 6 E I λa E=>?_;replace E:=E.aK 4;refine RN 2 E I λa E=>?_;refine tu E rfl I underlying22 Ty.t5 rfl λb5 a w E I ho=>?_;replace hr:=ho.rd hr;clear ho;refine RN 1 E I λa E=>?_;refine cQ E rfl I underlying22 Ty.t5 rfl rfl hr (by rw[dB,Nat.mul_one]) (ey bs) h0 (by decide) (by omega) λr5 l5 a w E I=>?_;refine RT 1 E I ?_;rw[Nat.zero_add] at *;exact⟨_,_,rfl,I⟩
theorem aa5 {W w:World}{L:List SP}{ad:Option Addr}{n c:Nat}{bs:List UInt8}(I:U W w L)(hr:aQ w ad n bs)(hl:n≤140737488355328) :
   Calls prog 95 #[.slice ad n c] w λe V=>∃ av c',e=.returned (.slice av n c')∧U W V (Sl 5 1 av n c' (bc bs)::L):=by
 obtain⟨rfl,h2,h3⟩:=hr;cases ad with
 | none =>
  have h0:=h2 rfl;obtain rfl:=g5 h0;exact (aa2 I).mono λe V ⟨h,I⟩=>⟨none,0,h,I.bO _ _ _⟩
 | some x =>
  rcases Nat.eq_zero_or_pos bs.length with h0 | h0
  ·obtain rfl:=g5 h0;exact (aa3 I).mono λe V ⟨av,h,I⟩=>⟨av,0,h,I⟩
  ·obtain⟨b,off,rfl,hr⟩:=h3 x rfl h0;exact aa4 I hr h0 hl
theorem M6 {W w:World}{L:List SP}{ad:Option Addr}{n c:Nat}{f t:Int}{bs:List UInt8}(I:U W w L)(hr:∀ V,U W V L→aQ V ad n bs)(hl:n≤140737488355328) :
   Calls prog 76 #[.agg #[.int .i64 f,.int .i64 t,.slice ad n c]] w λe V=>∃ av c',e=.returned (.agg #[.int .i64 f,.int .i64 t,.slice av n c'])∧U W V (Sl 5 1 av n c' (bc bs)::L):=by
 refine EN func76 ntmps76 rfl rfl λa E=>?_;refine BX 1 E I λb1 a w E I=>?_;refine AL 0 E I λb2 a w E I=>?_;refine a6 3 E I (aa5 I (hr _ I.sub) hl) λav c' a w E I=>?_;refine ST 1 E I (λa w E I=>?_);refine SA 2 E I λa w E I=>?_;refine RT 0 E I ?_;exact⟨_,_,rfl,I.sub⟩
theorem M7 {W w:World}{L R:List SP}{q e:Nat}{s:Option Addr}{n c:Nat}(I:U W w L) [fD L q e [.slice s n c] R] :
   Calls prog 23 #[pt q] w λe V=>e=.returned (.int .i64 n)∧U W V L:=by
 refine EN func23 ntmps23 rfl rfl λa E=>?_;refine RN 6 E I λa E=>?_;replace E:=E.aK 4;refine RT 8 E I ?_;exact⟨rfl,I⟩
theorem M8 {W w:World}{L:List SP}{q:Nat}{ms:List oH}(I:U W w (bM q ms::L)) :
   Calls prog 23 #[pt q] w λe V=>e=.returned (.int .i64 ms.length)∧U W V (bM q ms::L):=by
 obtain⟨ad,c,xs,rfl,hx,I⟩:=bM.open I;refine (M7 (q:=q) I).mono λe V ⟨h,I⟩=>⟨by rw[h];simp,bM.shut (q:=q) (ad:=ad) (xs:=xs) I rfl rfl rfl hx.1 hx.2⟩
theorem Bu {W w:World}{L R:List SP}{q e:Nat}{s:Option Addr}{n c:Nat}{i:Int}(I:U W w L) [fD L q e [.slice s n c] R] :
   Calls prog 75 #[pt q,.int .i64 i] w λe V=>e=.returned (.bool (decide (0≤i)&&decide (i<n)))∧U W V L:=by
 refine EN func75 ntmps75 rfl rfl λa E=>?_;refine BY 6 E I (λbA a E=>?_) λbA a E=>?_
 ·
  refine CL 2 E I (M7 (q:=q) I) λa w E I=>?_;refine RT 3 E I ?_;exact⟨by rw[dq (p:=0≤i) (by omega),Bool.true_and],I⟩
 refine RT 6 E I ?_;exact⟨by rw[bq (p:=0≤i) (by omega),Bool.false_and],I⟩
theorem M9 {W w:World}{L:List SP}(I:U W w L) :
   Calls prog 42 #[] w λe V=>∃ q,e=.returned (pt q)∧U W V (bM q []::L):=by
 refine EN func42 ntmps42 rfl rfl λa E=>?_;refine BX 4 E I λb2 a w E I=>?_;refine RT 1 E I ?_;exact⟨_,rfl,by
  have h1:=(fJ.nil (I.bO 124 3 none));exact (bM.shut (q:=b2) (xs:=[]) (ms:=[]) h1 rfl rfl rfl (by simp) (by simp)).sub⟩
theorem Na {p q r vs:List Value}{o:Nat}(ho:o=p.length)(h:q.length=vs.length):cD (p++q++r) o vs=p++vs++r:=by
 subst ho;have e1:(p++q++r).take p.length=p:=by rw[dA,List.take_left]
 have e2:(p++q++r).drop (p.length+vs.length)=r:=by rw[← h,show p.length+q.length=(p++q).length from by simp,drop_left]
 rw[cD,e1,e2]
theorem aa6 {pre cs post:List Value}{n i:Nat}(hl:cs.length=n*3)(hi:i<n) :
   ∃ v,v.length=3∧cD (pre++cs++post) (pre.length+i*3) (cs.drop ((i+1)*3))=(pre++(cs.take (i*3)++cs.drop ((i+1)*3)))++v++post:=by
 refine⟨(cs.drop (i*3)).drop ((n-1-i)*3),by rw[c8,c8];omega,?_⟩;have qU:cs=cs.take (i*3)++((cs.drop (i*3)).take ((n-1-i)*3)++(cs.drop (i*3)).drop ((n-1-i)*3)):=by rw[jE,jE]
 have e:pre++cs++post=(pre++cs.take (i*3))++(cs.drop (i*3)).take ((n-1-i)*3)++((cs.drop (i*3)).drop ((n-1-i)*3)++post):=by
  conv=>lhs;rw[qU]
  simp only[dA]
 rw[e,Na (by rw[aM,ez];omega) (by rw[ez,c8,c8];omega)];simp only[dA]
theorem aa7 {W w:World}{L:List SP}{ad:Option Addr}{c n i:Nat}{cs:List Value}(I:U W w (Sl 124 3 ad n c cs::L))(hi:i<n)(hn:n≤140737488355328)(fN:∀ v∈cs,v.oneCell'=true) :
   Calls prog 103 #[.slice ad n c,.int .i64 i,.int .i64 ((i+1:Nat):Int)] w λe V=>e=.returned (.slice ad (n-1) c)∧U W V (Sl 124 3 ad (n-1) c (cs.take (i*3)++cs.drop ((i+1)*3))::L):=by
 have aj:=(I.sl ad);obtain⟨b,pre,post,⟨h1,h2,rfl,h4⟩,gx⟩:=I.lC (by omega);replace I:=gx;clear gx;have nN:∃ p1,fm (some ⟨b,pre.length,none⟩) (i+1) c 3=some ⟨b,p1,none⟩∧∀ w,U W w (aa b 124 (pre++cs++post)::L)→Rd w b p1 (cs.drop ((i+1)*3)):=by
  by_cases Nb:c=i+1
  ·refine⟨pre.length,by simp[fm,Nb],λw _=>?_⟩;rw[List.drop_of_length_le (by omega)];intro j v hj;simp at hj
  ·refine⟨pre.length+(i+1)*3,oN Nb,λw I=>?_⟩;intro j v hj;have hlt:=(a8.1 hj).1;rw[c8]at hlt;rw[I.cell,dA,getElem?_append_right (by omega),show pre.length+(i+1)*3+j-pre.length=(i+1)*3+j from by omega,lX (by omega)];rw[getElem?_drop]at hj;exact hj
 obtain⟨p1,yC,nN⟩:=nN;refine EN func103 ntmps103 rfl rfl λa E=>?_;refine RN 8 E I λa E=>?_;refine SS E (P3 E underlying108 Ty.t124 (by omega) (by omega) (by omega)) λa E=>?_;refine RN 5 E I λa E=>?_;rw[show decide ((i:Int)=((i+1:Nat):Int))=false from bq (by omega)]at E;replace E:=E.aK 16;refine bS 6 [] [0,1,2,3,4,5,1006,7] E I λa w E I hH hC=>?_;refine RH 6 E I hH hC λa E=>?_;rw[yC,oN (by omega:c≠0)]at E;refine P6 E rfl I underlying108 Ty.t124 rfl (nN _ I) (by simp;omega) (λv hv=>fN v (List.mem_of_mem_drop hv)) (by omega) (by simp;omega) λa w E I=>?_;obtain⟨v,hv,Ef⟩:=aa6 (pre:=pre) (post:=post) (n:=n) (i:=i) h1 hi;rw[show pre.length+0*3+(i-0)*3=pre.length+i*3 from by omega,Ef]at I;rw[show i-0+(n-(i+1))=n-1 from by omega,show pre.length+0*3=pre.length from by omega]at E;have hP:(pre++(cs.take (i*3)++cs.drop ((i+1)*3))).length=pre.length+(n-1)*3:=by
  simp only[aM,ez,c8];omega
 refine RN 1 E I λa E=>?_;refine RN 6 E I λa E=>?_;rw[oN (by omega)]at E;have hle:pre.length+(n-1)*3+(n-(n-1))*3≤(pre++(cs.take (i*3)++cs.drop ((i+1)*3))++v++post).length:=by
  rw[aM,aM,hP,hv];omega
 refine HK E rfl I underlying108 Ty.t124 rfl rfl hle λa w E I=>?_;refine RT 3 E I ?_;refine⟨rfl,?_⟩;generalize hz:(Builtin.zeroCells (Value.cells (.agg #[.int .i64 0,.int .i64 0,.slice none 0 0])) (n-(n-1))).toList=zs at I;have iW:zs.length=(n-(n-1))*3:=by rw[← hz];exact wX 0 (a2:=0) rfl _
 rw[Na hP.symm (by rw[hv,iW];omega)]at I;rw[dA _ zs post]at I;exact U.iL I (by rw[aM]at hP;omega) (by omega) (by rw[aM,iW];omega)
def pH (ms:List oH)(n:Nat):Bool:=decide (ms.length<300)&&decide (n≤1000)
theorem aa8 {W w:World}{L:List SP}{q:Nat}{ms:List oH}{ad:Option Addr}{n c:Nat}{f t:Int}{bs:List UInt8}(I:U W w (bM q ms::L))(hr:∀ V,U W V L→aQ V ad n bs) :
   Calls prog 100 #[pt q,.agg #[.int .i64 f,.int .i64 t,.slice ad n c]] w λe V=>e=.returned (.bool (pH ms n))∧U W V (bM q (if pH ms n then ms++[(f,t,bs)] else ms)::L):=by
 have nX:=(hr _ I.tail).1;subst nX;obtain⟨lp,dN,xs,rfl,hx,I⟩:=bM.open I;refine EN func100 ntmps100 rfl rfl λa E=>?_;refine BX 1 E I λb3 a w E I=>?_;refine RN 6 E I λa E=>?_;replace E:=E.aK 7;refine BY 8 E I (λlF a E=>?_) λlF a E=>?_
 ·
  have hm:pH (xs.map c5.m) bs.length=false:=by simp only[pH,bg,Bool.and_eq_false_iff,decide_eq_false_iff_not];left;omega
  refine RT 8 E I ?_;exact⟨by rw[hm],by rw[hm,ag (by decide)];exact (bM.shut (q:=q) (ad:=lp) (xs:=xs) I rfl rfl rfl hx.1 hx.2).sub⟩
 refine IF 5 E I (λaj a E=>?_) λaj a E=>?_
 ·
  have hm:pH (xs.map c5.m) bs.length=false:=by simp only[pH,bg,Bool.and_eq_false_iff,decide_eq_false_iff_not];right;omega
  refine RT 2 E I ?_;exact⟨by rw[hm],by rw[hm,ag (by decide)];exact (bM.shut (q:=q) (ad:=lp) (xs:=xs) I rfl rfl rfl hx.1 hx.2).sub⟩
 have hm:pH (xs.map c5.m) bs.length=true:=by simp only[pH,bg,fC,decide_eq_true_eq];omega
 refine aY 1 (λw0 V=>V.cell? ⟨q,0,none⟩=some (.slice lp xs.length dN)) [5,6,7] [0,1,2,3,3004,1005,1006,1007,1008,9,10,1011] E I λa w E I hH=>?_;have hC:=hH.at w (I.bz rfl);refine RH 4 E I hH hC λa E=>?_;refine QH E (λw hc=>ae E (hc)) hC λa E=>?_;refine RH 1 E I hH hC λa E=>?_;refine a6 0 E I (M6 I (λV h=>hr V h.sub) (by omega)) λav c' a w E I=>?_;replace hC:=hH.at w (I.bz rfl);refine RH 0 E I hH hC λa E=>?_;refine cp E rfl I underlying108 Ty.t124 rfl rfl rfl rfl (by decide) (by decide) λH2 a w E I ho=>?_;clear ho;replace hC:=hH.at w (I.bz rfl);refine RH 0 E I hH hC λa E=>?_;refine cQ E rfl I underlying108 Ty.t124 rfl rfl I.ai rfl (by simp[Value.oneCell']) (by decide) (by decide) (by omega) λK2 K3 a w E I=>?_;refine ST 2 E I (λa w E I=>?_);refine RT 2 E I ?_;refine⟨by rw[hm],?_⟩;rw[hm,al rfl];have h3:=(I.pick (fJ xs)).pick (Sl 5 1 av bs.length c' (bc bs));have h4:=fJ.M5 (a:=xs) (b:=[]) (m:=⟨f,t,av,c',bs⟩) (by rw[append_nil];exact h3);refine (bM.shut (q:=q) (xs:=xs++[⟨f,t,av,c',bs⟩]) (ms:=xs.map c5.m++[(f,t,bs)]) h4 (by simp) (by rw[Bt];rfl) (by simp[c5.m]) (by simp;omega) ?_).sub;intro x dp;rcases eR.1 dp with h | h
 ·exact hx.2 x h
 ·obtain rfl:=mem_singleton.1 h;exact Int.ofNat_le.1 aj
theorem aa9 {W w:World}{L:List SP}{q:Nat}{ms:List oH}{i:Int}(I:U W w (bM q ms::L))(hi:(decide (0≤i)&&decide (i<ms.length))=false) :
   Calls prog 52 #[pt q,.int .i64 i] w λe V=>e=.returned (.tuple #[.agg #[.int .i64 0,.int .i64 0,.slice none 0 0],.bool false])∧U W V (bM q ms::L):=by
 obtain⟨lp,dN,xs,rfl,hx,I⟩:=bM.open I;rw[bg]at hi;refine EN func52 ntmps52 rfl rfl λa E=>?_;refine AL 1 E I λb4 a w E I=>?_;refine CL 5 E I (Bu (q:=q) I) λa w E I=>?_;rw[hi]at E;refine RN 1 E I λa E=>?_;replace E:=E.dX 9;refine SA 3 E I λa w E I=>?_;refine RT 1 E I ?_;exact⟨rfl,(bM.shut (q:=q) (ad:=lp) (xs:=xs) I rfl rfl rfl hx.1 hx.2).sub⟩
theorem Gt {i n:Nat}(h:i<n):(decide (0≤(i:Int))&&decide ((i:Int)<(n:Int)))=true:=by
 simp;omega
theorem aba {W w:World}{L:List SP}{q:Nat}{ms:List oH}{i:Nat}(I:U W w (bM q ms::L))(hi:i<ms.length) :
   Calls prog 52 #[pt q,.int .i64 i] w λe V=>∃ ad c,e=.returned (.tuple #[.agg #[.int .i64 ms[i].1,.int .i64 ms[i].2.1,.slice ad ms[i].2.2.length c],.bool true])∧U W V (Sl 5 1 ad ms[i].2.2.length c (bc ms[i].2.2)::bM q ms::L):=by
 obtain⟨lp,dN,xs,rfl,hx,I⟩:=bM.open I;have dJ:i<xs.length:=by simpa using hi
 simp only[getElem_map,c5.m];refine EN func52 ntmps52 rfl rfl λa E=>?_;refine AL 1 E I λb4 a w E I=>?_;refine CL 5 E I (Bu (q:=q) I) λa w E I=>?_;rw[Gt dJ]at E;refine RN 1 E I λa E=>?_;replace E:=E.aK 9;refine RN 2 E I λa E=>?_;obtain⟨b',dG,rfl,dk⟩:=I.bW lp (by omega);have gH:=Gr dk i dJ;refine RN 6 E I λa E=>?_;refine SS E (bR E underlying124 rfl Ty.t124 (gH.1)) λa E=>?_;refine a6 0 E I (M6 I (λV h=>fJ.rd h i dJ) (by have:=hx.2 xs[i] (getElem_mem dJ);omega)) λav c' a w E I=>?_;refine SA 0 E I λa w E I=>?_;refine RT 1 E I ?_;exact⟨_,_,rfl,(bM.shut (q:=q) (ad:=some ⟨b',dG,none⟩) (xs:=xs) I rfl rfl rfl hx.1 hx.2).sub⟩
theorem abb (xs:List c5):∀ v∈iH xs,v.oneCell'=true:=by
 intro v hv;simp only[iH,List.mem_flatMap,c5.cells]at hv;obtain⟨x,_,hx⟩:=hv;simp at hx;rcases hx with rfl | rfl | rfl <;> rfl
theorem abc {W w:World}{L:List SP}{q:Nat}{ms:List oH}{i:Nat}(I:U W w (bM q ms::L))(hi:i<ms.length) :
   Calls prog 63 #[pt q,.int .i64 i] w λe V=>e=.returned (.bool true)∧U W V (bM q (ms.eraseIdx i)::L):=by
 obtain⟨lp,dN,xs,rfl,hx,I⟩:=bM.open I;have dJ:i<xs.length:=by simpa using hi
 refine EN func63 ntmps63 rfl rfl λa E=>?_;refine CL 6 E I (Bu (q:=q) I) λa w E I=>?_;rw[Gt dJ]at E;refine RN 1 E I λa E=>?_;replace E:=E.aK 8;refine CL 10 E I (aa7 (I.pick (Sl 124 3 lp xs.length dN (iH xs))) dJ (by omega) (abb xs)) λa w E I=>?_;refine ST 2 E I (λa w E I=>?_);refine RT 2 E I ?_;refine⟨rfl,?_⟩;have h1:=I.pick (fJ xs);have h0:xs=xs.take i++xs[i]::xs.drop (i+1):=by rw[← kb dJ,jE]
 have h2:=h1;rw[show fJ xs=fJ (xs.take i++xs[i]::xs.drop (i+1)) from by rw[← h0]]at h2;have h3:=(fJ.out h2).tail;rw[M4,aa0,← Bt,← eraseIdx_eq_take_drop_succ]at h3;exact (bM.shut (q:=q) (ad:=lp) (xs:=xs.eraseIdx i) (ms:=(xs.map c5.m).eraseIdx i) h3 (by rw[List.length_eraseIdx];simp[dJ]) rfl (by simp only[eraseIdx_eq_take_drop_succ,cX,map_take,map_drop]) (by rw[List.length_eraseIdx];simp[dJ];omega) (λx h=>hx.2 x (mem_of_mem_eraseIdx h))).sub
theorem Nc (bs:List UInt8)(i:Nat)(x:UInt8):(bc bs).set i (.int .u8 (x.toNat:Int))=bc (bs.set i x):=by
 simp[bc,List.map_set]
theorem yG {p q r:List Value}{i:Nat}{v:Value}(h:i<q.length):(p++q++r).set (p.length+i) v=p++q.set i v++r:=by
 rw[dA,set_append_right _ _ (by omega),show p.length+i-p.length=i from by omega,set_append_left _ _ h,dA]
theorem abd {W w:World}{L:List SP}{q:Nat}{ms:List oH}{i:Nat}{aV:Int}{x:UInt8}(I:U W w (bM q ms::L))(hi:i<ms.length) :
   Calls prog 64 #[pt q,.int .i64 i,.int .i64 aV,.int .u8 (x.toNat:Int)] w λe V =>
    e=.returned (.bool (decide (0≤aV)&&decide (aV<ms[i].2.2.length)))∧U W V (bM q (if decide (0≤aV)&&decide (aV<ms[i].2.2.length) then ms.set i (ms[i].1,ms[i].2.1,ms[i].2.2.set aV.toNat (ms[i].2.2.getD aV.toNat 0 ^^^ x)) else ms)::L):=by
 obtain⟨lp,dN,xs,rfl,hx,I⟩:=bM.open I;have dJ:i<xs.length:=by simpa using hi
 simp only[getElem_map,c5.m];obtain⟨b',dG,rfl,dk⟩:=I.bW lp (by omega);clear dk;refine EN func64 ntmps64 rfl rfl λa E=>?_;refine CL 6 E I (Bu (q:=q) I) λa w E I=>?_;rw[Gt dJ]at E;refine RN 2 E I λa E=>?_;replace E:=E.aK 13;refine BY 4 E I (λeh a E=>?_) λeh a E=>?_
 ·
  have hm:(decide (0≤aV)&&decide (aV<xs[i].bs.length))=false:=by rw[bq (by omega),Bool.false_and]
  refine RN 4 E I λa E=>?_;have gH:=Gr (I.cK b' dG (by omega)) i dJ;refine RT 11 E I ?_;exact⟨by rw[hm],by rw[hm,ag (by decide)];exact (bM.shut (q:=q) (ad:=some ⟨b',dG,none⟩) (xs:=xs) I rfl rfl rfl hx.1 hx.2).sub⟩
 refine RN 4 E I λa E=>?_;have gH:=Gr (I.cK b' dG (by omega)) i dJ;refine RN 4 E I λa E=>?_;refine bC E (cI E rfl (s:=17)) (ae E (gH.2.2.2)) rfl λa E=>?_;refine IF 3 E I (λaj a E=>?_) λaj a E=>?_
 ·
  have hm:(decide (0≤aV)&&decide (aV<xs[i].bs.length))=false:=by rw[bq (p:=aV<xs[i].bs.length) (by omega),Bool.and_false]
  refine RT 2 E I ?_;exact⟨by rw[hm],by rw[hm,ag (by decide)];exact (bM.shut (q:=q) (ad:=some ⟨b',dG,none⟩) (xs:=xs) I rfl rfl rfl hx.1 hx.2).sub⟩
 have hm:(decide (0≤aV)&&decide (aV<xs[i].bs.length))=true:=by simp;omega
 obtain⟨A,rfl⟩:∃ A:Nat,aV=A:=⟨aV.toNat,by omega⟩;have hA:A<xs[i].bs.length:=by omega
 rw[hm,al rfl,Int.toNat_natCast];have h1:=I.pick (fJ xs);have h0:xs=xs.take i++xs[i]::xs.drop (i+1):=by rw[← kb dJ,jE]
 rw[show fJ xs=fJ (xs.take i++xs[i]::xs.drop (i+1)) from by rw[← h0]]at h1;replace I:=fJ.out h1;clear h1;obtain⟨xa,tN⟩:∃ xa,xs[i].ad=xa:=⟨_,rfl⟩;have h2:=I;rw[show xs[i].own=Sl 5 1 xa xs[i].bs.length xs[i].c (bc xs[i].bs) from by rw[← tN];rfl]at h2;have b9:=(h2.sl xa).2;obtain⟨bb,pre,post,⟨h3,h4,h5,h6⟩,gx⟩:=h2.lC (by omega);rw[h5]at tN;replace I:=gx;clear gx h2;rw[tN]at gH;have hb:(pre++bc xs[i].bs++post)[pre.length+A]?=some (.int .u8 (xs[i].bs[A].toNat:Int)):=by
  rw[dA,getElem?_append_right (by omega),show pre.length+A-pre.length=A from by omega,lX (by rw[dB];exact hA)];simp[bc,hA]
 refine RN 8 E I λa E=>?_;refine SS E (ae E (gH.2.2.2)) λa E=>?_;refine RN 2 E I λa E=>?_;refine SS E (ae E (I.bz hb)) λa E=>?_;refine ST 3 E I (λa w E I=>?_) (hlt:=(by simp only[aM,dB];omega));refine RT 2 E I ?_;refine⟨rfl,?_⟩;rw[yG (by rw[dB];exact hA),Nc]at I;have h7:=U.iL (n:=xs[i].bs.length) (c:=xs[i].c) (sz:=1) (I.jD bb) (by rw[dB,bu,Nat.mul_one]) h4 h6;obtain⟨m',wF⟩:∃ m':c5,m'=⟨xs[i].frm,xs[i].to,xs[i].ad,xs[i].c,xs[i].bs.set A (xs[i].bs[A] ^^^ x)⟩:=⟨_,rfl⟩;have Gu:m'.own=Sl 5 1 (some ⟨bb,pre.length,none⟩) xs[i].bs.length xs[i].c (bc (xs[i].bs.set A (xs[i].bs[A] ^^^ x))):=by
  rw[wF,c5.own];simp only[bu,tN]
 rw[← Gu]at h7;have h8:=fJ.M5 (a:=xs.take i) (b:=xs.drop (i+1)) (m:=m') ((h7.pick (fJ (xs.take i++xs.drop (i+1)))).pick m'.own);have vb:xs.set i m'=xs.take i++m'::xs.drop (i+1):=by rw[set_eq_take_append_cons_drop,al dJ]
 rw[← vb]at h8;refine (bM.shut (q:=q) (ad:=some ⟨b',dG,none⟩) (xs:=xs.set i m') (ms:=(xs.map c5.m).set i (xs[i].frm,xs[i].to,xs[i].bs.set A (xs[i].bs.getD A 0 ^^^ x))) h8 (by rw[bu]) ?_ ?_ (by rw[bu];exact hx.1) ?_).sub
 ·rw[vb]
  conv=>lhs;rw[h0]
  rw[Bt,Bt]
  congr 1
  simp only[iH,flatMap_cons]
  congr 1
  rw[wF,c5.cells,c5.cells];simp only[bu]
 ·rw[List.map_set,wF,c5.m,bl,aF hA,Option.getD_some]
 ·intro y hy;rcases mem_or_eq_of_mem_set hy with h | h
  ·exact hx.2 y h
  ·rw[h,wF];simp only[bu];exact hx.2 _ (getElem_mem dJ)
end
section
theorem abe {l:List Br}{frm:Int}{P:List (List UInt8)}(b:Br)(h:0<(l.foldl (hW frm P) b).done)(hb:b.done=0) :
   l.foldl (hW frm P) b∈l∧(l.foldl (hW frm P) b).done≤P.length∧oY ((l.foldl (hW frm P) b).ak.take (l.foldl (hW frm P) b).done) P=true:=by
 have key:∀ (l:List Br) (b:Br),(l.foldl (hW frm P) b=b)∨(l.foldl (hW frm P) b∈l∧(l.foldl (hW frm P) b).done≤P.length∧oY ((l.foldl (hW frm P) b).ak.take (l.foldl (hW frm P) b).done) P=true):=by
  intro l
  induction l with
  | nil=>intro b;exact .inl rfl
  | cons y l ih =>
   intro b;rw[foldl_cons];rcases ih (hW frm P b y) with h | ⟨h1,h2,h3⟩
   ·rw[h];unfold hW;split
    ·rename_i hc;exact .inr ⟨mem_cons_self ..,hc.2.2.1,hc.2.2.2⟩
    ·exact .inl rfl
   ·exact .inr ⟨gM _ h1,h2,h3⟩
 rcases key l b with h1 | h1
 ·rw[h1,hb]at h;omega
 ·exact h1
theorem abf {u P:List (List UInt8)}(hl:u.length≤P.length)(h:oY u P=true):u=P.take u.length:=by
 have h1:=WM.1 h;rw[Nat.min_eq_left hl,take_length]at h1;exact h1
theorem Nd (p:Pr):∀ (a b:List (List UInt8)) (fr:Int) (g:Nat→Int),foldI p fr g (a++b)=foldI p (fr+(a.length:Nat)) (foldI p fr g a) b
 | [],b,fr,g=>by simp[foldI]
 | x::a,b,fr,g=>by
  rw[cons_append,foldI,Nd p a b,foldI,fc]
  congr 1;omega
theorem ix.drop {w:World}{ad:Option Addr}{zs:List ed}{d c:Nat}(h:ix w ad zs)(hc:zs.length≤c):ix w (fm ad d c 1) (zs.drop d):=by
 refine⟨λh0=>?_,λx hx=>h.2 x (List.mem_of_mem_drop hx)⟩;rw[c8]at h0;obtain⟨b,o,rfl,hr⟩:=h.1 (by omega);refine⟨b,o+d*1,oN (by omega),λj v hj=>?_⟩;rw[map_drop,getElem?_drop]at hj;have:=hr _ v hj;rw[Nat.mul_one,Nat.add_assoc];exact this
theorem Nf {w:World}{b nk base front:Nat}{p:Pr}{M:jm}(h:Rd w b 0 (dU p M nk base front)):Rd w b 1 (bw p M.aq M.cO):=h.part 1 2
theorem abg {p:Pr}{f:Nat}{g:Nat→Int}{P:List (List UInt8)}{d:Nat}(hd:d≤P.length):foldI p ((f+d:Nat):Int) (foldI p (f:Int) g (P.take d)) (P.drop d)=foldI p (f:Int) g P:=by
 have h1:=Nd p (P.take d) (P.drop d) (f:Int) g;rw[jE,ez,Nat.min_eq_left hd]at h1;rw[h1];rfl
section
variable {W w:World}{L:List SP}{n c i N tq sq r base front:Nat}{ad:Option Addr}{M:jm}{B:iT}{p:Pr}{s:Pl}{m:Mu}{A:Sn}{T:Tr}{t:Nat→Nat}{px:aD}
set_option maxHeartbeats 1000000 in
theorem abh (I:U W w (aH W M p m::L))(h:MI p M N m)(a7:db p)(aC:p.title.size≤1000000000):Calls prog 265 #[pt M.mb] w λr V=>∃ ad c,r=.returned (.tuple #[.slice ad 128 c,.int .i64 (fz p M.B.gs m.s).2])∧U W V (Sl 5 1 ad 128 c (bc (fz p M.B.gs m.s).1)::aH W M p m::L):=by
 have hw:=h.wf;have bP:=hw.wc.k0;have iE:m.s.k.ls.length≤8:=by rw[hw.wc.ls];exact hw.wc.n.2
 have gL:=hw.wc.lr;have jz:aW m.s.k.ls≤aI m.s.k:=hw.wc.m7;have fA:=h.gs;have fq:=h.front;obtain⟨t,hI⟩:=h.inv;obtain⟨i,px,g9,kU⟩:=hI.l9 (mem_cons_self ..);have sx:=(hI.base px (bJ g9) kU).1;have kV:=Tree.wt ((aH.open I).tree M.tq);clear h;obtain⟨s,A,T,J,ks,base,front⟩:=m;simp only at hw bP iE gL jz fq hI g9 kU sx kV;subst fq;refine EN func265 ntmps265 rfl rfl λa E=>?_;refine CL 5 E I (AW I) λa w E I=>?_;replace I:=aO.open ((aH.open I).pick (aO W M.B p s));dsimp only at I;refine CL 0 E I (sO (I.pick (aA M.B.core s.k)) hw.wc) λa w E I=>?_;refine RN 1 E I λa E=>?_;replace I:=aO.fold I M.B p s;refine aY 2 (λw0 V=>Rd V M.mb 0 (dU p M ks.length base (aw s.k))) [8,9,10] [0,1,2,3,4,5,7,3006,1008,1009,1010,11,12,13,14,15,16,17,1018,19,20] E I λa w E I hH=>?_;have hC:=hH.at w (I.ai (b:=M.mb));refine RH 3 E I hH hC λa E=>?_;replace E:=E.aK 15;refine RH 4 E I hH hC λa E=>?_;refine QH E (λw hc=>ae E (hc 8 _ rfl)) hC λa E=>?_;replace I:=aH.fold I M p ⟨s,A,T,J,ks,base,aw s.k⟩;refine RH 0 E I hH hC λa E=>?_;refine CL 0 E I (AW I) λa w E I=>?_;replace hC:=hH.at w ((aH.open I).ai (b:=M.mb));replace I:=aO.open ((aH.open I).pick (aO W M.B p s));dsimp only at I;refine RH 0 E I hH hC λa E=>?_;refine CL 0 E I (oy (I.pick (aA M.B.core s.k))) λa w E I=>?_;replace hC:=hH.at w (I.ai (b:=M.mb));obtain⟨D,I,hD⟩:=aA.qu I;refine RH 0 E I hH hC λa E=>?_;refine CL 0 E I (rl I bP iE) λa w E I=>?_;replace hC:=hH.at w (I.ai (b:=M.mb));refine RH 1 E I hH hC λa E=>?_;rw[show decide (((aw s.k:Nat):Int)≠((aW s.k.ls:Nat):Int))=false from Ja]at E;refine RH 2 E I hH hC λa E=>?_;replace E:=E.aK 26;refine RH 4 E I hH hC λa E=>?_;refine bC E (cI E rfl (s:=26)) (ae E (hC 8 _ rfl)) rfl λa E=>?_;refine RH 2 E I hH hC λa E=>?_;replace I:=aH.fold (aO.fold (hD _ _ I) M.B p s) M p ⟨s,A,T,J,ks,base,aw s.k⟩;refine IF 0 E I (λaj a E=>?_) λaj a E=>?_
 ·
  refine CL 2 E I (sY I) λa w E I=>?_;replace I:=aH.open I;dsimp only at I;refine a6 0 E I (LZ (I.pick (aO W M.B p s)) hw a7 aC fA) λad c a w E I=>?_;refine RT 4 E I ?_;exact⟨ad,c,rfl,(aH.fold I M p ⟨s,A,T,J,ks,base,aw s.k⟩).sub⟩
 have hhf:aw s.k<aI s.k:=by omega
 refine RN 1 E I λa E=>?_;replace I:=aH.open I;dsimp only at I;refine aY 0 (λw0 V=>Rd V M.mb 0 (dU p M ks.length base (aw s.k))) [1,2] [0,3,4,5,8,3006,1001,1002,1007,1009,10] E I λa w E I hH=>?_;have hC:=hH.at w (I.ai (b:=M.mb));refine RH 5 E I hH hC λa E=>?_;refine QH E (λw hc=>ae E (hc 0 _ rfl)) hC λa E=>?_;replace I:=aH.fold I M p ⟨s,A,T,J,ks,base,aw s.k⟩;refine RH 0 E I hH hC λa E=>?_;refine CL 0 E I (AW I) λa w E I=>?_;replace hC:=hH.at w ((aH.open I).ai (b:=M.mb));replace I:=aO.open ((aH.open I).pick (aO W M.B p s));dsimp only at I;refine RH 0 E I hH hC λa E=>?_;refine CL 0 E I (oy (I.pick (aA M.B.core s.k))) λa w E I=>?_;replace hC:=hH.at w (I.ai (b:=M.mb));replace I:=aO.fold I M.B p s;refine RH 0 E I hH hC λa E=>?_;refine CL 0 E I (Ma (I.pick (aO W M.B p s))) λa w E I=>?_;replace I:=aO.open (I.pick (aO W M.B p s));obtain⟨D,I,hD⟩:=aA.qu (I.pick (aA M.B.core s.k));refine jI 0 E I (FA (r:=0) (to:=aI s.k) (.inl rfl) (by decide) I fA bP iE hw.wc.m6 gL (λV cJ=>(cJ.pick (Sl 5 1 M.B.adT M.B.gs.table.length M.B.cT (bc M.B.gs.table))).cu M.B.adT _ rfl rfl)) λfT gd X a w E ⟨⟨sW,ie⟩,I⟩=>?_;have mB:=ie rfl;subst mB;rw[wm]at I;replace I:=I.sub (M:=Qu M.B.core.qb M.B.core.aB s.k.ls::D::cd fT (aI s.k-aW s.k.ls) gd (dx M.B.gs s.k.ls (aI s.k))::aa M.B.pb 192 (gu p M.B s.g)::ay W p M.B.aq M.B.cO::Sl 5 1 M.B.adT M.B.gs.table.length M.B.cT (bc M.B.gs.table)::aa M.mb 177 (dU p M ks.length base (aw s.k))::ay W p M.aq M.cO::Sl 179 1 M.dy ks.length M.dF (gK ks)::ah (e5 p M.aq M.cO M.tq M.jq M.sq) ks::Tree M.tq M.sq T::ax M.sq M.r A::bK M.jq J::L);replace I:=aH.fold (aO.fold (hD _ _ I) M.B p s) M p ⟨s,A,T,J,ks,base,aw s.k⟩;have hO:(dx M.B.gs s.k.ls (aI s.k)).length=aI s.k-aW s.k.ls:=vW _ _ _;have mE:∀ b∈dx M.B.gs s.k.ls (aI s.k),b.length≤1099511627776:=λb hb=>by
  rw[dx,c0]at hb;obtain⟨i,_,rfl⟩:=hb;rw[m4,iR,bg];omega
 have Ng:fz p M.B.gs s=(gm (foldI p (aw s.k) s.g (dx M.B.gs s.k.ls (aI s.k))),aI s.k):=by rw[fz,ag (by omega)]
 clear ie sW;generalize dx M.B.gs s.k.ls (aI s.k)=P at I hO mE Ng;rw[← hO]at E I;rw[Ng];have Bd:=(cd.le (I.pick (cd fT P.length gd P))).2;refine RN 1 E I λa E=>?_;refine RN 1 E I λa E=>?_;replace I:=aH.open I;dsimp only at I;refine RN 5 E I λa E=>?_;replace I:=aH.fold I M p ⟨s,A,T,J,ks,base,aw s.k⟩;refine CL 0 E I (FF I g9 kU) λa w E I=>?_;refine AL 0 E I λcG a w E I=>?_;change U W w (aa cG 183 (ints .i32 32 (λ_=>0))::_) at I;refine SA 0 E I λa w E I=>?_;refine RN 1 E I λa E=>?_;refine cc (M:=λa w=>∃ (d:Nat) (g1:Nat→Int),(d≤P.length∧foldI p ((aw s.k+d:Nat):Int) g1 (P.drop d)=foldI p (aw s.k:Int) s.g P∧dQ g1)∧Fr a 92 [(0,pt M.mb),(4,.int .i64 (aI s.k)),(5,.slice fT P.length gd),(6,pt cG),(7,.int .i64 d)]∧U W w (aa cG 183 (ints .i32 32 g1)::cd fT P.length gd P::aH W M p ⟨s,A,T,J,ks,base,aw s.k⟩::L)) ?_ ?_
 ·
  refine cc (M:=λa w=>∃ (b8:Nat) (hZ:Option Addr) (cb:Nat),Fr a 92 [(0,pt M.mb),(4,.int .i64 (aI s.k)),(5,.slice fT P.length gd),(6,pt cG),(7,.int .i64 0),(8,pt b8),(9,.bool (decide (0<(T.fH (aw s.k:Int) P).done)))]∧U W w (aa b8 238 (cg (T.fH (aw s.k:Int) P) hZ cb)::aa cG 183 (ints .i32 32 s.g)::cd fT P.length gd P::aH W M p ⟨s,A,T,J,ks,base,aw s.k⟩::L)) ?_ ?_
  ·
   refine RN 0 E I λa E=>?_;rw[sx]at I;replace I:=aH.open (I.pick (aH W M p ⟨s,A,T,J,ks,base,aw s.k⟩));dsimp only at I;refine aY 0 (λw0 V=>Rd V M.mb 0 (dU p M ks.length base (aw s.k))) [7,13] [0,1,2,4,5,6,8,3003,3007,2009,10,11,12,1013,1014,15] E I λa w E I hH=>?_;have hC:=hH.at w (I.ai (b:=M.mb));refine RH 7 E I hH hC λa E=>?_;refine QH E (λw hc=>ae E (hc 4 _ rfl)) hC λa E=>?_;refine QH E (λw hc=>ae E (hc 8 _ rfl)) hC λa E=>?_;refine RH 0 E I hH hC λa E=>?_;refine DN [(9,[10,11,12,1013,1014,15]),(13,[1009,10,11,12,1014,15])] (by kernel_rfl) rfl ⟨⟨_,rfl,?_⟩,⟨_,rfl,?_⟩,trivial⟩
   ·
    refine RH 0 E I hH hC λa E=>?_;refine a6 0 E I (IW (p:=P) (I.tree M.tq) (λV h=>cd.rd (h.pick (cd fT P.length gd P))) Bd ⟨by omega,mE⟩) λhZ cb a w E I=>?_;refine RN 3 E I λa E=>?_;refine eW E rfl I Ty.t238 rfl λb8 a w E I ho=>?_;clear ho;replace hC:=hH.at w (I.ai (b:=M.mb));refine RH 0 E I hH hC λa E=>?_;refine SA 0 E I λa w E I=>?_;refine RN 1 E I λa E=>?_;exact⟨_,hZ,cb,E.ab [0,4,5,6,7,8,9],(aH.fold I M p ⟨s,A,T,J,ks,base,aw s.k⟩).sub⟩
   refine RH 0 E I hH hC λa E=>?_;refine eW E rfl I Ty.t238 rfl λb8 a w E I ho=>?_;clear ho;replace hC:=hH.at w (I.ai (b:=M.mb));refine RH 0 E I hH hC λa E=>?_;refine a6 0 E I (IW (p:=P) (I.tree M.tq) (λV h=>cd.rd (h.pick (cd fT P.length gd P))) Bd ⟨by omega,mE⟩) λhZ cb a w E I=>?_;refine SA 3 E I λa w E I=>?_;refine RN 1 E I λa E=>?_;exact⟨_,hZ,cb,E.ab [0,4,5,6,7,8,9],(aH.fold I M p ⟨s,A,T,J,ks,base,aw s.k⟩).sub⟩
  clear E;(try clear I);rintro a w ⟨b8,hZ,cb,E,I⟩;refine IF 2 E I (λao a E=>?_) λao a E=>?_
  ·
   obtain⟨pC,nX,Nh⟩:=abe (l:=T.l) (frm:=(aw s.k:Int)) (P:=P) mf (by simpa [Tr.fH] using ao) rfl;change T.fH (aw s.k:Int) P∈T.l at pC;obtain⟨j,pb,Gv,Ni⟩:=hI.Jc pC;have abi:=(hI.ga _ pC).2 pb (bJ Gv) Ni;have abj:=(hI.au pb (bJ Gv)).2;refine aY 0 (λw0 V=>Rd V b8 0 (cg (T.fH (aw s.k:Int) P) hZ cb)) [3,5,6] [0,1,4,3002,3005,1003,1006,7] E I λa w E I hH=>?_;have hC:=hH.at w (I.ai (b:=b8));refine RH 3 E I hH hC λa E=>?_;refine QH E (λw hc=>ae E (hc 4 _ rfl)) hC λa E=>?_;refine QH E (λw hc=>ae E (hc 3 _ rfl)) hC λa E=>?_;refine RH 0 E I hH hC λa E=>?_;refine CL 0 E I (FF (I.pick (aH W M p ⟨s,A,T,J,ks,base,aw s.k⟩)) Gv Ni) λa w E I=>?_;replace hC:=hH.at w (I.ai (b:=b8));refine RH 0 E I hH hC λa E=>?_;refine SA 0 E I λa w E I=>?_;replace hC:=hH.at w (I.ai (b:=b8));refine RH 1 E I hH hC λa E=>?_;change (T.fH (aw s.k:Int) P).done≤P.length at nX;change oY ((T.fH (aw s.k:Int) P).ak.take (T.fH (aw s.k:Int) P).done) P=true at Nh;have dt:=(kV.ok _ pC).2.1;generalize T.fH (aw s.k:Int) P=bb at *;have e1:bb.ak.take bb.done=P.take bb.done:=by
    have:=abf (u:=bb.ak.take bb.done) (P:=P) (by rw[ez];omega) Nh
    rwa [ez,Nat.min_eq_left dt]at this
   exact⟨bb.done,pb.g,⟨nX,by rw[abi,e1];exact abg nX,abj⟩,E.ab [0,4,5,6,7],I.sub⟩
  refine RN 0 E I λa E=>?_;exact⟨0,s.g,⟨Nat.zero_le _,rfl,hw.py a7⟩,E.ab [0,4,5,6,7],I.sub⟩
 clear E;(try clear I);rintro a w ⟨d,g1,⟨mj,Bi,abk⟩,E,I⟩;refine RN 1 E I λa E=>?_;replace I:=aH.open (I.pick (aH W M p ⟨s,A,T,J,ks,base,aw s.k⟩));dsimp only at I;obtain⟨zs,cW,eQ,I⟩:=cd.open (I.pick (cd fT P.length gd P));have iW:zs.length=P.length:=by rw[← cW,bg]
 refine aY 0 (λw0 V=>Rd V M.mb 0 (dU p M ks.length base (aw s.k))∧Rd V cG 0 (ints .i32 32 g1)) [4,8,10] [0,1,2,5,6,7,9,11,12,13,16,3003,3004,1008,1010,1014,1015,17,18] E I λa w E I hH=>?_;have hC:=hH.at w ⟨I.ai (b:=M.mb),I.ai (b:=cG)⟩;refine RH 10 E I hH hC λa E=>?_;rw[show P.length-d=(P.drop d).length from (c8 ..).symm]at E;refine RH 1 E I hH hC λa E=>?_;refine QH E (λw hc=>bR E underlying45 rfl Ty.t45 (Nf hc.1)) hC λa E=>?_;refine QH E (λw hc=>bR E underlying183 rfl Ty.t183 (hc.2)) hC λa E=>?_;refine RH 0 E I hH hC λa E=>?_;refine SS E (ae E (hC.1 8 _ rfl)) λa E=>?_;refine RH 1 E I hH hC λa E=>?_;rw[show ((aw s.k:Nat):Int)+(d:Int)=((aw s.k+d:Nat):Int) from rfl]at E;refine CL 0 E I (Ls (P:=P.drop d) (zs:=zs.drop d) (fr:=((aw s.k+d:Nat):Int)) (I.pick (ay W p M.aq M.cO)) a7 aC abk ⟨by rw[c8];omega,λb hb=>mE b (List.mem_of_mem_drop hb)⟩ ⟨by omega,by have:aw s.k≤1000:=gF jz gL;omega⟩ (by rw[map_drop,cW]) (λV h=>(U.l6 (h.sub (M:=Sl 22 1 fT P.length gd (zs.map aL)::ah ba zs::[]))).drop (by omega))) λa w E I=>?_;refine a6 0 E I (x8 I) λad2 c2 a w E I=>?_;refine RN 2 E I λa E=>?_;refine RT 0 E I ?_;rw[Bi]at I;exact⟨ad2,c2,rfl,(aH.fold I M p ⟨s,A,T,J,ks,base,aw s.k⟩).sub⟩
end
end
end Go.Proofs.YteoldcfapaiobaaGreat
