/- quintainref21.Player. -/
import Derived.Test.YteoldcfapaiobaaGreatI13RefC
import Derived.Test.YteoldcfapaiobaaGreatI12Mul
import Derived.Test.YteoldcfapaiobaaGreatI10Core
namespace Go.Proofs.YteoldcfapaiobaaGreat
open Tryz
open List (length_range take_succ_cons drop_left take_zero foldl_cons nil_append map_cons mem_range drop_eq_nil_of_le getElem_map cons_append append_nil map_take map_drop foldl_append flatMap_cons)
open Go.RowKit
set_option linter.unusedVariables false
set_option linter.unusedSimpArgs false
set_option maxRecDepth 10000
set_option synthInstance.maxSize 4000
set_option synthInstance.maxHeartbeats 400000
section
structure gh where
 pb:Nat
 core:ow
 aq:Option Addr
 cO:Nat
 adT:Option Addr
 cT:Nat
 gs:Gs
abbrev e0 (p:Pr)(B:gh)(g:Nat→Int):List Value:=[pt B.core.cb,.string p.title,.slice B.aq p.ops.length B.cO,.int .i64 B.gs.kind,.int .i64 B.gs.order,.slice B.adT B.gs.table.length B.cT]++ints .i32 32 g
theorem Ph {w:World}{b:Nat}{p:Pr}{B:gh}{g:Nat→Int}(h:Rd w b 0 (e0 p B g)):Rd w b 1 (bR p B.aq B.cO):=h.part 1 2
theorem acM {w:World}{b:Nat}{p:Pr}{B:gh}{g:Nat→Int}(h:Rd w b 0 (e0 p B g)):Rd w b 3 (dq B.gs B.adT B.cT):=h.part 3 3
theorem Di {w:World}{b:Nat}{p:Pr}{B:gh}{g:Nat→Int}(h:Rd w b 0 (e0 p B g)):Rd w b 6 (ints .i32 32 g):=by
 have h1:=h.part 6 32
 rwa [show ((e0 p B g).drop 6).take 32=ints .i32 32 g from by
  show (ints .i32 32 g).take 32=_;exact gl (by rw[dk];exact a7 _)]at h1
theorem Pj (p:Pr)(B:gh)(g:Nat→Int):(e0 p B g).length=38:=by rw[e0,aM,dk];rfl
theorem acN (p:Pr)(B:gh)(g g':Nat→Int):cH (e0 p B g) 6 (ints .i32 32 g')=e0 p B g':=by
 rw[cH,dk,drop_eq_nil_of_le (by rw[Pj];exact a7 _),append_nil,e0,e0]
 congr 1
def bZ (W:World)(B:gh)(p:Pr)(s:Pl):SP:=λh=>cp [aa B.pb 51 (e0 p B s.g),aZ B.core s.k,aA W p B.aq B.cO] h
section
variable {W w:World}{L R:List SP}{n c i cP cT:Nat}{ad adP adT:Option Addr}{B:gh}{x:UInt8}{p:Pr}{s:Pl}{bs tb:List UInt8}{k:Ks}{C:ow}{A:nf}
theorem bZ.open (I:U W w (bZ W B p s::L)):U W w (aa B.pb 51 (e0 p B s.g)::aZ B.core s.k::aA W p B.aq B.cO::L) :=
 I.open (M:=[_,_,_]) λ_ h=>h
theorem bZ.fold (I:U W w L)(B:gh)(p:Pr)(s:Pl)[kk:fM L [aa B.pb 51 (e0 p B s.g),aZ B.core s.k,aA W p B.aq B.cO] R]:U W w (bZ W B p s::R) :=
 U.shut (M:=[_,_,_]) (I.perm kk.perm) λ_ h=>h
theorem IA (I:U W w (bP C.lb C.lo C.cL k.ls::aa C.cb 72 (cZ k C A)::L))(hk:WC k):Calls prog 19 #[pt C.cb] w λr w'=>r=.returned (.int .i64 (aw k))∧U W w' (bP C.lb C.lo C.cL k.ls::aa C.cb 72 (cZ k C A)::L):=by
 have hn:=hk.n;have fc:=hk.ls;refine EN func19 ntmps19 rfl rfl λa E=>?_;refine RN 7 E I λa E=>?_;obtain⟨xs,bf,I⟩:=bP.open I;have b7:xs.length=k.ls.length:=by rw[← bf,gr]
 rw[← b7]at E;refine CL 0 E I (C4 (xs:=xs) I (by omega) (by omega) (λw' hw=>U.pA hw)) λa w E I=>?_;refine RT 1 E I ?_;exact⟨by rw[bf];rfl,bP.close I bf⟩
theorem IB (I:U W w (bZ W B p s::L))(hw:WP p s)(a6:dp p)(aF:p.title.size≤1000000000):Calls prog 66 #[pt B.pb] w λr w'=>r=.returned (.tuple #[])∧U W w' (bZ W B p (eD p s)::L):=by
 refine EN func66 ntmps66 rfl rfl λa E=>?_;refine RN 0 E I λa E=>?_;refine aL (λμ a w=>∃ (i:Nat),(μ=aw s.k-s.k.mr.length-i∧i≤aw s.k-s.k.mr.length)∧Fr a 60 [(0,pt B.pb)]∧U W w (bZ W B p (iK p i s)::L)) (aw s.k-s.k.mr.length) (⟨0,⟨rfl,by omega⟩,E.ab [0],I⟩) ?_;clear E I;rintro μ a w ⟨i,⟨rfl,hi⟩,E,I⟩;obtain⟨kz,fc,mi⟩:=hw.rk i hi;have fj:iK p (i+1) s=oq p (iK p i s):=Hl p i s;have E7:=hw.low;have w8:aw (iK p i s).k=aw s.k:=by rw[aw,fc];rfl
 generalize H4:iK p i s=si at I kz fc mi fj w8;replace I:=bZ.open I;have bq:=kz.wc.lE;have iX:si.k.ls.length≤8:=by rw[kz.wc.ls];exact kz.wc.n.2
 have yb:0<si.k.ls.length:=by rw[kz.wc.ls];have:=kz.wc.n;omega
 have abu:aw si.k≤1000:=eS kz.wc.nO kz.wc.l5;obtain⟨A,I⟩:=aZ.open (I.pick (aZ B.core si.k));refine aV 2 (λw0 w'=>Rd w' B.pb 0 (e0 p B si.g)∧Rd w' B.core.cb 0 (cZ si.k B.core A)) [11,12] [0,1,2,8,9,10,3003,4,5,3006,7,1011,1012,13] E I λa w E I hH=>?_;have hC:=hH.at w ⟨I.ai (b:=B.pb),I.ai (b:=B.core.cb)⟩;refine RH 6 E I hH hC λa E=>?_;refine QH E (λw hc=>ae E (hc.1 0 _ rfl)) hC λa E=>?_;refine RH 2 E I hH hC λa E=>?_;refine QH E (λw hc=>ae E (hc.2 16 _ rfl)) hC λa E=>?_;refine RH 1 E I hH hC λa E=>?_;refine SS E (ae E (hC.1 0 _ rfl)) λa E=>?_;refine RH 0 E I hH hC λa E=>?_;refine CL 0 E I (IA ((I.pick (aa B.core.cb 72 (cZ si.k B.core A))).pick (bP B.core.lb B.core.lo B.core.cL si.k.ls)) kz.wc) λa w E I=>?_;replace hC:=hH.at w ⟨I.ai (b:=B.pb),I.ai (b:=B.core.cb)⟩;refine RH 1 E I hH hC λa E=>?_;refine IF 0 E I (λak a E=>?_) λak a E=>?_
 ·
  have qX:si.k.mr.length<aU si.k.ls:=by
   have:aU si.k.ls=aw si.k:=rfl;omega
  have abv:si.k.mr.length<aw si.k:=qX;refine RN 11 E I λa E=>?_;obtain⟨xs,bf,I⟩:=bP.open (I.pick (bP B.core.lb B.core.lo B.core.cL si.k.ls));have b7:xs.length=si.k.ls.length:=by rw[← bf,gr]
  have dO:=nL si.k.ls si.k.mr.length;refine aV 0 (λw0 w'=>Rd w' B.pb 0 (e0 p B si.g)∧Rd w' B.core.cb 0 (cZ si.k B.core A)) [8,13,14,15,16,18] [0,1,2,3,5,6,7,9,10,11,12,17,3004,3008,1013,1014,1015,1016,1018,1019,20,21,22,23,24,1025] E I λa w E I hH=>?_;have hC:=hH.at w ⟨I.ai (b:=B.pb),I.ai (b:=B.core.cb)⟩;refine RH 12 E I hH hC λa E=>?_;refine QH E (λw hc=>bT E n2 rfl Ty.t45 (Ph hc.1)) hC λa E=>?_;refine QH E (λw hc=>bT E pS rfl Ty.t49 (Di hc.1)) hC λa E=>?_;refine RH 0 E I hH hC λa E=>?_;refine SS E (ae E (hC.1 0 _ rfl)) λa E=>?_;refine RH 2 E I hH hC λa E=>?_;refine SS E (ae E (hC.2 10 _ rfl)) λa E=>?_;rw[← b7]at E;refine RH 0 E I hH hC λa E=>?_;refine aY 0 E I (Ib (xs:=xs) (f:=si.k.mr.length) I (by omega) (by omega) (λw' hw=>U.pA hw) (by rw[bf];exact qX)) λiZ jv a w E I=>?_;replace hC:=hH.at w ⟨I.ai (b:=B.pb),I.ai (b:=B.core.cb)⟩;rw[bf]at E I;refine RH 0 E I hH hC λa E=>?_;refine bg 0 E I (Gg (b:=bK si.k.ls si.k.mr.length) (fr:=si.k.mr.length) (I.pick (aA W p B.aq B.cO)) a6 aF (kz.qn a6) (by omega) (by omega) (λw' hw=>(hw.pick (Sl 5 1 iZ (bK si.k.ls si.k.mr.length).length jv (bc (bK si.k.ls si.k.mr.length)))).cw iZ _ rfl rfl)) λnst a w E ⟨qh,I⟩=>?_;refine RN 5 E I λa E=>?_;refine rI E rfl I Ty.t49 u0 (by rw[dk,Pj];decide) λa w E I=>?_;rw[acN]at I;refine RN 0 E I λa E=>?_;replace I:=bP.close (I.sub (M:=Sl 65 1 (some ⟨B.core.lb,B.core.lo,none⟩) si.k.ls.length B.core.cL (xs.map aK)::ah ba xs::aa B.pb 51 (e0 p B (fa p si.k.mr.length (bK si.k.ls si.k.mr.length) si.g))::aA W p B.aq B.cO::aa B.core.cb 72 (cZ si.k B.core A)::aa B.core.hb 3 (ff si.k.ps)::aa B.core.ea 3 (eZ si.k.ps)::aa B.core.wb 313 (rows fh si.k.ps)::aa B.core.xb 4 (fg si.k.ps)::Sl 100 1 A.cm si.k.mr.length A.cM (c6 si.k.mr)::Sl 102 3 A.adE si.k.ev.length A.cE (rows bV si.k.ev)::L)) bf;replace I:=aZ.fold I B.core si.k A;refine aV 0 (λw0 w'=>Rd w' B.pb 0 (e0 p B (fa p si.k.mr.length (bK si.k.ls si.k.mr.length) si.g))) [7,8] [0,1,2,4,5,6,3003,1007,1008,1009] E I λa w E I hH=>?_;have hC:=hH.at w (I.ai (b:=B.pb));refine RH 6 E I hH hC λa E=>?_;refine QH E (λw hc=>ae E (hc 0 _ rfl)) hC λa E=>?_;refine RH 0 E I hH hC λa E=>?_;refine SS E (bT E pS rfl Ty.t49 (Di hC)) λa E=>?_;refine RH 0 E I hH hC λa E=>?_;refine CL 0 E I (aaq I) λa w E I=>?_;replace hC:=hH.at w (I.ai (b:=B.pb));refine RH 0 E I hH hC λa E=>?_;refine CL 0 E I (acq (I.pick (aZ B.core si.k)) kz.wc (by omega) (Gq _)) λa w E I=>?_;refine RN 0 E I λa E=>?_;exact⟨aw s.k-s.k.mr.length-(i+1),by omega,i+1,⟨rfl,by omega⟩,E.ab [0],by
   rw[fj];show U W w (bZ W B p ⟨l4 si.k (jI (gF (fa p si.k.mr.length (bK si.k.ls si.k.mr.length) si.g))),fa p si.k.mr.length (bK si.k.ls si.k.mr.length) si.g⟩::L);exact (bZ.fold I B p ⟨l4 si.k (jI (gF (fa p si.k.mr.length (bK si.k.ls si.k.mr.length) si.g))),fa p si.k.mr.length (bK si.k.ls si.k.mr.length) si.g⟩).sub⟩
 refine RT 0 E I ?_;obtain rfl:i=aw s.k-s.k.mr.length:=by
  have:aU si.k.ls=aw si.k:=rfl;omega
 refine⟨rfl,?_⟩;rw[eD,H4];exact (bZ.fold (aZ.fold I B.core si.k A) B p si).sub
theorem acO (I:U W w (bZ W B p s::L))(hw:cy p s)(a6:dp p)(aF:p.title.size≤1000000000):Calls prog 71 #[pt B.pb,.int .u8 (x.toNat:Nat)] w λr w'=>r=.returned (.int .i64 (dM p x s).1)∧U W w' (bZ W B p (dM p x s).2::L):=by
 have h1:=vI x s.k;have lV:=hw.toWP.more (hw.wc.al x) (hw.held.al x) h1.1 h1.2;replace I:=bZ.open I;refine EN func71 ntmps71 rfl rfl λa E=>?_;refine CL 8 E I (acs (x:=x) (I.pick (aZ B.core s.k)) hw.wc) λa w E I=>?_;refine RN 1 E I λa E=>?_;replace I:=bZ.fold I B p ⟨(c5 x s.k).2,s.g⟩;refine CL 2 E I (IB I lV a6 aF) λa w E I=>?_;refine RT 3 E I ?_;exact⟨rfl,I⟩
theorem acP (I:U W w (bZ W B p s::L))(hw:cy p s)(a6:dp p)(aF:p.title.size≤1000000000)(hb:bs.length≤65536)(hc:bs.length≤c)(hp:∀ w',U W w' L→aX w' ad bs.length bs) :
   Calls prog 110 #[pt B.pb,.slice ad bs.length c] w λr w'=>r=.returned (.int .i64 (dN p bs s).1)∧U W w' (bZ W B p (dN p bs s).2::L):=by
 have h1:=sK bs s.k;have lV:=hw.toWP.more (hw.wc.recv bs).1 ((hw.wc.recv bs).2 hw.held) h1.1 h1.2;replace I:=bZ.open I;refine EN func110 ntmps110 rfl rfl λa E=>?_;refine CL 8 E I (acK (bs:=bs) (ad:=ad) (c:=c) (I.pick (aZ B.core s.k)) hw.wc hw.held hb hc (λw' dj=>hp w' dj.tail.tail)) λa w E I=>?_;refine RN 1 E I λa E=>?_;replace I:=bZ.fold I B p ⟨(dD bs s.k).2,s.g⟩;refine CL 2 E I (IB I lV a6 aF) λa w E I=>?_;refine RT 3 E I ?_;exact⟨rfl,I⟩
theorem Pm (I:U W w (bZ W B p s::L))(hw:cy p s):Calls prog 77 #[pt B.pb] w λr w'=>∃ ad c,r=.returned (.tuple #[.slice ad 128 c,.int .i64 (l7 s).2])∧U W w' (Sl 5 1 ad 128 c (bc (l7 s).1)::bZ W B p s::L):=by
 replace I:=bZ.open I;refine EN func77 ntmps77 rfl rfl λa E=>?_;refine aV 4 (λw0 w'=>Rd w' B.pb 0 (e0 p B s.g)) [4,8] [0,1,2,5,6,7,3003,3008,1004,1009,10,11] E I λa w E I hH=>?_;have hC:=hH.at w (I.ai (b:=B.pb));refine RH 6 E I hH hC λa E=>?_;refine QH E (λw hc=>bT E pS rfl Ty.t49 (Di hc)) hC λa E=>?_;refine QH E (λw hc=>ae E (hc 0 _ rfl)) hC λa E=>?_;refine RH 0 E I hH hC λa E=>?_;refine aY 0 E I (vC I) λad c a w E I=>?_;replace hC:=hH.at w (I.ai (b:=B.pb));refine RH 0 E I hH hC λa E=>?_;refine CL 0 E I (Is (I.pick (aZ B.core s.k)) hw.wc) λa w E I=>?_;refine RN 2 E I λa E=>?_;refine RT 0 E I ?_;exact⟨ad,c,rfl,(bZ.fold I B p s).sub (M:=Sl 5 1 ad 128 c (bc (gF s.g))::bZ W B p s::L)⟩
theorem IC (I:U W w (bP C.lb C.lo C.cL k.ls::aa C.cb 72 (cZ k C A)::L))(hk:WC k):Calls prog 20 #[pt C.cb] w λr w'=>r=.returned (.int .i64 (aH k))∧U W w' (bP C.lb C.lo C.cL k.ls::aa C.cb 72 (cZ k C A)::L):=by
 have eF:k.me<k.ls.length:=by rw[hk.ls];exact hk.me
 refine EN func20 ntmps20 rfl rfl λa E=>?_;refine bM 3 [8] [0,1,2,4,5,6,7,3003,1008,9,10,1011,12,13] E I λa w E I hH hC=>?_;obtain⟨xs,bf,I⟩:=bP.open I;have b7:xs.length=k.ls.length:=by rw[← bf,gr]
 obtain⟨nn,ol,y,Ah,hy,pz,qv⟩:=(U.pA I).at (i:=k.me) (by omega);cases Ah;have ju:aH k=y.2.2.length:=by
  show (k.ls.getD k.me []).length=_;rw[← bf,uD hy]
 replace hH:=Hd.gw I;refine RH 11 E I hH hC λa E=>?_;refine SS E (ae E (pz)) λa E=>?_;rw[aK]at E;refine RH 2 E I hH hC λa E=>?_;refine RT 0 E I ?_;exact⟨by rw[ju],bP.close I bf⟩
theorem acQ (I:U W w (bZ W B p s::L))(hw:cy p s)(a6:dp p)(aF:p.title.size≤1000000000)(fH:c0 B.gs)(hT:aX W B.adT B.gs.table.length B.gs.table):Calls prog 78 #[pt B.pb] w λr w'=>∃ ad c,r=.returned (.tuple #[.slice ad 128 c,.int .i64 (fG p B.gs s).2])∧U W w' (Sl 5 1 ad 128 c (bc (fG p B.gs s).1)::bZ W B p s::L):=by
 have iX:s.k.ls.length≤8:=by rw[hw.wc.ls];exact hw.wc.n.2
 have yb:0<s.k.ls.length:=by rw[hw.wc.ls];have:=hw.wc.n;omega
 have g4:=hw.wc.l5;have fe:aw s.k≤aH s.k:=hw.wc.nO;replace I:=bZ.open I;refine EN func78 ntmps78 rfl rfl λa E=>?_;refine aV 5 (λw0 w'=>Rd w' B.pb 0 (e0 p B s.g)) [4,8] [0,1,2,5,6,7,3003,3008,1004,1009,10] E I λa w E I hH=>?_;have hC:=hH.at w (I.ai (b:=B.pb));refine RH 6 E I hH hC λa E=>?_;refine QH E (λw hc=>ae E (hc 0 _ rfl)) hC λa E=>?_;refine QH E (λw hc=>ae E (hc 0 _ rfl)) hC λa E=>?_;refine RH 0 E I hH hC λa E=>?_;refine CL 0 E I (sS (I.pick (aZ B.core s.k)) hw.wc) λa w E I=>?_;replace hC:=hH.at w (I.ai (b:=B.pb));refine RH 0 E I hH hC λa E=>?_;refine CL 0 E I (Is I hw.wc) λa w E I=>?_;refine RN 1 E I λa E=>?_;refine IF 0 E I (λak a E=>?_) λak a E=>?_
 ·
  replace I:=bZ.fold I B p s;refine aY 2 E I (Pm I hw) λad c a w E I=>?_;refine RT 4 E I ?_;refine⟨ad,c,?_,?_⟩
  ·rw[fG,aj (by omega)]
  ·rw[fG,aj (by omega)];exact I
 refine RN 1 E I λa E=>?_;obtain⟨A,I⟩:=aZ.open (I.pick (aZ B.core s.k));refine aV 0 (λw0 w'=>Rd w' B.pb 0 (e0 p B s.g)∧Rd w' B.core.cb 0 (cZ s.k B.core A)) [7,11,12,16,17,18,19,23,27,28,29,31] [0,1,2,4,5,6,8,9,10,13,14,15,20,21,22,24,25,26,3003,3007,3011,3016,3017,3018,3019,3023,3027,2012,2028,2029,2030,1031,1032] E I λa w E I hH=>?_;have hC:=hH.at w ⟨I.ai (b:=B.pb),I.ai (b:=B.core.cb)⟩;refine RH 18 E I hH hC λa E=>?_;refine QH E (λw hc=>bT E n2 rfl Ty.t45 (Ph hc.1)) hC λa E=>?_;refine QH E (λw hc=>bT E pS rfl Ty.t49 (Di hc.1)) hC λa E=>?_;refine QH E (λw hc=>ae E (hc.1 0 _ rfl)) hC λa E=>?_;refine QH E (λw hc=>ae E (hc.1 0 _ rfl)) hC λa E=>?_;refine RH 2 E I hH hC λa E=>?_;refine QH E (λw hc=>ae E (hc.2 10 _ rfl)) hC λa E=>?_;refine QH E (λw hc=>bT E EP rfl Ty.t47 (acM hc.1)) hC λa E=>?_;refine QH E (λw hc=>ae E (hc.1 0 _ rfl)) hC λa E=>?_;refine RH 0 E I hH hC λa E=>?_;refine DN [(12,[2028,2029,2030,1031,1032]),(31,[1012,1028,1029,1030,1032])] (by kernel_rfl) rfl ⟨⟨_,rfl,?_⟩,⟨_,rfl,?_⟩,trivial⟩
 ·
  refine RH 0 E I hH hC λa E=>?_;refine CL 0 E I (IA ((I.pick (aa B.core.cb 72 (cZ s.k B.core A))).pick (bP B.core.lb B.core.lo B.core.cL s.k.ls)) hw.wc) λa w E I=>?_;replace hC:=hH.at w ⟨I.ai (b:=B.pb),I.ai (b:=B.core.cb)⟩;refine RH 0 E I hH hC λa E=>?_;refine DN [(28,[2029,2030,1031,1032]),(31,[1028,1029,1030,1032])] (by kernel_rfl) rfl ⟨⟨_,rfl,?_⟩,⟨_,rfl,?_⟩,trivial⟩
  ·
   refine RH 0 E I hH hC λa E=>?_;refine CL 0 E I (IC ((I.pick (aa B.core.cb 72 (cZ s.k B.core A))).pick (bP B.core.lb B.core.lo B.core.cL s.k.ls)) hw.wc) λa w E I=>?_;replace hC:=hH.at w ⟨I.ai (b:=B.pb),I.ai (b:=B.core.cb)⟩;refine RH 0 E I hH hC λa E=>?_;refine DN [(29,[2030,1031,1032]),(31,[1029,1030,1032])] (by kernel_rfl) rfl ⟨⟨_,rfl,?_⟩,⟨_,rfl,?_⟩,trivial⟩
   ·
    obtain⟨xs,bf,I⟩:=bP.open (I.pick (bP B.core.lb B.core.lo B.core.cL s.k.ls));have b7:xs.length=s.k.ls.length:=by rw[← bf,gr]
    rw[← b7]at E;refine RH 0 E I hH hC λa E=>?_;refine j9 0 E I (C5 (xs:=xs) (b:=B.gs) (r:=0) (to:=aH s.k) (by decide) I fH (by omega) (by omega) (by rw[bf];exact hw.wc.nN) g4 (λw' dj=>U.pA dj) (λw' dj=>hT.gw dj)) λgg gq X a w E ⟨⟨uy,iF⟩,I⟩=>?_;replace hC:=hH.at w ⟨I.ai (b:=B.pb),I.ai (b:=B.core.cb)⟩;have m9:=iF rfl;subst m9;rw[xY,bf]at I;rw[bf]at E;have jo:(dx B.gs s.k.ls (aH s.k)).length=aH s.k-aU s.k.ls:=xK _ _ _;have nd:∀ b∈dx B.gs s.k.ls (aH s.k),b.length≤1099511627776:=λb hb=>by
     rw[dx,cX]at hb;obtain⟨i,_,rfl⟩:=hb;rw[nL,js,a8];omega
    obtain⟨ys,hG,iR,I⟩:=cj.open I;refine RH 0 E I hH hC λa E=>?_;refine DN [(30,[1031,1032]),(31,[1030,1032])] (by kernel_rfl) rfl ⟨⟨_,rfl,?_⟩,⟨_,rfl,?_⟩,trivial⟩
    ·
     refine RH 0 E I hH hC λa E=>?_;refine CL 0 E I (Al (P:=dx B.gs s.k.ls (aH s.k)) (zs:=ys) (fr:=aw s.k) (I.pick (aA W p B.aq B.cO)) jo a6 aF (hw.qn a6) ⟨by omega,nd⟩ hG (by omega) (λw' dj=>U.mQ (dj.sub (M:=Sl 22 1 gg (aH s.k-aU s.k.ls) gq (ys.map aK)::ah ba ys::[])))) λa w E ⟨qh,I⟩=>?_;refine RN 0 E I λa E=>?_;refine e5 E rfl I Ty.t49 rfl λb4 a w E I ho=>?_;clear ho;replace hC:=hH.at w ⟨I.ai (b:=B.pb),I.ai (b:=B.core.cb)⟩;refine RH 0 E I hH hC λa E=>?_;refine SA 0 E I λa w E I=>?_;refine RN 0 E I λa E=>?_;replace I:=bP.close (I.sub (M:=Sl 65 1 (some ⟨B.core.lb,B.core.lo,none⟩) s.k.ls.length B.core.cL (xs.map aK)::ah ba xs::aa b4 49 (ints .i32 32 (foldI p (aw s.k) s.g (dx B.gs s.k.ls (aH s.k))))::aa B.pb 51 (e0 p B s.g)::aA W p B.aq B.cO::aa B.core.cb 72 (cZ s.k B.core A)::aa B.core.hb 3 (ff s.k.ps)::aa B.core.ea 3 (eZ s.k.ps)::aa B.core.wb 313 (rows fh s.k.ps)::aa B.core.xb 4 (fg s.k.ps)::Sl 100 1 A.cm s.k.mr.length A.cM (c6 s.k.mr)::Sl 102 3 A.adE s.k.ev.length A.cE (rows bV s.k.ev)::L)) bf;replace I:=aZ.fold I B.core s.k A;refine aV 1 (λw0 w'=>Rd w' b4 0 (ints .i32 32 (foldI p (aw s.k) s.g (dx B.gs s.k.ls (aH s.k))))∧Rd w' B.pb 0 (e0 p B s.g)) [1,5] [2,3,4,3000,3005,1001,1006,7,8] E I λa w E I hH=>?_;have hC:=hH.at w ⟨I.ai (b:=b4),I.ai (b:=B.pb)⟩;refine RH 3 E I hH hC λa E=>?_;refine QH E (λw hc=>bT E pS rfl Ty.t49 (hc.1)) hC λa E=>?_;refine QH E (λw hc=>ae E (hc.2 0 _ rfl)) hC λa E=>?_;refine RH 0 E I hH hC λa E=>?_;refine aY 0 E I (vC I) λad2 c2 a w E I=>?_;replace hC:=hH.at w ⟨I.ai (b:=b4),I.ai (b:=B.pb)⟩;refine RH 0 E I hH hC λa E=>?_;refine CL 0 E I (sS (I.pick (aZ B.core s.k)) hw.wc) λa w E I=>?_;refine RN 2 E I λa E=>?_;refine RT 0 E I ?_;refine⟨ad2,c2,?_,?_⟩
     ·rw[fG,ag (by omega)]
     ·rw[fG,ag (by omega)];exact (bZ.fold I B p s).sub (M:=Sl 5 1 ad2 128 c2 (bc (gF (foldI p (aw s.k) s.g (dx B.gs s.k.ls (aH s.k)))))::bZ W B p s::L)
    refine RH 0 E I hH hC λa E=>?_;refine e5 E rfl I Ty.t49 rfl λb4 a w E I ho=>?_;clear ho;replace hC:=hH.at w ⟨I.ai (b:=B.pb),I.ai (b:=B.core.cb)⟩;refine RH 0 E I hH hC λa E=>?_;refine CL 0 E I (Al (P:=dx B.gs s.k.ls (aH s.k)) (zs:=ys) (fr:=aw s.k) (I.pick (aA W p B.aq B.cO)) jo a6 aF (hw.qn a6) ⟨by omega,nd⟩ hG (by omega) (λw' dj=>U.mQ (dj.sub (M:=Sl 22 1 gg (aH s.k-aU s.k.ls) gq (ys.map aK)::ah ba ys::[])))) λa w E ⟨qh,I⟩=>?_;refine SA 0 E I λa w E I=>?_;refine RN 0 E I λa E=>?_;replace I:=bP.close (I.sub (M:=Sl 65 1 (some ⟨B.core.lb,B.core.lo,none⟩) s.k.ls.length B.core.cL (xs.map aK)::ah ba xs::aa b4 49 (ints .i32 32 (foldI p (aw s.k) s.g (dx B.gs s.k.ls (aH s.k))))::aa B.pb 51 (e0 p B s.g)::aA W p B.aq B.cO::aa B.core.cb 72 (cZ s.k B.core A)::aa B.core.hb 3 (ff s.k.ps)::aa B.core.ea 3 (eZ s.k.ps)::aa B.core.wb 313 (rows fh s.k.ps)::aa B.core.xb 4 (fg s.k.ps)::Sl 100 1 A.cm s.k.mr.length A.cM (c6 s.k.mr)::Sl 102 3 A.adE s.k.ev.length A.cE (rows bV s.k.ev)::L)) bf;replace I:=aZ.fold I B.core s.k A;refine aV 1 (λw0 w'=>Rd w' b4 0 (ints .i32 32 (foldI p (aw s.k) s.g (dx B.gs s.k.ls (aH s.k))))∧Rd w' B.pb 0 (e0 p B s.g)) [1,5] [2,3,4,3000,3005,1001,1006,7,8] E I λa w E I hH=>?_;have hC:=hH.at w ⟨I.ai (b:=b4),I.ai (b:=B.pb)⟩;refine RH 3 E I hH hC λa E=>?_;refine QH E (λw hc=>bT E pS rfl Ty.t49 (hc.1)) hC λa E=>?_;refine QH E (λw hc=>ae E (hc.2 0 _ rfl)) hC λa E=>?_;refine RH 0 E I hH hC λa E=>?_;refine aY 0 E I (vC I) λad2 c2 a w E I=>?_;replace hC:=hH.at w ⟨I.ai (b:=b4),I.ai (b:=B.pb)⟩;refine RH 0 E I hH hC λa E=>?_;refine CL 0 E I (sS (I.pick (aZ B.core s.k)) hw.wc) λa w E I=>?_;refine RN 2 E I λa E=>?_;refine RT 0 E I ?_;refine⟨ad2,c2,?_,?_⟩
    ·rw[fG,ag (by omega)]
    ·rw[fG,ag (by omega)];exact (bZ.fold I B p s).sub (M:=Sl 5 1 ad2 128 c2 (bc (gF (foldI p (aw s.k) s.g (dx B.gs s.k.ls (aH s.k)))))::bZ W B p s::L)
   refine RH 0 E I hH hC λa E=>?_;refine e5 E rfl I Ty.t49 rfl λb4 a w E I ho=>?_;clear ho;replace hC:=hH.at w ⟨I.ai (b:=B.pb),I.ai (b:=B.core.cb)⟩;obtain⟨xs,bf,I⟩:=bP.open (I.pick (bP B.core.lb B.core.lo B.core.cL s.k.ls));have b7:xs.length=s.k.ls.length:=by rw[← bf,gr]
   rw[← b7]at E;refine RH 0 E I hH hC λa E=>?_;refine j9 0 E I (C5 (xs:=xs) (b:=B.gs) (r:=0) (to:=aH s.k) (by decide) I fH (by omega) (by omega) (by rw[bf];exact hw.wc.nN) g4 (λw' dj=>U.pA dj) (λw' dj=>hT.gw dj)) λgg gq X a w E ⟨⟨uy,iF⟩,I⟩=>?_;replace hC:=hH.at w ⟨I.ai (b:=B.pb),I.ai (b:=B.core.cb)⟩;have m9:=iF rfl;subst m9;rw[xY,bf]at I;rw[bf]at E;have jo:(dx B.gs s.k.ls (aH s.k)).length=aH s.k-aU s.k.ls:=xK _ _ _;have nd:∀ b∈dx B.gs s.k.ls (aH s.k),b.length≤1099511627776:=λb hb=>by
    rw[dx,cX]at hb;obtain⟨i,_,rfl⟩:=hb;rw[nL,js,a8];omega
   obtain⟨ys,hG,iR,I⟩:=cj.open I;refine RH 0 E I hH hC λa E=>?_;refine CL 0 E I (Al (P:=dx B.gs s.k.ls (aH s.k)) (zs:=ys) (fr:=aw s.k) (I.pick (aA W p B.aq B.cO)) jo a6 aF (hw.qn a6) ⟨by omega,nd⟩ hG (by omega) (λw' dj=>U.mQ (dj.sub (M:=Sl 22 1 gg (aH s.k-aU s.k.ls) gq (ys.map aK)::ah ba ys::[])))) λa w E ⟨qh,I⟩=>?_;refine SA 0 E I λa w E I=>?_;refine RN 0 E I λa E=>?_;replace I:=bP.close (I.sub (M:=Sl 65 1 (some ⟨B.core.lb,B.core.lo,none⟩) s.k.ls.length B.core.cL (xs.map aK)::ah ba xs::aa b4 49 (ints .i32 32 (foldI p (aw s.k) s.g (dx B.gs s.k.ls (aH s.k))))::aa B.pb 51 (e0 p B s.g)::aA W p B.aq B.cO::aa B.core.cb 72 (cZ s.k B.core A)::aa B.core.hb 3 (ff s.k.ps)::aa B.core.ea 3 (eZ s.k.ps)::aa B.core.wb 313 (rows fh s.k.ps)::aa B.core.xb 4 (fg s.k.ps)::Sl 100 1 A.cm s.k.mr.length A.cM (c6 s.k.mr)::Sl 102 3 A.adE s.k.ev.length A.cE (rows bV s.k.ev)::L)) bf;replace I:=aZ.fold I B.core s.k A;refine aV 1 (λw0 w'=>Rd w' b4 0 (ints .i32 32 (foldI p (aw s.k) s.g (dx B.gs s.k.ls (aH s.k))))∧Rd w' B.pb 0 (e0 p B s.g)) [1,5] [2,3,4,3000,3005,1001,1006,7,8] E I λa w E I hH=>?_;have hC:=hH.at w ⟨I.ai (b:=b4),I.ai (b:=B.pb)⟩;refine RH 3 E I hH hC λa E=>?_;refine QH E (λw hc=>bT E pS rfl Ty.t49 (hc.1)) hC λa E=>?_;refine QH E (λw hc=>ae E (hc.2 0 _ rfl)) hC λa E=>?_;refine RH 0 E I hH hC λa E=>?_;refine aY 0 E I (vC I) λad2 c2 a w E I=>?_;replace hC:=hH.at w ⟨I.ai (b:=b4),I.ai (b:=B.pb)⟩;refine RH 0 E I hH hC λa E=>?_;refine CL 0 E I (sS (I.pick (aZ B.core s.k)) hw.wc) λa w E I=>?_;refine RN 2 E I λa E=>?_;refine RT 0 E I ?_;refine⟨ad2,c2,?_,?_⟩
   ·rw[fG,ag (by omega)]
   ·rw[fG,ag (by omega)];exact (bZ.fold I B p s).sub (M:=Sl 5 1 ad2 128 c2 (bc (gF (foldI p (aw s.k) s.g (dx B.gs s.k.ls (aH s.k)))))::bZ W B p s::L)
  refine RH 0 E I hH hC λa E=>?_;refine e5 E rfl I Ty.t49 rfl λb4 a w E I ho=>?_;clear ho;replace hC:=hH.at w ⟨I.ai (b:=B.pb),I.ai (b:=B.core.cb)⟩;refine RH 0 E I hH hC λa E=>?_;refine CL 0 E I (IC ((I.pick (aa B.core.cb 72 (cZ s.k B.core A))).pick (bP B.core.lb B.core.lo B.core.cL s.k.ls)) hw.wc) λa w E I=>?_;replace hC:=hH.at w ⟨I.ai (b:=B.pb),I.ai (b:=B.core.cb)⟩;obtain⟨xs,bf,I⟩:=bP.open (I.pick (bP B.core.lb B.core.lo B.core.cL s.k.ls));have b7:xs.length=s.k.ls.length:=by rw[← bf,gr]
  rw[← b7]at E;refine RH 0 E I hH hC λa E=>?_;refine j9 0 E I (C5 (xs:=xs) (b:=B.gs) (r:=0) (to:=aH s.k) (by decide) I fH (by omega) (by omega) (by rw[bf];exact hw.wc.nN) g4 (λw' dj=>U.pA dj) (λw' dj=>hT.gw dj)) λgg gq X a w E ⟨⟨uy,iF⟩,I⟩=>?_;replace hC:=hH.at w ⟨I.ai (b:=B.pb),I.ai (b:=B.core.cb)⟩;have m9:=iF rfl;subst m9;rw[xY,bf]at I;rw[bf]at E;have jo:(dx B.gs s.k.ls (aH s.k)).length=aH s.k-aU s.k.ls:=xK _ _ _;have nd:∀ b∈dx B.gs s.k.ls (aH s.k),b.length≤1099511627776:=λb hb=>by
   rw[dx,cX]at hb;obtain⟨i,_,rfl⟩:=hb;rw[nL,js,a8];omega
  obtain⟨ys,hG,iR,I⟩:=cj.open I;refine RH 0 E I hH hC λa E=>?_;refine CL 0 E I (Al (P:=dx B.gs s.k.ls (aH s.k)) (zs:=ys) (fr:=aw s.k) (I.pick (aA W p B.aq B.cO)) jo a6 aF (hw.qn a6) ⟨by omega,nd⟩ hG (by omega) (λw' dj=>U.mQ (dj.sub (M:=Sl 22 1 gg (aH s.k-aU s.k.ls) gq (ys.map aK)::ah ba ys::[])))) λa w E ⟨qh,I⟩=>?_;refine SA 0 E I λa w E I=>?_;refine RN 0 E I λa E=>?_;replace I:=bP.close (I.sub (M:=Sl 65 1 (some ⟨B.core.lb,B.core.lo,none⟩) s.k.ls.length B.core.cL (xs.map aK)::ah ba xs::aa b4 49 (ints .i32 32 (foldI p (aw s.k) s.g (dx B.gs s.k.ls (aH s.k))))::aa B.pb 51 (e0 p B s.g)::aA W p B.aq B.cO::aa B.core.cb 72 (cZ s.k B.core A)::aa B.core.hb 3 (ff s.k.ps)::aa B.core.ea 3 (eZ s.k.ps)::aa B.core.wb 313 (rows fh s.k.ps)::aa B.core.xb 4 (fg s.k.ps)::Sl 100 1 A.cm s.k.mr.length A.cM (c6 s.k.mr)::Sl 102 3 A.adE s.k.ev.length A.cE (rows bV s.k.ev)::L)) bf;replace I:=aZ.fold I B.core s.k A;refine aV 1 (λw0 w'=>Rd w' b4 0 (ints .i32 32 (foldI p (aw s.k) s.g (dx B.gs s.k.ls (aH s.k))))∧Rd w' B.pb 0 (e0 p B s.g)) [1,5] [2,3,4,3000,3005,1001,1006,7,8] E I λa w E I hH=>?_;have hC:=hH.at w ⟨I.ai (b:=b4),I.ai (b:=B.pb)⟩;refine RH 3 E I hH hC λa E=>?_;refine QH E (λw hc=>bT E pS rfl Ty.t49 (hc.1)) hC λa E=>?_;refine QH E (λw hc=>ae E (hc.2 0 _ rfl)) hC λa E=>?_;refine RH 0 E I hH hC λa E=>?_;refine aY 0 E I (vC I) λad2 c2 a w E I=>?_;replace hC:=hH.at w ⟨I.ai (b:=b4),I.ai (b:=B.pb)⟩;refine RH 0 E I hH hC λa E=>?_;refine CL 0 E I (sS (I.pick (aZ B.core s.k)) hw.wc) λa w E I=>?_;refine RN 2 E I λa E=>?_;refine RT 0 E I ?_;refine⟨ad2,c2,?_,?_⟩
  ·rw[fG,ag (by omega)]
  ·rw[fG,ag (by omega)];exact (bZ.fold I B p s).sub (M:=Sl 5 1 ad2 128 c2 (bc (gF (foldI p (aw s.k) s.g (dx B.gs s.k.ls (aH s.k)))))::bZ W B p s::L)
 refine RH 0 E I hH hC λa E=>?_;refine e5 E rfl I Ty.t49 rfl λb4 a w E I ho=>?_;clear ho;replace hC:=hH.at w ⟨I.ai (b:=B.pb),I.ai (b:=B.core.cb)⟩;refine RH 0 E I hH hC λa E=>?_;refine CL 0 E I (IA ((I.pick (aa B.core.cb 72 (cZ s.k B.core A))).pick (bP B.core.lb B.core.lo B.core.cL s.k.ls)) hw.wc) λa w E I=>?_;replace hC:=hH.at w ⟨I.ai (b:=B.pb),I.ai (b:=B.core.cb)⟩;refine RH 0 E I hH hC λa E=>?_;refine CL 0 E I (IC ((I.pick (aa B.core.cb 72 (cZ s.k B.core A))).pick (bP B.core.lb B.core.lo B.core.cL s.k.ls)) hw.wc) λa w E I=>?_;replace hC:=hH.at w ⟨I.ai (b:=B.pb),I.ai (b:=B.core.cb)⟩;obtain⟨xs,bf,I⟩:=bP.open (I.pick (bP B.core.lb B.core.lo B.core.cL s.k.ls));have b7:xs.length=s.k.ls.length:=by rw[← bf,gr]
 rw[← b7]at E;refine RH 0 E I hH hC λa E=>?_;refine j9 0 E I (C5 (xs:=xs) (b:=B.gs) (r:=0) (to:=aH s.k) (by decide) I fH (by omega) (by omega) (by rw[bf];exact hw.wc.nN) g4 (λw' dj=>U.pA dj) (λw' dj=>hT.gw dj)) λgg gq X a w E ⟨⟨uy,iF⟩,I⟩=>?_;replace hC:=hH.at w ⟨I.ai (b:=B.pb),I.ai (b:=B.core.cb)⟩;have m9:=iF rfl;subst m9;rw[xY,bf]at I;rw[bf]at E;have jo:(dx B.gs s.k.ls (aH s.k)).length=aH s.k-aU s.k.ls:=xK _ _ _;have nd:∀ b∈dx B.gs s.k.ls (aH s.k),b.length≤1099511627776:=λb hb=>by
  rw[dx,cX]at hb;obtain⟨i,_,rfl⟩:=hb;rw[nL,js,a8];omega
 obtain⟨ys,hG,iR,I⟩:=cj.open I;refine RH 0 E I hH hC λa E=>?_;refine CL 0 E I (Al (P:=dx B.gs s.k.ls (aH s.k)) (zs:=ys) (fr:=aw s.k) (I.pick (aA W p B.aq B.cO)) jo a6 aF (hw.qn a6) ⟨by omega,nd⟩ hG (by omega) (λw' dj=>U.mQ (dj.sub (M:=Sl 22 1 gg (aH s.k-aU s.k.ls) gq (ys.map aK)::ah ba ys::[])))) λa w E ⟨qh,I⟩=>?_;refine SA 0 E I λa w E I=>?_;refine RN 0 E I λa E=>?_;replace I:=bP.close (I.sub (M:=Sl 65 1 (some ⟨B.core.lb,B.core.lo,none⟩) s.k.ls.length B.core.cL (xs.map aK)::ah ba xs::aa b4 49 (ints .i32 32 (foldI p (aw s.k) s.g (dx B.gs s.k.ls (aH s.k))))::aa B.pb 51 (e0 p B s.g)::aA W p B.aq B.cO::aa B.core.cb 72 (cZ s.k B.core A)::aa B.core.hb 3 (ff s.k.ps)::aa B.core.ea 3 (eZ s.k.ps)::aa B.core.wb 313 (rows fh s.k.ps)::aa B.core.xb 4 (fg s.k.ps)::Sl 100 1 A.cm s.k.mr.length A.cM (c6 s.k.mr)::Sl 102 3 A.adE s.k.ev.length A.cE (rows bV s.k.ev)::L)) bf;replace I:=aZ.fold I B.core s.k A;refine aV 1 (λw0 w'=>Rd w' b4 0 (ints .i32 32 (foldI p (aw s.k) s.g (dx B.gs s.k.ls (aH s.k))))∧Rd w' B.pb 0 (e0 p B s.g)) [1,5] [2,3,4,3000,3005,1001,1006,7,8] E I λa w E I hH=>?_;have hC:=hH.at w ⟨I.ai (b:=b4),I.ai (b:=B.pb)⟩;refine RH 3 E I hH hC λa E=>?_;refine QH E (λw hc=>bT E pS rfl Ty.t49 (hc.1)) hC λa E=>?_;refine QH E (λw hc=>ae E (hc.2 0 _ rfl)) hC λa E=>?_;refine RH 0 E I hH hC λa E=>?_;refine aY 0 E I (vC I) λad2 c2 a w E I=>?_;replace hC:=hH.at w ⟨I.ai (b:=b4),I.ai (b:=B.pb)⟩;refine RH 0 E I hH hC λa E=>?_;refine CL 0 E I (sS (I.pick (aZ B.core s.k)) hw.wc) λa w E I=>?_;refine RN 2 E I λa E=>?_;refine RT 0 E I ?_;refine⟨ad2,c2,?_,?_⟩
 ·rw[fG,ag (by omega)]
 ·rw[fG,ag (by omega)];exact (bZ.fold I B p s).sub (M:=Sl 5 1 ad2 128 c2 (bc (gF (foldI p (aw s.k) s.g (dx B.gs s.k.ls (aH s.k)))))::bZ W B p s::L)
theorem acR {n me aJ bt:Nat}{id bh order cx workers room:Int}(I:U W w (aA W p adP cP::L))(hm:eY ⟨n,me,id,aJ,bt,bh,order,cx,workers,room⟩)(a6:dp p)(aF:p.title.size≤1000000000) :
   Calls prog 46 #[.agg (bS ⟨n,me,id,aJ,bt,bh,order,cx,workers,room⟩).toArray,.agg (bR p adP cP).toArray,.slice adT tb.length cT] w λr w'=>∃ B:gh,r=.returned (pt B.pb)∧(B.gs=⟨bh,order,tb⟩∧B.adT=adT)∧U W w' (bZ W B p (eE p ⟨n,me,id,aJ,bt,bh,order,cx,workers,room⟩)::L):=by
 refine EN func46 ntmps46 rfl rfl λa E=>?_;refine BX 1 E I λb3 a w E I=>?_;change U W w (aa b3 28 (bS ⟨n,me,id,aJ,bt,bh,order,cx,workers,room⟩)::_) at I;refine BX 0 E I λb4 a w E I=>?_;change U W w (aa b4 45 [.string p.title,.slice adP p.ops.length cP]::_) at I;refine aV 2 (λw0 w'=>Rd w' b3 0 (bS ⟨n,me,id,aJ,bt,bh,order,cx,workers,room⟩)∧Rd w' b4 0 [.string p.title,.slice adP p.ops.length cP]) [1,2,4,6,8] [3,5,7,3000,3002,3004,3006,3008,1001,9,1010,11] E I λa w E I hH=>?_;have hC:=hH.at w ⟨I.ai (b:=b3),I.ai (b:=b4)⟩;refine RH 3 E I hH hC λa E=>?_;refine QH E (λw hc=>bT E rU rfl Ty.t28 (hc.1)) hC λa E=>?_;refine QH E (λw hc=>bT E n2 rfl Ty.t45 (hc.2)) hC λa E=>?_;refine QH E (λw hc=>ae E (hc.1 5 _ rfl)) hC λa E=>?_;refine QH E (λw hc=>ae E (hc.1 6 _ rfl)) hC λa E=>?_;refine RH 1 E I hH hC λa E=>?_;refine bg 0 E I (acA I hm) λBc a w E I=>?_;replace hC:=hH.at w ⟨I.ai (b:=b3),I.ai (b:=b4)⟩;refine RH 1 E I hH hC λa E=>?_;refine yB E rfl I rfl λtW a w E I ho=>?_;clear ho;change U W w (aa tW 51 (e0 p ⟨tW,Bc,adP,cP,adT,cT,⟨bh,order,tb⟩⟩ pn)::_) at I;refine RN 1 E I λa E=>?_;replace I:=bZ.fold I ⟨tW,Bc,adP,cP,adT,cT,⟨bh,order,tb⟩⟩ p ⟨ft ⟨n,me,id,aJ,bt,bh,order,cx,workers,room⟩,pn⟩;refine CL 2 E I (IB I (xR hm) a6 aF) λa w E I=>?_;refine RT 3 E I ?_;have h9:U W w (bZ W ⟨tW,Bc,adP,cP,adT,cT,⟨bh,order,tb⟩⟩ p (eE p ⟨n,me,id,aJ,bt,bh,order,cx,workers,room⟩)::_):=I;exact⟨⟨tW,Bc,adP,cP,adT,cT,⟨bh,order,tb⟩⟩,rfl,⟨rfl,rfl⟩,h9.sub⟩
end
end
section
section
variable {W w:World}{L:List SP}{e:kv}
theorem acS (I:U W w L):Calls prog 79 #[.agg (bV e).toArray,.agg (bV e).toArray] w λr w'=>r=.returned (.bool true)∧U W w' L:=by
 refine EN func79 ntmps79 rfl rfl λa E=>?_;refine BX 1 E I λb2 a w E I=>?_;change U W w (aa b2 102 [.int .i64 e.1,.int .i64 e.2.1,.int .i64 e.2.2]::_) at I;refine BX 0 E I λb3 a w E I=>?_;change U W w (aa b3 102 [.int .i64 e.1,.int .i64 e.2.1,.int .i64 e.2.2]::_) at I;refine RN 8 E I λa E=>?_;rw[dr (by omega)]at E;refine RN 7 E I λa E=>?_;rw[dr (by omega)]at E;refine RT 7 E I ?_;exact⟨by simp,I.sub⟩
end
end
section
theorem Pn {k:Ks}(h:WC k):(bw k).1.length≤1000:=by
 have hn:=h.n;have hl:∀ k:Ks,(bH k).length≤k.n:=λk=>by
  rw[bH];exact eS (p0 _ _) (by rw[length_range];exact a7 _)
 unfold bw;split
 ·simp
 ·simp only;split
  ·simp
  ·rw[a8];have:=hl { k with now:=k.now+1 };have h2:({ k with now:=k.now+1 }:Ks).n=k.n:=rfl;omega
theorem Po {k:Ks}(h:WC k):(cA k).1.length≤1000:=by
 have hn:=h.n;unfold cA;split
 ·simp
 ·rw[a8,bH];have h2:=p0 (λi=>decide (i≠k.me)) (List.range k.n);rw[length_range]at h2;show ((List.range k.n).filter (·≠k.me)).length≤1000;omega
theorem acT (p:Pr)(x:UInt8){s:Pl}(h:cy p s):(dM p x s).2.k.now=s.k.now:=by
 have he:=vI x s.k;have h1:=(Nt (h.toWP.more (h.wc.al x) (h.held.al x) he.1 he.2)).2.2.2.2.2.1;rw[dM,h1];show (c5 x s.k).2.now=_;by_cases h0:(c5 x s.k).1=0
 ·obtain⟨_,_,_,h4⟩:=vG h0;rw[h4]
 ·rw[vH h0]
theorem acU (k:Ks)(q:Pk):(gf k q).now=k.now:=by
 unfold gf;split
 ·rfl
 ·obtain⟨ps,ev,h9,_⟩:=xM { k with ls:=k.ls.set q.aW.toNat (dw (k.ls.getD q.aW.toNat []) q.first.toNat q.al),ps:=k.ps.set q.aW.toNat (gd k.now (aH k) q (au k q.aW.toNat)) };rw[h9]
theorem acV (p:Pr)(bs:List UInt8){s:Pl}(h:cy p s):(dN p bs s).2.k.now=s.k.now:=by
 have he:=sK bs s.k;have h1:=(Nt (h.toWP.more (h.wc.recv bs).1 ((h.wc.recv bs).2 h.held) he.1 he.2)).2.2.2.2.2.1;rw[dN,h1];show (dD bs s.k).2.now=_;by_cases h0:(dD bs s.k).1=0
 ·obtain⟨q,_,_,_,_,_,h6⟩:=CG h0;rw[h6,acU]
 ·rw[xO h0]
theorem acW (k:Ks):(bw k).2.now≤k.now+1:=by
 rcases xQ k with h1 | ⟨hc,h1 | ⟨i,hi,h1⟩⟩ <;> rw[h1]
 ·exact g5 _
 ·exact a7 _
 ·exact a7 _
theorem acX (k:Ks):(cA k).2.now=k.now:=by
 unfold cA;split <;> rfl
structure Dk (W:World)(t:TypeId)(ad:Addr)(vU vV vW vX vY vZ v7 v8:FuncId)(p:Pr)(gs:Gs)(J:Nat→Pl→SP):Prop where
 ID : pQ prog t "Press" vU
 cP:hZ prog vU=true
 IE : pQ prog t "Receive" vV
 IG:hZ prog vV=true
 IH : pQ prog t "Tick" vW
 cT:hZ prog vW=true
 II : pQ prog t "Quit" vX
 IJ:hZ prog vX=true
 IK : pQ prog t "Events" vY
 cE:hZ prog vY=true
 Dm : pQ prog t "Confirmed" vZ
 Dn:hZ prog vZ=true
 IL : pQ prog t "Display" v7
 IM:hZ prog v7=true
 IN : pQ prog t "Closed" v8
 IP:hZ prog v8=true
 al:∀ (w:World) (L:List SP) (i:Nat) (s:Pl) (x:UInt8),i≤1000000→cy p s→U W w (J i s::L)→Calls prog vU (List.toArray [.pointer (some ad),.int .u8 (x.toNat:Nat)]) w λr w'=>r=.returned (.int .i64 (dM p x s).1)∧U W w' (J (i+1) (dM p x s).2::L)
 recv:∀ (w:World) (L:List SP) (i:Nat) (s:Pl) (bs:List UInt8) (a:Option Addr) (c:Nat),i≤1000000→cy p s→bs.length≤65536→bs.length≤c→(∀ w',U W w' L→aX w' a bs.length bs)→U W w (J i s::L)→Calls prog vV (List.toArray [.pointer (some ad),.slice a bs.length c]) w λr w'=>r=.returned (.int .i64 (dN p bs s).1)∧U W w' (J (i+1) (dN p bs s).2::L)
 tick:∀ (w:World) (L:List SP) (i:Nat) (s:Pl),i≤1000000→cy p s→s.k.now≤1000000→U W w (J i s::L)→Calls prog vW (List.toArray [.pointer (some ad)]) w λr w'=>∃ a c,r=.returned (.slice a (bw s.k).1.length c)∧U W w' (cg 124 a (bw s.k).1.length c (bw s.k).1::J (i+1) ⟨(bw s.k).2,s.g⟩::L)
 pj:∀ (w:World) (L:List SP) (i:Nat) (s:Pl),i≤1000000→cy p s→U W w (J i s::L)→Calls prog vX (List.toArray [.pointer (some ad)]) w λr w'=>∃ a c,r=.returned (.slice a (cA s.k).1.length c)∧U W w' (cg 124 a (cA s.k).1.length c (cA s.k).1::J (i+1) ⟨(cA s.k).2,s.g⟩::L)
 events:∀ (w:World) (L:List SP) (i:Nat) (s:Pl),i≤1000000→cy p s→U W w (J i s::L)→Calls prog vY (List.toArray [.pointer (some ad)]) w λr w'=>∃ a c,r=.returned (.slice a s.k.ev.length c)∧U W w' (Sl 135 1 a s.k.ev.length c (s.k.ev.map cC)::J (i+1) ⟨{ s.k with ev:=[] },s.g⟩::L)
 Dp:∀ (w:World) (L:List SP) (i:Nat) (s:Pl),i≤1000000→cy p s→U W w (J i s::L)→Calls prog vZ (List.toArray [.pointer (some ad)]) w λr w'=>∃ a c,r=.returned (.tuple #[.slice a 128 c,.int .i64 (l7 s).2])∧U W w' (Sl 5 1 a 128 c (bc (l7 s).1)::J i s::L)
 IQ:∀ (w:World) (L:List SP) (i:Nat) (s:Pl),i≤1000000→cy p s→U W w (J i s::L)→Calls prog v7 (List.toArray [.pointer (some ad)]) w λr w'=>∃ a c,r=.returned (.tuple #[.slice a 128 c,.int .i64 (fG p gs s).2])∧U W w' (Sl 5 1 a 128 c (bc (fG p gs s).1)::J i s::L)
 closed:∀ (w:World) (L:List SP) (i:Nat) (s:Pl),i≤1000000→cy p s→U W w (J i s::L)→Calls prog v8 (List.toArray [.pointer (some ad)]) w λr w'=>r=.returned (.bool s.k.cl)∧U W w' (J i s::L)
section
variable {W w:World}{L:List SP}{i:Nat}{t:TypeId}{ad:Addr}{vU vV vW vX vY vZ v7 v8:FuncId}{p:Pr}{gs:Gs}{J:Nat→Pl→SP}{B:gh}{s:Pl}{b:Bool}
theorem acY (M:Dk W t ad vU vV vW vX vY vZ v7 v8 p gs J)(hi:i≤1000000)(I:U W w (J i s::bZ W B p s::L))(hw:cy p s)(a6:dp p)(aF:p.title.size≤1000000000)(fH:c0 B.gs)(hbg:B.gs=gs)(hT:aX W B.adT B.gs.table.length B.gs.table) :
   Calls prog 53 #[.iface t (.pointer (some ad)),pt B.pb] w λe w'=>e=.returned (.bool true)∧U W w' (J i s::bZ W B p s::L):=by
 subst hbg;refine EN func53 ntmps53 rfl rfl λa E=>?_;refine RN 4 E I λa E=>?_;refine jU E rfl M.Dm M.Dn rfl (M.Dp _ _ i s hi hw I) (by rfl) ?_;clear E I;rintro e w ⟨cV,eW,rfl,I⟩;refine⟨_,rfl,λa E=>?_⟩;refine aY 7 E I (Pm (I.pick (bZ W B p s)) hw) λcc c2 a w E I=>?_;refine RN 7 E I λa E=>?_;refine jU E rfl M.IL M.IM rfl (M.IQ _ _ i s hi hw (I.pick (J i s))) (by rfl) ?_;clear E I;rintro e w ⟨a3,c3,rfl,I⟩;refine⟨_,rfl,λa E=>?_⟩;refine aY 7 E I (acQ (I.pick (bZ W B p s)) hw a6 aF fH hT) λa4 en a w E I=>?_;refine RN 5 E I λa E=>?_;have cr:(l7 s).1.length=128:=vw _;have mZ:(fG p B.gs s).1.length=128:=by
  rw[fG];split
  ·exact vw _
  ·exact vw _
 replace I:=I.sub (M:=Sl 5 1 a4 128 en (bc (fG p B.gs s).1)::Sl 5 1 a3 128 c3 (bc (fG p B.gs s).1)::Sl 5 1 cc 128 c2 (bc (l7 s).1)::Sl 5 1 cV 128 eW (bc (l7 s).1)::bZ W B p s::J i s::L);obtain⟨A,I⟩:∃ A,U W w (Sl 5 1 a4 128 en (bc (fG p B.gs s).1)::Sl 5 1 a3 128 c3 (bc (fG p B.gs s).1)::Sl 5 1 cc 128 c2 (bc (l7 s).1)::Sl 5 1 cV 128 eW (bc (l7 s).1)::aa B.core.cb 72 (cZ s.k B.core A)::bP B.core.lb B.core.lo B.core.cL s.k.ls::aa B.core.hb 3 (ff s.k.ps)::aa B.core.ea 3 (eZ s.k.ps)::aa B.core.wb 313 (rows fh s.k.ps)::aa B.core.xb 4 (fg s.k.ps)::Sl 100 1 A.cm s.k.mr.length A.cM (c6 s.k.mr)::Sl 102 3 A.adE s.k.ev.length A.cE (rows bV s.k.ev)::aa B.pb 51 (e0 p B s.g)::aA W p B.aq B.cO::J i s::L):=by
  obtain⟨A,h⟩:=aZ.open ((bZ.open (I.pick (bZ W B p s))).pick (aZ B.core s.k));exact⟨A,h.sub⟩
 refine aV 1 (λw0 w'=>((aX w' cV 128 (l7 s).1∧aX w' cc 128 (l7 s).1)∧aX w' a3 128 (fG p B.gs s).1∧aX w' a4 128 (fG p B.gs s).1)∧Rd w' B.pb 0 (e0 p B s.g)∧Rd w' B.core.cb 0 (cZ s.k B.core A)) [7,19,24] [0,1,2,3,4,6,3005,1007,8,9,10,11,12,13,14,15,16,18,3017,1019,20,21,22,23,25,26,27,3028,29,30,3031,1024,32,33,34] E I λa w E I hH=>?_;have hC:=hH.at w ⟨⟨⟨I.cw cV _ rfl cr,I.cw cc _ rfl cr⟩,I.cw a3 _ rfl mZ,I.cw a4 _ rfl mZ⟩,I.ai (b:=B.pb),I.ai (b:=B.core.cb)⟩;refine RH 4 E I hH hC λa E=>?_;rw[dr (by omega)]at E;refine RH 2 E I hH hC λa E=>?_;refine QH E (λw hc=>lQ E bj dF gB (hc.1.1.1)) hC λa E=>?_;refine RH 0 E I hH hC λa E=>?_;refine bA E (cv E rfl (s:=36)) (lQ E bj dF gB (hC.1.1.2)) rfl λa E=>?_;refine RH 0 E I hH hC λa E=>?_;refine QP E (λw=>td E) λa E=>?_;rw[qS,beq_self_eq_true]at E;refine RH 2 E I hH hC λa E=>?_;replace E:=E.ek 43;refine RH 5 E I hH hC λa E=>?_;rw[dr (by omega)]at E;refine RH 2 E I hH hC λa E=>?_;refine QH E (λw hc=>lQ E bj dF gB (hc.1.2.1)) hC λa E=>?_;refine RH 0 E I hH hC λa E=>?_;refine bA E (cv E rfl (s:=48)) (lQ E bj dF gB (hC.1.2.2)) rfl λa E=>?_;refine RH 0 E I hH hC λa E=>?_;refine QP E (λw=>td E) λa E=>?_;rw[qS,beq_self_eq_true]at E;refine RH 2 E I hH hC λa E=>?_;replace E:=E.ek 55;refine RH 4 E I hH hC λa E=>?_;refine QH E (λw hc=>ae E (hc.2.1 0 _ rfl)) hC λa E=>?_;refine RH 2 E I hH hC λa E=>?_;refine QH E (λw hc=>ae E (hc.2.2 18 _ rfl)) hC λa E=>?_;refine RH 0 E I hH hC λa E=>?_;refine jU E (cv E rfl (s:=55)) M.IN M.IP rfl (M.closed _ _ i s hi hw (I.pick (J i s))) (by rfl) ?_;clear E I;rintro e w ⟨rfl,I⟩;refine⟨_,rfl,λa E=>?_⟩;replace hC:=hH.at w ⟨⟨⟨I.cw cV _ rfl cr,I.cw cc _ rfl cr⟩,I.cw a3 _ rfl mZ,I.cw a4 _ rfl mZ⟩,I.ai (b:=B.pb),I.ai (b:=B.core.cb)⟩;refine RH 3 E I hH hC λa E=>?_;refine RT 0 E I ?_;refine⟨by simp,?_⟩;exact (bZ.fold (aZ.fold I B.core s.k A) B p s).sub (M:=J i s::bZ W B p s::L)
set_option maxHeartbeats 4000000 in
end
end
section
structure Wd where
 ps:List Pl
 net:List Ml
 ev:List (List kv)
structure fU where
 fn:Int
 a:Int
 b:Int
 n:Int
def Dq:Pl:=⟨ft ⟨0,0,0,0,0,0,0,0,0,0⟩,pn⟩
def an (v:Wd)(i:Nat):Pl:=v.ps.getD i Dq
def gi (b:Int):UInt8:=UInt8.ofNat (b%256).toNat
theorem acZ (b:Int):((gi b).toNat:Int)=b%256:=by
 have h1:=Int.emod_nonneg b (show (256:Int)≠0 by decide);have h2:=Int.emod_lt_of_pos b (show (0:Int)<256 by decide);rw[gi,UInt8.toNat_ofNat',k9 (by omega)];omega
def pB (net:List Ml)(m:Ml):List Ml:=if net.length<300 then net++[m] else net
def eG (net l:List Ml):List Ml:=l.foldl pB net
theorem Pp (net:List Ml){l:List Ml}{i:Nat}(h:i<l.length):eG net (l.take (i+1))=pB (eG net (l.take i)) l[i]:=by
 rw[eG,← List.take_append_getElem h,foldl_append];rfl
theorem IS:∀ {l net:List Ml} {m:Ml},m∈eG net l→m∈net∨m∈l
 | [],net,m,h=>.inl h
 | x::l,net,m,h=>by
  rcases IS (l:=l) (net:=pB net x) h with h | h
  ·rw[pB]at h;split at h
   ·rcases e7.1 h with h | h
    ·exact .inl h
    ·exact .inr (by rw[iP.1 h];exact iq)
   ·exact .inl h
  ·exact .inr (gx _ h)
theorem IT:∀ {l net:List Ml},net.length≤300→(eG net l).length≤300
 | [],net,h=>h
 | x::l,net,h=>IT (l:=l) (net:=pB net x) (by
  rw[pB];split
  ·rw[aM,jJ];omega
  ·exact h)
noncomputable def gT (p:Pr)(s:fU)(v:Wd):Int×Wd :=
 if s.n<0∨(v.net.length:Int)≤s.n then (3,v) else
 if s.fn=6 then (if s.a<0∨((v.net.getD s.n.toNat (0,0,[])).2.2.length:Int)≤s.a then (3,v) else
  (0,{ v with net:=v.net.set s.n.toNat ((v.net.getD s.n.toNat (0,0,[])).1,(v.net.getD s.n.toNat (0,0,[])).2.1,(v.net.getD s.n.toNat (0,0,[])).2.2.set s.a.toNat ((v.net.getD s.n.toNat (0,0,[])).2.2.getD s.a.toNat 0 ^^^ gi s.b)) }))
 else if s.fn=4 then (0,{ v with net:=v.net.eraseIdx s.n.toNat })
 else ((dN p (v.net.getD s.n.toNat (0,0,[])).2.2 (an v (v.net.getD s.n.toNat (0,0,[])).2.1)).1,
  { v with ps:=v.ps.set (v.net.getD s.n.toNat (0,0,[])).2.1 (dN p (v.net.getD s.n.toNat (0,0,[])).2.2 (an v (v.net.getD s.n.toNat (0,0,[])).2.1)).2,net:=if s.fn=5 then v.net else v.net.eraseIdx s.n.toNat })
def gK (p:Pr)(s:fU)(v:Wd):Int×Wd :=
 if s.a<0∨(v.ps.length:Int)≤s.a then (7,v) else
 if s.fn=1 then ((dM p (gi s.b) (an v s.a.toNat)).1,{ v with ps:=v.ps.set s.a.toNat (dM p (gi s.b) (an v s.a.toNat)).2 })
 else if s.fn=2 then (0,{ v with ps:=v.ps.set s.a.toNat ⟨(bw (an v s.a.toNat).k).2,(an v s.a.toNat).g⟩,net:=eG v.net (bw (an v s.a.toNat).k).1 })
 else if s.fn=8 then (0,{ v with ps:=v.ps.set s.a.toNat ⟨(cA (an v s.a.toNat).k).2,(an v s.a.toNat).g⟩,net:=eG v.net (cA (an v s.a.toNat).k).1 })
 else (0,v)
noncomputable def bx (p:Pr)(s:fU)(v:Wd):Int×Wd:=if s.fn<1∨8<s.fn then (1,v) else if 3≤s.fn∧s.fn≤6 then gT p s v else gK p s v
def Dr (i:Nat)(v:Wd):Wd:={ v with ps:=v.ps.set i ⟨{ (an v i).k with ev:=[] },(an v i).g⟩,ev:=v.ev.set i (v.ev.getD i []++(an v i).k.ev) }
def cB (v:Wd):Nat→Wd
 | 0=>v
 | i+1=>Dr i (cB v i)
def mf (v:Wd):Wd:=cB v v.ps.length
noncomputable def b0 (p:Pr)(s:fU)(v:Wd):Wd:=if s.fn=7 then v else mf (bx p s v).2
structure bN (p:Pr)(cf:Cf)(c:Nat)(v:Wd):Prop where
 may:eY cf
 n:v.ps.length=cf.n.toNat
 ev:v.ev.length=v.ps.length
 pl:∀ i,i<v.ps.length→cy p (an v i)∧fq (an v i).k={ cf with me:=i }∧(an v i).k.now≤c
 net:v.net.length≤300∧∀ m∈v.net,m.2.1<v.ps.length∧m.2.2.length≤1000
 kY:∀ e∈v.ev,e.length≤9*c∧∀ x∈e,uk x
section
variable {p:Pr}{cf:Cf}{c i j:Nat}{v:Wd}{s:fU}{q:Pl}
theorem rA (h:i<v.ps.length)(net:List Ml)(ev:List (List kv)):an ⟨v.ps.set i q,net,ev⟩ j=if i=j then q else an v j:=by
 rw[an,an,br,br];show ((v.ps.set i q)[j]?).getD Dq=_;rw[jB];split
 ·rfl
 ·rfl
theorem bN.len (h:bN p cf c v):2≤v.ps.length∧v.ps.length≤8:=by
 have h1:=h.n;have h2:=h.may.1.1;unfold fE at h2;omega
theorem bN.put (h:bN p cf c v)(hi:i<v.ps.length)(hw:cy p q)(hc:fq q.k=fq (an v i).k)(hn:q.k.now≤c+1){net:List Ml}(hl:net.length≤300)(hm:∀ m∈net,m.2.1<v.ps.length∧m.2.2.length≤1000) :
   bN p cf (c+1) { v with ps:=v.ps.set i q,net:=net }:=by
 refine⟨h.may,by show (v.ps.set i q).length=_;rw[bz];exact h.n,by show v.ev.length=(v.ps.set i q).length;rw[bz];exact h.ev,λj hj=>?_,⟨hl,?_⟩,λe he=>⟨by have:=(h.kY e he).1;omega,(h.kY e he).2⟩⟩
 ·have lN:j<v.ps.length:=by have:j<(v.ps.set i q).length:=hj;rwa [bz]at this
  rw[rA (v:=v) hi];split
  ·rename_i e;subst e;exact⟨hw,hc.trans (h.pl _ hi).2.1,hn⟩
  ·exact⟨(h.pl j lN).1,(h.pl j lN).2.1,by have:=(h.pl j lN).2.2;omega⟩
 ·intro m xf;show m.2.1<(v.ps.set i q).length∧_;rw[bz];exact hm m xf
theorem bN.more (h:bN p cf c v){d:Nat}(hd:c≤d):bN p cf d v :=
 ⟨h.may,h.n,h.ev,λi hi=>⟨(h.pl i hi).1,(h.pl i hi).2.1,eS (h.pl i hi).2.2 hd⟩,h.net,λe he=>⟨by have:=(h.kY e he).1;omega,(h.kY e he).2⟩⟩
theorem Pq {k:Ks}(h:WC k):∀ m∈(bw k).1,m.2.1<k.n∧m.2.2.length≤1000:=by
 intro m hm;unfold bw at hm;split at hm
 ·cases hm
 ·simp only at hm;split at hm
  ·cases hm
  ·obtain⟨i,hi,rfl⟩:=cX.1 hm;have h1:=(List.mem_filter.1 hi).1;rw[mem_range]at h1;exact⟨h1,eS (Nu _) (by decide)⟩
theorem Ps {k:Ks}(h:WC k):∀ m∈(cA k).1,m.2.1<k.n∧m.2.2.length≤1000:=by
 intro m hm;unfold cA at hm;split at hm
 ·cases hm
 ·obtain⟨i,hi,rfl⟩:=cX.1 hm;have h1:=(List.mem_filter.1 hi).1;rw[mem_range]at h1;exact⟨h1,eS (Nu _) (by decide)⟩
theorem bN.rB (h:bN p cf c v)(hi:i<v.ps.length):(an v i).k.n=v.ps.length:=by
 have h1:=(h.pl i hi).2.1;have h2:(fq (an v i).k).n=cf.n:=by rw[h1]
 have h3:((an v i).k.n:Int)=cf.n:=h2;have:=h.n;have h4:=h.may.1.1;unfold fE at h4;omega
theorem bN.Pt (h:bN p cf c v){l:List Ml}(hl:∀ m∈l,m.2.1<v.ps.length∧m.2.2.length≤1000):(eG v.net l).length≤300∧∀ m∈eG v.net l,m.2.1<v.ps.length∧m.2.2.length≤1000 :=
 ⟨IT h.net.1,λm hm=>(IS hm).elim (h.net.2 m) (hl m)⟩
theorem bN.al (h:bN p cf c v)(hi:i<v.ps.length)(b:UInt8):bN p cf (c+1) { v with ps:=v.ps.set i (dM p b (an v i)).2 } :=
 h.put hi (mc.al (h.pl i hi).1 b).wf (mc.al (h.pl i hi).1 b).cf (by have:=(h.pl i hi).2.2;rw[acT p b (h.pl i hi).1];omega) h.net.1 h.net.2
theorem bN.recv (h:bN p cf c v)(hi:i<v.ps.length)(bs:List UInt8){net:List Ml}(hl:net.length≤300)(hm:∀ m∈net,m.2.1<v.ps.length∧m.2.2.length≤1000):bN p cf (c+1) { v with ps:=v.ps.set i (dN p bs (an v i)).2,net:=net } :=
 h.put hi (mc.recv (h.pl i hi).1 bs).wf (mc.recv (h.pl i hi).1 bs).cf (by have:=(h.pl i hi).2.2;rw[acV p bs (h.pl i hi).1];omega) hl hm
theorem bN.tick (h:bN p cf c v)(hi:i<v.ps.length):bN p cf (c+1) { v with ps:=v.ps.set i ⟨(bw (an v i).k).2,(an v i).g⟩,net:=eG v.net (bw (an v i).k).1 }:=by
 have h1:=h.Pt (l:=(bw (an v i).k).1) λm hm=>by have:=Pq (h.pl i hi).1.wc m hm;rwa [h.rB hi]at this
 exact h.put hi (h.pl i hi).1.tick (Il _) (by have:=(h.pl i hi).2.2;have:=acW (an v i).k;show (bw (an v i).k).2.now≤_;omega) h1.1 h1.2
theorem bN.pj (h:bN p cf c v)(hi:i<v.ps.length):bN p cf (c+1) { v with ps:=v.ps.set i ⟨(cA (an v i).k).2,(an v i).g⟩,net:=eG v.net (cA (an v i).k).1 }:=by
 have h1:=h.Pt (l:=(cA (an v i).k).1) λm hm=>by have:=Ps (h.pl i hi).1.wc m hm;rwa [h.rB hi]at this
 exact h.put hi (h.pl i hi).1.pj (Im _) (by have:=(h.pl i hi).2.2;have:=acX (an v i).k;show (cA (an v i).k).2.now≤_;omega) h1.1 h1.2
theorem bN.one (h:bN p cf c v):bN p cf (c+1) (gK p s v).2:=by
 unfold gK;split
 ·exact h.more (g5 _)
 ·have hi:s.a.toNat<v.ps.length:=by omega
  split
  ·exact h.al hi _
  ·split
   ·exact h.tick hi
   ·split
    ·exact h.pj hi
    ·exact h.more (g5 _)
theorem bN.IU (h:bN p cf c v){j:Nat}(hj:j<v.net.length):(v.net.getD j (0,0,[])).2.1<v.ps.length∧(v.net.getD j (0,0,[])).2.2.length≤1000:=by
 rw[br,aD hj];exact h.net.2 _ (jj hj)
theorem bN.erase (h:bN p cf c v)(j:Nat):(v.net.eraseIdx j).length≤300∧∀ m∈v.net.eraseIdx j,m.2.1<v.ps.length∧m.2.2.length≤1000 :=
 ⟨eS (List.length_eraseIdx_le _ _) h.net.1,λm hm=>h.net.2 m (List.mem_of_mem_eraseIdx hm)⟩
theorem bN.IV (h:bN p cf c v){net:List Ml}(hl:net.length≤300)(hm:∀ m∈net,m.2.1<v.ps.length∧m.2.2.length≤1000):bN p cf (c+1) { v with net:=net } :=
 { h.more (g5 c) with net:=⟨hl,hm⟩ }
theorem bN.Am (h:bN p cf c v):bN p cf (c+1) (gT p s v).2:=by
 unfold gT;split
 ·exact h.more (g5 _)
 ·rename_i hr;have hj:s.n.toNat<v.net.length:=by omega
  have hx:=h.IU hj;split
  ·split
   ·exact h.more (g5 _)
   ·refine h.IV (by rw[bz];exact h.net.1) λm hm=>?_;rcases r5 hm with h1 | rfl
    ·exact h.net.2 m h1
    ·exact⟨hx.1,by show (List.set _ _ _).length≤_;rw[bz];exact hx.2⟩
  ·split
   ·exact h.IV (h.erase _).1 (h.erase _).2
   ·refine h.recv hx.1 _ ?_ ?_ <;> split
    ·exact h.net.1
    ·exact (h.erase _).1
    ·exact h.net.2
    ·exact (h.erase _).2
theorem bN.step (h:bN p cf c v):bN p cf (c+1) (bx p s v).2:=by
 unfold bx;split
 ·exact h.more (g5 _)
 ·split
  ·exact h.Am
  ·exact h.one
theorem sT (v:Wd):∀ i,(cB v i).ps.length=v.ps.length∧(cB v i).net=v.net∧(cB v i).ev.length=v.ev.length
 | 0=>⟨rfl,rfl,rfl⟩
 | i+1=>by
  obtain⟨h1,h2,h3⟩:=sT v i;exact⟨by show (List.set _ _ _).length=_;rw[bz,h1],h2,by show (List.set _ _ _).length=_;rw[bz,h3]⟩
theorem An (v:Wd):∀ {i j:Nat},i≤v.ps.length→an (cB v i) j=if j<i then ⟨{ (an v j).k with ev:=[] },(an v j).g⟩ else an v j
 | 0,j,_=>by rw[ag (Nat.not_lt_zero _)];rfl
 | i+1,j,h=>by
  have h1:=An v (i:=i) (j:=i) (by omega);rw[ag (Db _)]at h1;show an ⟨(cB v i).ps.set i _,_,_⟩ j=_;rw[rA (v:=cB v i) (by rw[(sT v i).1];omega),h1,An v (i:=i) (j:=j) (by omega)];by_cases h2:i=j
  ·subst h2;rw[aj rfl,aj (by omega)]
  ·rw[ag h2];by_cases h3:j<i
   ·rw[aj h3,aj (by omega)]
   ·rw[ag h3,ag (by omega)]
theorem IW (v:Wd)(hl:v.ev.length=v.ps.length):∀ {i j:Nat},i≤v.ps.length→(cB v i).ev.getD j []=if j<i then v.ev.getD j []++(an v j).k.ev else v.ev.getD j []
 | 0,j,_=>by rw[ag (Nat.not_lt_zero _)];rfl
 | i+1,j,h=>by
  have h1:=An v (i:=i) (j:=i) (by omega);rw[ag (Db _)]at h1;have h4:=IW v hl (i:=i) (j:=i) (by omega);rw[ag (Db _)]at h4;show ((cB v i).ev.set i ((cB v i).ev.getD i []++(an (cB v i) i).k.ev)).getD j []=_;rw[h1,h4,br,jB];by_cases h2:i=j
  ·subst h2;rw[aj rfl,aj (by rw[(sT v i).2.2,hl];omega),aj (by omega)];rfl
  ·rw[ag h2,← br,IW v hl (i:=i) (j:=j) (by omega)];by_cases h3:j<i
   ·rw[aj h3,aj (by omega)]
   ·rw[ag h3,ag (by omega)]
theorem ac0 {α:Type}{l:List α}{x d:α}(h:x∈l):∃ i,i<l.length∧l.getD i d=x:=by
 obtain⟨i,hi,rfl⟩:=zJ h;exact⟨i,hi,by rw[br,aD hi];rfl⟩
theorem Ds {α:Type}{l:List α}{d:α}{i:Nat}(h:i<l.length):l.getD i d∈l:=by
 rw[br,aD h];exact jj _
theorem bN.cB (h:bN p cf c v){i:Nat}(hi:i≤v.ps.length):bN p cf (c+1) (cB v i):=by
 obtain⟨h1,h2,h3⟩:=sT v i;refine⟨h.may,by rw[h1];exact h.n,by rw[h1,h3];exact h.ev,λj hj=>?_,by rw[h1,h2];exact h.net,λe he=>?_⟩
 ·rw[h1]at hj;obtain⟨cV,cc,a3⟩:=h.pl j hj;rw[An v hi];split
  ·exact⟨cV.told,cc,by show (an v j).k.now≤_;omega⟩
  ·exact⟨cV,cc,by omega⟩
 ·obtain⟨j,hj,rfl⟩:=ac0 (d:=[]) he;rw[h3]at hj;rw[IW v h.ev hi];have h4:=h.kY _ (Ds (d:=[]) hj);have h5:=(h.pl j (by rw[← h.ev];exact hj)).1.wc;split
  ·refine⟨by have:=h5.kY;rw[aM];omega,λx hx=>?_⟩;rcases e7.1 hx with hx | hx
   ·exact h4.2 x hx
   ·exact h5.bB x hx
  ·exact⟨by omega,h4.2⟩
theorem bN.drain (h:bN p cf c v):bN p cf (c+1) (mf v):=h.cB (a7 _)
theorem bN.go (h:bN p cf c v):bN p cf (c+2) (b0 p s v):=by
 unfold b0;split
 ·exact h.more (by omega)
 ·exact h.step.drain
end
end
section
structure c7 where
 frm:Int
 to:Int
 ad:Option Addr
 c:Nat
 bs:List UInt8
abbrev c7.cells (m:c7):List Value:=[.int .i64 m.frm,.int .i64 m.to,.slice m.ad m.bs.length m.c]
def ja (ms:List c7):List Value:=ms.flatMap c7.cells
def c7.own (m:c7):SP:=Sl 5 1 m.ad m.bs.length m.c (bc m.bs)
def fV (ms:List c7):SP:=λh=>cp (ms.map c7.own) h
theorem Dt (l m:List c7):ja (l++m)=ja l++ja m:=by simp[ja]
theorem Pu (l:List c7)(i:Nat):(ja l).drop (i*3)=ja (l.drop i):=by
 induction i generalizing l with
 | zero=>simp
 | succ i ih =>
  cases l with
  | nil=>simp[ja]
  | cons x l =>
   rw[show (i+1)*3=i*3+3 from by omega];simp only[ja,flatMap_cons,List.drop_succ_cons,c7.cells] at *;rw[← ih l];simp
theorem ac1 (l:List c7)(i:Nat):(ja l).take (i*3)=ja (l.take i):=by
 induction i generalizing l with
 | zero=>simp[ja]
 | succ i ih =>
  cases l with
  | nil=>simp[ja]
  | cons x l =>
   rw[show (i+1)*3=i*3+3 from by omega];simp only[ja,flatMap_cons,take_succ_cons,c7.cells] at *;rw[← ih l];simp
theorem ac2 (l:List c7)(i:Nat)(h:i<l.length):((ja l).drop (i*3)).take 3=l[i].cells:=by
 rw[Pu,kL h];simp only[ja,flatMap_cons,c7.cells,cons_append,nil_append,take_succ_cons,take_zero]
theorem fV.nil {W w:World}{L:List SP}(I:U W w L):U W w (fV []::L) :=
 ⟨I.below,let ⟨h,p,q⟩:=I.sat;⟨h,p,λ_=>none,h,λ_=>.inl rfl,λ_ _ e=>(by cases e),Hp.Sub.refl _,trivial,q⟩⟩
theorem fV.out {W w:World}{L:List SP}{a b:List c7}{m:c7}(I:U W w (fV (a++m::b)::L)):U W w (m.own::fV (a++b)::L):=by
 have h1:=I.open (M:=(a++m::b).map c7.own) (λ_ x=>x);have h2:((a++m::b).map c7.own++L).Perm (m.own::((a++b).map c7.own++L)):=by
  rw[← cons_append,← map_cons];exact ((nW (a:=m) (l₁:=a) (l₂:=b)).map c7.own).append_right L
 have h3:=h1.perm h2;have h4:=h3.perm (List.perm_append_comm (l₁:=[m.own]) (l₂:=(a++b).map c7.own++L));have h5:U W w ((a++b).map c7.own++(L++[m.own])):=by simpa using h4
 have h6:=U.shut (A:=fV (a++b)) h5 (λ_ x=>x);exact h6.perm (List.Perm.trans (List.perm_append_comm (l₁:=fV (a++b)::L) (l₂:=[m.own])) (lL _))
theorem fV.Pv {W w:World}{L:List SP}{a b:List c7}{m:c7}(I:U W w (m.own::fV (a++b)::L)):U W w (fV (a++m::b)::L):=by
 have h1:U W w (fV (a++b)::([m.own]++L)):=I.perm (c1 _ _ _);have h2:=h1.open (M:=(a++b).map c7.own) (λ_ x=>x);refine U.shut (M:=(a++m::b).map c7.own) (h2.perm ?_) (λ_ x=>x);have h3:((a++b).map c7.own++([m.own]++L)).Perm (m.own::((a++b).map c7.own++L)):=by
  have:=nW (a:=m.own) (l₁:=(a++b).map c7.own) (l₂:=L);simpa using this
 refine h3.trans ?_;rw[← cons_append,← map_cons];exact (((nW (a:=m) (l₁:=a) (l₂:=b)).map c7.own).symm).append_right L
theorem fV.rd {W w:World}{L R:List SP}{xs:List c7}(I:U W w L)[k:qG L (fV xs) R](i:Nat)(h:i<xs.length):aX w xs[i].ad xs[i].bs.length xs[i].bs:=by
 have h1:=I.pick (fV xs);rw[show xs=xs.take i++xs[i]::xs.drop (i+1) from by rw[← kL h,j6]]at h1;have h2:=fV.out h1;refine⟨rfl,λe=>?_,λx hx hp=>?_⟩
 ·rcases k8 xs[i].bs.length with h0 | h0
  ·exact h0
  ·obtain⟨b,off,e2,_⟩:=U.bU (L:=xs[i].own::_) (e:=5) (sz:=1) (n:=xs[i].bs.length) (c:=xs[i].c) (cs:=bc xs[i].bs) (k:=⟨lL _⟩) h2 xs[i].ad h0;rw[e]at e2;cases e2
 ·obtain⟨b,off,e2,hr⟩:=U.bU (L:=xs[i].own::_) (e:=5) (sz:=1) (n:=xs[i].bs.length) (c:=xs[i].c) (cs:=bc xs[i].bs) (k:=⟨lL _⟩) h2 xs[i].ad hp;exact⟨b,off,by rw[hx]at e2;cases e2;rfl,hr⟩
abbrev pC:=Int×Int×List UInt8
def c7.m (x:c7):pC:=(x.frm,x.to,x.bs)
def bL (q:Nat)(ms:List pC):SP:=λh=>∃ i:(Option Addr×Nat)×List c7,(i.2.map c7.m=ms∧ms.length≤300∧∀ x∈i.2,x.bs.length≤1000) ∧
 cp [aa q 110 [.slice i.1.1 i.2.length i.1.2],Sl 124 3 i.1.1 i.2.length i.1.2 (ja i.2),fV i.2] h
theorem bL.open {W w:World}{L:List SP}{q:Nat}{ms:List pC}(I:U W w (bL q ms::L)) :
   ∃ ad c xs,ms=xs.map c7.m∧(xs.length≤300∧∀ x∈xs,x.bs.length≤1000)∧U W w (aa q 110 [.slice ad xs.length c]::Sl 124 3 ad xs.length c (ja xs)::fV xs::L):=by
 obtain⟨i,⟨h1,h2,h3⟩,h⟩:=I.jS (B:=λi:(Option Addr×Nat)×List c7=>cp [aa q 110 [.slice i.1.1 i.2.length i.1.2],Sl 124 3 i.1.1 i.2.length i.1.2 (ja i.2),fV i.2]) (λ_ h=>h);exact⟨i.1.1,i.1.2,i.2,h1.symm,⟨by rw[← h1]at h2;simpa using h2,h3⟩,h.open (λ_ x=>x)⟩
theorem bL.shut {W w:World}{L R R2 R3:List SP}{q n c:Nat}{ad:Option Addr}{cs:List Value}{xs:List c7}{ms:List pC}(I:U W w L)[k:fL L q 110 [.slice ad n c] R][k2:fX R ad n c 124 3 cs R2][k3:qG R2 (fV xs) R3]
   (hn:n=xs.length) (hc:cs=ja xs) (hm:ms=xs.map c7.m) (h3:xs.length≤300) (h4:∀ x∈xs,x.bs.length≤1000):U W w (bL q ms::R3):=by
 subst hn;subst hc;subst hm;have h1:=(I.perm k.perm).perm (kE _ (k2.perm.trans (kE _ k3.perm)));exact U.shut (M:=[_,_,_]) h1 λ_ x=>⟨((ad,c),xs),⟨rfl,by simpa using h3,h4⟩,x⟩
theorem IX {w:World}{b off:Nat}{xs:List c7}(h:Rd w b off (ja xs))(k:Nat)(hk:k<xs.length) :
   Rd w b (off+k*3) xs[k].cells∧w.cell? ⟨b,off+k*3,none⟩=some (.int .i64 xs[k].frm)∧w.cell? ⟨b,off+k*3+1,none⟩=some (.int .i64 xs[k].to)∧w.cell? ⟨b,off+k*3+2,none⟩=some (.slice xs[k].ad xs[k].bs.length xs[k].c):=by
 have hr:=h.part (k*3) 3;rw[ac2 xs k hk]at hr;exact⟨hr,hr 0 _ rfl,hr 1 _ rfl,hr 2 _ rfl⟩
theorem ac3 {W w:World}{L:List SP}{c:Nat}(I:U W w L) :
   Calls prog 95 #[.slice none 0 c] w λe w'=>e=.returned (.slice none 0 0)∧U W w' L:=by
 refine EN func95 ntmps95 rfl rfl λa E=>?_;refine RN 6 E I λa E=>?_;replace E:=E.ek 4;refine RT 3 E I ?_;exact⟨rfl,I⟩
theorem ac4 {W w:World}{L:List SP}{x:Addr}{c:Nat}(I:U W w L) :
   Calls prog 95 #[.slice (some x) 0 c] w λe w'=>∃ av,e=.returned (.slice av 0 0)∧U W w' (Sl 5 1 av 0 0 []::L):=by
 refine EN func95 ntmps95 rfl rfl λa E=>?_;refine RN 6 E I λa E=>?_;replace E:=E.aQ 4;refine RN 2 E I λa E=>?_;refine uZ E rfl I bj Ty.t5 rfl λb5 a w E I ho=>?_;clear ho;refine RN 1 E I λa E=>?_;refine Er E rfl bj Ty.t5 rfl (a7 _) λa E=>?_;refine RT 1 E I ?_;exact⟨_,rfl,I⟩
theorem ac5 {W w:World}{L:List SP}{b off c:Nat}{bs:List UInt8}(I:U W w L)(hr:Rd w b off (bc bs))(h0:0<bs.length)(hl:bs.length≤140737488355328) :
   Calls prog 95 #[.slice (some ⟨b,off,none⟩) bs.length c] w λe w'=>∃ av c',e=.returned (.slice av bs.length c')∧U W w' (Sl 5 1 av bs.length c' (bc bs)::L):=by
 refine EN func95 ntmps95 rfl rfl λa E=>?_;refine RN 6 E I λa E=>?_;replace E:=E.aQ 4;refine RN 2 E I λa E=>?_;refine uZ E rfl I bj Ty.t5 rfl λb5 a w E I ho=>?_;replace hr:=ho.rd hr;clear ho;refine RN 1 E I λa E=>?_;refine cR E rfl I bj Ty.t5 rfl rfl hr (by rw[dA,fB]) (ez bs) h0 (by decide) (by omega) λtt r4 a w E I=>?_;refine RT 1 E I ?_;rw[ei] at *;exact⟨_,_,rfl,I⟩
theorem ac6 {W w:World}{L:List SP}{ad:Option Addr}{n c:Nat}{bs:List UInt8}(I:U W w L)(hr:aX w ad n bs)(hl:n≤140737488355328) :
   Calls prog 95 #[.slice ad n c] w λe w'=>∃ av c',e=.returned (.slice av n c')∧U W w' (Sl 5 1 av n c' (bc bs)::L):=by
 obtain⟨rfl,h2,h3⟩:=hr;cases ad with
 | none =>
  have h0:=h2 rfl;obtain rfl:=hs h0;exact (ac3 I).mono λe w' ⟨h,I⟩=>⟨none,0,h,I.bQ _ _ _⟩
 | some x =>
  rcases k8 bs.length with h0 | h0
  ·obtain rfl:=hs h0;exact (ac4 I).mono λe w' ⟨av,h,I⟩=>⟨av,0,h,I⟩
  ·obtain⟨b,off,rfl,hr⟩:=h3 x rfl h0;exact ac5 I hr h0 hl
theorem Pw {W w:World}{L:List SP}{ad:Option Addr}{n c:Nat}{f t:Int}{bs:List UInt8}(I:U W w L)(hr:∀ w',U W w' L→aX w' ad n bs)(hl:n≤140737488355328) :
   Calls prog 76 #[.agg #[.int .i64 f,.int .i64 t,.slice ad n c]] w λe w'=>∃ av c',e=.returned (.agg #[.int .i64 f,.int .i64 t,.slice av n c'])∧U W w' (Sl 5 1 av n c' (bc bs)::L):=by
 refine EN func76 ntmps76 rfl rfl λa E=>?_;refine BX 1 E I λb1 a w E I=>?_;refine AL 0 E I λb2 a w E I=>?_;refine aY 3 E I (ac6 I (hr _ I.sub) hl) λav c' a w E I=>?_;refine ST 1 E I (λa w E I=>?_);refine SA 2 E I λa w E I=>?_;refine RT 0 E I ?_;exact⟨_,_,rfl,I.sub⟩
theorem Px {W w:World}{L R:List SP}{q e:Nat}{s:Option Addr}{n c:Nat}(I:U W w L) [fL L q e [.slice s n c] R] :
   Calls prog 23 #[pt q] w λe w'=>e=.returned (.int .i64 n)∧U W w' L:=by
 refine EN func23 ntmps23 rfl rfl λa E=>?_;refine RN 6 E I λa E=>?_;replace E:=E.aQ 4;refine RT 8 E I ?_;exact⟨rfl,I⟩
theorem Py {W w:World}{L:List SP}{q:Nat}{ms:List pC}(I:U W w (bL q ms::L)) :
   Calls prog 23 #[pt q] w λe w'=>e=.returned (.int .i64 ms.length)∧U W w' (bL q ms::L):=by
 obtain⟨ad,c,xs,rfl,hx,I⟩:=bL.open I;refine (Px (q:=q) I).mono λe w' ⟨h,I⟩=>⟨by rw[h];simp,bL.shut (q:=q) (ad:=ad) (xs:=xs) I rfl rfl rfl hx.1 hx.2⟩
theorem Du {W w:World}{L R:List SP}{q e:Nat}{s:Option Addr}{n c:Nat}{i:Int}(I:U W w L) [fL L q e [.slice s n c] R] :
   Calls prog 75 #[pt q,.int .i64 i] w λe w'=>e=.returned (.bool (decide (0≤i)&&decide (i<n)))∧U W w' L:=by
 refine EN func75 ntmps75 rfl rfl λa E=>?_;refine BY 6 E I (λbD a E=>?_) λbD a E=>?_
 ·
  refine CL 2 E I (Px (q:=q) I) λa w E I=>?_;refine RT 3 E I ?_;exact⟨by rw[dr (p:=0≤i) (by omega),Bool.true_and],I⟩
 refine RT 6 E I ?_;exact⟨by rw[bu (p:=0≤i) (by omega),Bool.false_and],I⟩
theorem ac7 {W w:World}{L:List SP}(I:U W w L) :
   Calls prog 42 #[] w λe w'=>∃ q,e=.returned (pt q)∧U W w' (bL q []::L):=by
 refine EN func42 ntmps42 rfl rfl λa E=>?_;refine BX 4 E I λb2 a w E I=>?_;refine RT 1 E I ?_;exact⟨_,rfl,by
  have h1:=(fV.nil (I.bQ 124 3 none));exact (bL.shut (q:=b2) (xs:=[]) (ms:=[]) h1 rfl rfl rfl (by simp) (by simp)).sub⟩
theorem Pz {p q r vs:List Value}{o:Nat}(ho:o=p.length)(h:q.length=vs.length):cH (p++q++r) o vs=p++vs++r:=by
 subst ho;have e1:(p++q++r).take p.length=p:=by rw[dz,List.take_left]
 have e2:(p++q++r).drop (p.length+vs.length)=r:=by rw[← h,show p.length+q.length=(p++q).length from by simp,drop_left]
 rw[cH,e1,e2]
theorem ac8 {pre cs post:List Value}{n i:Nat}(hl:cs.length=n*3)(hi:i<n) :
   ∃ v,v.length=3∧cH (pre++cs++post) (pre.length+i*3) (cs.drop ((i+1)*3))=(pre++(cs.take (i*3)++cs.drop ((i+1)*3)))++v++post:=by
 refine⟨(cs.drop (i*3)).drop ((n-1-i)*3),by rw[c8,c8];omega,?_⟩;have vj:cs=cs.take (i*3)++((cs.drop (i*3)).take ((n-1-i)*3)++(cs.drop (i*3)).drop ((n-1-i)*3)):=by rw[j6,j6]
 have e:pre++cs++post=(pre++cs.take (i*3))++(cs.drop (i*3)).take ((n-1-i)*3)++((cs.drop (i*3)).drop ((n-1-i)*3)++post):=by
  conv=>lhs;rw[vj]
  simp only[dz]
 rw[e,Pz (by rw[aM,eA];omega) (by rw[eA,c8,c8];omega)];simp only[dz]
theorem ac9 {W w:World}{L:List SP}{ad:Option Addr}{c n i:Nat}{cs:List Value}(I:U W w (Sl 124 3 ad n c cs::L))(hi:i<n)(hn:n≤140737488355328)(fZ:∀ v∈cs,v.oneCell'=true) :
   Calls prog 103 #[.slice ad n c,.int .i64 i,.int .i64 ((i+1:Nat):Int)] w λe w'=>e=.returned (.slice ad (n-1) c)∧U W w' (Sl 124 3 ad (n-1) c (cs.take (i*3)++cs.drop ((i+1)*3))::L):=by
 have ak:=(I.sl ad);obtain⟨b,pre,post,⟨h1,h2,rfl,h4⟩,gN⟩:=I.mh (by omega);replace I:=gN;clear gN;have oI:∃ qT,fw (some ⟨b,pre.length,none⟩) (i+1) c 3=some ⟨b,qT,none⟩∧∀ w,U W w (aa b 124 (pre++cs++post)::L)→Rd w b qT (cs.drop ((i+1)*3)):=by
  by_cases PA:c=i+1
  ·refine⟨pre.length,by simp[fw,PA],λw _=>?_⟩;rw[List.drop_of_length_le (by omega)];intro j v hj;simp at hj
  ·refine⟨pre.length+(i+1)*3,pK PA,λw I=>?_⟩;intro j v hj;have hlt:=(a2.1 hj).1;rw[c8]at hlt;rw[I.cell,dz,pJ (by omega),show pre.length+(i+1)*3+j-pre.length=(i+1)*3+j from by omega,mM (by omega)];rw[qE]at hj;exact hj
 obtain⟨qT,Ak,oI⟩:=oI;refine EN func103 ntmps103 rfl rfl λa E=>?_;refine RN 8 E I λa E=>?_;refine SS E (SI E qP Ty.t124 (by omega) (by omega) (by omega)) λa E=>?_;refine RN 5 E I λa E=>?_;rw[show decide ((i:Int)=((i+1:Nat):Int))=false from bu (by omega)]at E;replace E:=E.aQ 16;refine bM 6 [] [0,1,2,3,4,5,1006,7] E I λa w E I hH hC=>?_;refine RH 6 E I hH hC λa E=>?_;rw[Ak,pK (by omega:c≠0)]at E;refine SM E rfl I qP Ty.t124 rfl (oI _ I) (by simp;omega) (λv hv=>fZ v (List.mem_of_mem_drop hv)) (by omega) (by simp;omega) λa w E I=>?_;obtain⟨v,hv,GI⟩:=ac8 (pre:=pre) (post:=post) (n:=n) (i:=i) h1 hi;rw[show pre.length+0*3+(i-0)*3=pre.length+i*3 from by omega,GI]at I;rw[show i-0+(n-(i+1))=n-1 from by omega,show pre.length+0*3=pre.length from by omega]at E;have hP:(pre++(cs.take (i*3)++cs.drop ((i+1)*3))).length=pre.length+(n-1)*3:=by
  simp only[aM,eA,c8];omega
 refine RN 1 E I λa E=>?_;refine RN 6 E I λa E=>?_;rw[pK (by omega)]at E;have hle:pre.length+(n-1)*3+(n-(n-1))*3≤(pre++(cs.take (i*3)++cs.drop ((i+1)*3))++v++post).length:=by
  rw[aM,aM,hP,hv];omega
 refine Ke E rfl I qP Ty.t124 rfl rfl hle λa w E I=>?_;refine RT 3 E I ?_;refine⟨rfl,?_⟩;generalize hz:(Builtin.zeroCells (Value.cells (.agg #[.int .i64 0,.int .i64 0,.slice none 0 0])) (n-(n-1))).toList=zs at I;have jz:zs.length=(n-(n-1))*3:=by rw[← hz];exact yC 0 (a1:=0) rfl _
 rw[Pz hP.symm (by rw[hv,jz];omega)]at I;rw[dz _ zs post]at I;exact U.jh I (by rw[aM]at hP;omega) (by omega) (by rw[aM,jz];omega)
def qy (ms:List pC)(n:Nat):Bool:=decide (ms.length<300)&&decide (n≤1000)
theorem ada {W w:World}{L:List SP}{q:Nat}{ms:List pC}{ad:Option Addr}{n c:Nat}{f t:Int}{bs:List UInt8}(I:U W w (bL q ms::L))(hr:∀ w',U W w' L→aX w' ad n bs) :
   Calls prog 100 #[pt q,.agg #[.int .i64 f,.int .i64 t,.slice ad n c]] w λe w'=>e=.returned (.bool (qy ms n))∧U W w' (bL q (if qy ms n then ms++[(f,t,bs)] else ms)::L):=by
 have oW:=(hr _ I.tail).1;subst oW;obtain⟨l3,eW,xs,rfl,hx,I⟩:=bL.open I;refine EN func100 ntmps100 rfl rfl λa E=>?_;refine BX 1 E I λb3 a w E I=>?_;refine RN 6 E I λa E=>?_;replace E:=E.aQ 7;refine BY 8 E I (λmn a E=>?_) λmn a E=>?_
 ·
  have hm:qy (xs.map c7.m) bs.length=false:=by simp only[qy,a8,Bool.and_eq_false_iff,sh];left;omega
  refine RT 8 E I ?_;exact⟨by rw[hm],by rw[hm,ag (by decide)];exact (bL.shut (q:=q) (ad:=l3) (xs:=xs) I rfl rfl rfl hx.1 hx.2).sub⟩
 refine IF 5 E I (λak a E=>?_) λak a E=>?_
 ·
  have hm:qy (xs.map c7.m) bs.length=false:=by simp only[qy,a8,Bool.and_eq_false_iff,sh];right;omega
  refine RT 2 E I ?_;exact⟨by rw[hm],by rw[hm,ag (by decide)];exact (bL.shut (q:=q) (ad:=l3) (xs:=xs) I rfl rfl rfl hx.1 hx.2).sub⟩
 have hm:qy (xs.map c7.m) bs.length=true:=by simp only[qy,a8,fK,qK];omega
 refine aV 1 (λw0 w'=>w'.cell? ⟨q,0,none⟩=some (.slice l3 xs.length eW)) [5,6,7] [0,1,2,3,3004,1005,1006,1007,1008,9,10,1011] E I λa w E I hH=>?_;have hC:=hH.at w (I.bC rfl);refine RH 4 E I hH hC λa E=>?_;refine QH E (λw hc=>ae E (hc)) hC λa E=>?_;refine RH 1 E I hH hC λa E=>?_;refine aY 0 E I (Pw I (λw' h=>hr w' h.sub) (by omega)) λav c' a w E I=>?_;replace hC:=hH.at w (I.bC rfl);refine RH 0 E I hH hC λa E=>?_;refine ct E rfl I qP Ty.t124 rfl rfl rfl rfl (by decide) (by decide) λKu a w E I ho=>?_;clear ho;replace hC:=hH.at w (I.bC rfl);refine RH 0 E I hH hC λa E=>?_;refine cR E rfl I qP Ty.t124 rfl rfl I.ai rfl (by simp[Value.oneCell']) (by decide) (by decide) (by omega) λNx Ny a w E I=>?_;refine ST 2 E I (λa w E I=>?_);refine RT 2 E I ?_;refine⟨by rw[hm],?_⟩;rw[hm,aj rfl];have h3:=(I.pick (fV xs)).pick (Sl 5 1 av bs.length c' (bc bs));have h4:=fV.Pv (a:=xs) (b:=[]) (m:=⟨f,t,av,c',bs⟩) (by rw[append_nil];exact h3);refine (bL.shut (q:=q) (xs:=xs++[⟨f,t,av,c',bs⟩]) (ms:=xs.map c7.m++[(f,t,bs)]) h4 (by simp) (by rw[Dt];rfl) (by simp[c7.m]) (by simp;omega) ?_).sub;intro x dm;rcases e7.1 dm with h | h
 ·exact hx.2 x h
 ·obtain rfl:=iP.1 h;exact Int.ofNat_le.1 ak
theorem adb {W w:World}{L:List SP}{q:Nat}{ms:List pC}{i:Int}(I:U W w (bL q ms::L))(hi:(decide (0≤i)&&decide (i<ms.length))=false) :
   Calls prog 52 #[pt q,.int .i64 i] w λe w'=>e=.returned (.tuple #[.agg #[.int .i64 0,.int .i64 0,.slice none 0 0],.bool false])∧U W w' (bL q ms::L):=by
 obtain⟨l3,eW,xs,rfl,hx,I⟩:=bL.open I;rw[a8]at hi;refine EN func52 ntmps52 rfl rfl λa E=>?_;refine AL 1 E I λb4 a w E I=>?_;refine CL 5 E I (Du (q:=q) I) λa w E I=>?_;rw[hi]at E;refine RN 1 E I λa E=>?_;replace E:=E.ek 9;refine SA 3 E I λa w E I=>?_;refine RT 1 E I ?_;exact⟨rfl,(bL.shut (q:=q) (ad:=l3) (xs:=xs) I rfl rfl rfl hx.1 hx.2).sub⟩
theorem IY {i n:Nat}(h:i<n):(decide (0≤(i:Int))&&decide ((i:Int)<(n:Int)))=true:=by
 simp;omega
theorem ade {W w:World}{L:List SP}{q:Nat}{ms:List pC}{i:Nat}(I:U W w (bL q ms::L))(hi:i<ms.length) :
   Calls prog 52 #[pt q,.int .i64 i] w λe w'=>∃ ad c,e=.returned (.tuple #[.agg #[.int .i64 ms[i].1,.int .i64 ms[i].2.1,.slice ad ms[i].2.2.length c],.bool true])∧U W w' (Sl 5 1 ad ms[i].2.2.length c (bc ms[i].2.2)::bL q ms::L):=by
 obtain⟨l3,eW,xs,rfl,hx,I⟩:=bL.open I;have dI:i<xs.length:=by simpa using hi
 simp only[getElem_map,c7.m];refine EN func52 ntmps52 rfl rfl λa E=>?_;refine AL 1 E I λb4 a w E I=>?_;refine CL 5 E I (Du (q:=q) I) λa w E I=>?_;rw[IY dI]at E;refine RN 1 E I λa E=>?_;replace E:=E.aQ 9;refine RN 2 E I λa E=>?_;obtain⟨b',dK,rfl,da⟩:=I.bU l3 (by omega);have gz:=IX da i dI;refine RN 6 E I λa E=>?_;refine SS E (bT E Be rfl Ty.t124 (gz.1)) λa E=>?_;refine aY 0 E I (Pw I (λw' h=>fV.rd h i dI) (by have:=hx.2 xs[i] (jj dI);omega)) λav c' a w E I=>?_;refine SA 0 E I λa w E I=>?_;refine RT 1 E I ?_;exact⟨_,_,rfl,(bL.shut (q:=q) (ad:=some ⟨b',dK,none⟩) (xs:=xs) I rfl rfl rfl hx.1 hx.2).sub⟩
theorem adf (xs:List c7):∀ v∈ja xs,v.oneCell'=true:=by
 intro v hv;simp only[ja,List.mem_flatMap,c7.cells]at hv;obtain⟨x,_,hx⟩:=hv;simp at hx;rcases hx with rfl | rfl | rfl <;> rfl
theorem adg {W w:World}{L:List SP}{q:Nat}{ms:List pC}{i:Nat}(I:U W w (bL q ms::L))(hi:i<ms.length) :
   Calls prog 63 #[pt q,.int .i64 i] w λe w'=>e=.returned (.bool true)∧U W w' (bL q (ms.eraseIdx i)::L):=by
 obtain⟨l3,eW,xs,rfl,hx,I⟩:=bL.open I;have dI:i<xs.length:=by simpa using hi
 refine EN func63 ntmps63 rfl rfl λa E=>?_;refine CL 6 E I (Du (q:=q) I) λa w E I=>?_;rw[IY dI]at E;refine RN 1 E I λa E=>?_;replace E:=E.aQ 8;refine CL 10 E I (ac9 (I.pick (Sl 124 3 l3 xs.length eW (ja xs))) dI (by omega) (adf xs)) λa w E I=>?_;refine ST 2 E I (λa w E I=>?_);refine RT 2 E I ?_;refine⟨rfl,?_⟩;have h1:=I.pick (fV xs);have h0:xs=xs.take i++xs[i]::xs.drop (i+1):=by rw[← kL dI,j6]
 have h2:=h1;rw[show fV xs=fV (xs.take i++xs[i]::xs.drop (i+1)) from by rw[← h0]]at h2;have h3:=(fV.out h2).tail;rw[Pu,ac1,← Dt,← th]at h3;exact (bL.shut (q:=q) (ad:=l3) (xs:=xs.eraseIdx i) (ms:=(xs.map c7.m).eraseIdx i) h3 (by rw[List.length_eraseIdx];simp[dI]) rfl (by simp only[th,cY,map_take,map_drop]) (by rw[List.length_eraseIdx];simp[dI];omega) (λx h=>hx.2 x (List.mem_of_mem_eraseIdx h))).sub
theorem PB (bs:List UInt8)(i:Nat)(x:UInt8):(bc bs).set i (.int .u8 (x.toNat:Int))=bc (bs.set i x):=by
 simp[bc,jF]
theorem Ao {p q r:List Value}{i:Nat}{v:Value}(h:i<q.length):(p++q++r).set (p.length+i) v=p++q.set i v++r:=by
 rw[dz,wH _ _ (by omega),show p.length+i-p.length=i from by omega,uW _ _ h,dz]
theorem adh {W w:World}{L:List SP}{q:Nat}{ms:List pC}{i:Nat}{aR:Int}{x:UInt8}(I:U W w (bL q ms::L))(hi:i<ms.length) :
   Calls prog 64 #[pt q,.int .i64 i,.int .i64 aR,.int .u8 (x.toNat:Int)] w λe w' =>
    e=.returned (.bool (decide (0≤aR)&&decide (aR<ms[i].2.2.length)))∧U W w' (bL q (if decide (0≤aR)&&decide (aR<ms[i].2.2.length) then ms.set i (ms[i].1,ms[i].2.1,ms[i].2.2.set aR.toNat (ms[i].2.2.getD aR.toNat 0 ^^^ x)) else ms)::L):=by
 obtain⟨l3,eW,xs,rfl,hx,I⟩:=bL.open I;have dI:i<xs.length:=by simpa using hi
 simp only[getElem_map,c7.m];obtain⟨b',dK,rfl,da⟩:=I.bU l3 (by omega);clear da;refine EN func64 ntmps64 rfl rfl λa E=>?_;refine CL 6 E I (Du (q:=q) I) λa w E I=>?_;rw[IY dI]at E;refine RN 2 E I λa E=>?_;replace E:=E.aQ 13;refine BY 4 E I (λfm a E=>?_) λfm a E=>?_
 ·
  have hm:(decide (0≤aR)&&decide (aR<xs[i].bs.length))=false:=by rw[bu (by omega),Bool.false_and]
  refine RN 4 E I λa E=>?_;have gz:=IX (I.cQ b' dK (by omega)) i dI;refine RT 11 E I ?_;exact⟨by rw[hm],by rw[hm,ag (by decide)];exact (bL.shut (q:=q) (ad:=some ⟨b',dK,none⟩) (xs:=xs) I rfl rfl rfl hx.1 hx.2).sub⟩
 refine RN 4 E I λa E=>?_;have gz:=IX (I.cQ b' dK (by omega)) i dI;refine RN 4 E I λa E=>?_;refine bA E (cv E rfl (s:=17)) (ae E (gz.2.2.2)) rfl λa E=>?_;refine IF 3 E I (λak a E=>?_) λak a E=>?_
 ·
  have hm:(decide (0≤aR)&&decide (aR<xs[i].bs.length))=false:=by rw[bu (p:=aR<xs[i].bs.length) (by omega),Bool.and_false]
  refine RT 2 E I ?_;exact⟨by rw[hm],by rw[hm,ag (by decide)];exact (bL.shut (q:=q) (ad:=some ⟨b',dK,none⟩) (xs:=xs) I rfl rfl rfl hx.1 hx.2).sub⟩
 have hm:(decide (0≤aR)&&decide (aR<xs[i].bs.length))=true:=by simp;omega
 obtain⟨A,rfl⟩:∃ A:Nat,aR=A:=⟨aR.toNat,by omega⟩;have hA:A<xs[i].bs.length:=by omega
 rw[hm,aj rfl,c9];have h1:=I.pick (fV xs);have h0:xs=xs.take i++xs[i]::xs.drop (i+1):=by rw[← kL dI,j6]
 rw[show fV xs=fV (xs.take i++xs[i]::xs.drop (i+1)) from by rw[← h0]]at h1;replace I:=fV.out h1;clear h1;obtain⟨xa,vm⟩:∃ xa,xs[i].ad=xa:=⟨_,rfl⟩;have h2:=I;rw[show xs[i].own=Sl 5 1 xa xs[i].bs.length xs[i].c (bc xs[i].bs) from by rw[← vm];rfl]at h2;have cr:=(h2.sl xa).2;obtain⟨bb,pre,post,⟨h3,h4,h5,h6⟩,gN⟩:=h2.mh (by omega);rw[h5]at vm;replace I:=gN;clear gN h2;rw[vm]at gz;have hb:(pre++bc xs[i].bs++post)[pre.length+A]?=some (.int .u8 (xs[i].bs[A].toNat:Int)):=by
  rw[dz,pJ (by omega),show pre.length+A-pre.length=A from by omega,mM (by rw[dA];exact hA)];simp[bc,hA]
 refine RN 8 E I λa E=>?_;refine SS E (ae E (gz.2.2.2)) λa E=>?_;refine RN 2 E I λa E=>?_;refine SS E (ae E (I.bC hb)) λa E=>?_;refine ST 3 E I (λa w E I=>?_) (hlt:=(by simp only[aM,dA];omega));refine RT 2 E I ?_;refine⟨rfl,?_⟩;rw[Ao (by rw[dA];exact hA),PB]at I;have h7:=U.jh (n:=xs[i].bs.length) (c:=xs[i].c) (sz:=1) (I.j5 bb) (by rw[dA,bz,fB]) h4 h6;obtain⟨m',pD⟩:∃ m':c7,m'=⟨xs[i].frm,xs[i].to,xs[i].ad,xs[i].c,xs[i].bs.set A (xs[i].bs[A] ^^^ x)⟩:=⟨_,rfl⟩;have IZ:m'.own=Sl 5 1 (some ⟨bb,pre.length,none⟩) xs[i].bs.length xs[i].c (bc (xs[i].bs.set A (xs[i].bs[A] ^^^ x))):=by
  rw[pD,c7.own];simp only[bz,vm]
 rw[← IZ]at h7;have h8:=fV.Pv (a:=xs.take i) (b:=xs.drop (i+1)) (m:=m') ((h7.pick (fV (xs.take i++xs.drop (i+1)))).pick m'.own);have wN:xs.set i m'=xs.take i++m'::xs.drop (i+1):=by rw[rH,aj dI]
 rw[← wN]at h8;refine (bL.shut (q:=q) (ad:=some ⟨b',dK,none⟩) (xs:=xs.set i m') (ms:=(xs.map c7.m).set i (xs[i].frm,xs[i].to,xs[i].bs.set A (xs[i].bs.getD A 0 ^^^ x))) h8 (by rw[bz]) ?_ ?_ (by rw[bz];exact hx.1) ?_).sub
 ·rw[wN]
  conv=>lhs;rw[h0]
  rw[Dt,Dt]
  congr 1
  simp only[ja,flatMap_cons]
  congr 1
  rw[pD,c7.cells,c7.cells];simp only[bz]
 ·rw[jF,pD,c7.m,br,aD hA,Option.getD_some]
 ·intro y hy;rcases r5 hy with h | h
  ·exact hx.2 y h
  ·rw[h,pD];simp only[bz];exact hx.2 _ (jj dI)
end
section
theorem adi {l:List Br}{frm:Int}{P:List (List UInt8)}(b:Br)(h:0<(l.foldl (iy frm P) b).done)(hb:b.done=0) :
   l.foldl (iy frm P) b∈l∧(l.foldl (iy frm P) b).done≤P.length∧pZ ((l.foldl (iy frm P) b).al.take (l.foldl (iy frm P) b).done) P=true:=by
 have key:∀ (l:List Br) (b:Br),(l.foldl (iy frm P) b=b)∨(l.foldl (iy frm P) b∈l∧(l.foldl (iy frm P) b).done≤P.length∧pZ ((l.foldl (iy frm P) b).al.take (l.foldl (iy frm P) b).done) P=true):=by
  intro l
  induction l with
  | nil=>intro b;exact .inl rfl
  | cons y l ih =>
   intro b;rw[foldl_cons];rcases ih (iy frm P b y) with h | ⟨h1,h2,h3⟩
   ·rw[h];unfold iy;split
    ·rename_i hc;exact .inr ⟨iq ..,hc.2.2.1,hc.2.2.2⟩
    ·exact .inl rfl
   ·exact .inr ⟨gx _ h1,h2,h3⟩
 rcases key l b with h1 | h1
 ·rw[h1,hb]at h;omega
 ·exact h1
theorem adj {u P:List (List UInt8)}(hl:u.length≤P.length)(h:pZ u P=true):u=P.take u.length:=by
 have h1:=Zc.1 h;rw[Nat.min_eq_left hl,lf]at h1;exact h1
theorem PC (p:Pr):∀ (a b:List (List UInt8)) (fr:Int) (g:Nat→Int),foldI p fr g (a++b)=foldI p (fr+(a.length:Nat)) (foldI p fr g a) b
 | [],b,fr,g=>by simp[foldI]
 | x::a,b,fr,g=>by
  rw[cons_append,foldI,PC p a b,foldI,eV]
  congr 1;omega
theorem iQ.drop {w:World}{ad:Option Addr}{zs:List ee}{d c:Nat}(h:iQ w ad zs)(hc:zs.length≤c):iQ w (fw ad d c 1) (zs.drop d):=by
 refine⟨λh0=>?_,λx hx=>h.2 x (List.mem_of_mem_drop hx)⟩;rw[c8]at h0;obtain⟨b,o,rfl,hr⟩:=h.1 (by omega);refine⟨b,o+d*1,pK (by omega),λj v hj=>?_⟩;rw[map_drop,qE]at hj;have:=hr _ v hj;rw[fB,Nat.add_assoc];exact this
theorem PD {w:World}{b nk base front:Nat}{p:Pr}{M:jN}(h:Rd w b 0 (dX p M nk base front)):Rd w b 1 (bR p M.aq M.cO):=h.part 1 2
theorem adk {p:Pr}{f:Nat}{g:Nat→Int}{P:List (List UInt8)}{d:Nat}(hd:d≤P.length):foldI p ((f+d:Nat):Int) (foldI p (f:Int) g (P.take d)) (P.drop d)=foldI p (f:Int) g P:=by
 have h1:=PC p (P.take d) (P.drop d) (f:Int) g;rw[j6,eA,Nat.min_eq_left hd]at h1;rw[h1];rfl
section
variable {W w:World}{L:List SP}{n c i N tq sq r base front:Nat}{ad:Option Addr}{M:jN}{B:jw}{p:Pr}{s:Pl}{m:Mu}{A:Sn}{T:Tr}{t:Nat→Nat}{px:aC}
set_option maxHeartbeats 1000000 in
theorem adl (I:U W w (aE W M p m::L))(h:MI p M N m)(a6:dp p)(aF:p.title.size≤1000000000):Calls prog 265 #[pt M.mb] w λr w'=>∃ ad c,r=.returned (.tuple #[.slice ad 128 c,.int .i64 (fG p M.B.gs m.s).2])∧U W w' (Sl 5 1 ad 128 c (bc (fG p M.B.gs m.s).1)::aE W M p m::L):=by
 have hw:=h.wf;have bq:=hw.wc.lE;have iX:m.s.k.ls.length≤8:=by rw[hw.wc.ls];exact hw.wc.n.2
 have g4:=hw.wc.l5;have j1:aU m.s.k.ls≤aH m.s.k:=hw.wc.nO;have fH:=h.gs;have fe:=h.front;obtain⟨t,hI⟩:=h.inv;obtain⟨i,px,ig,lx⟩:=hI.mS (iq ..);have tS:=(hI.base px (bI ig) lx).1;have ly:=Tree.wt ((aE.open I).tree M.tq);clear h;obtain⟨s,A,T,J,ks,base,front⟩:=m;simp only at hw bq iX g4 j1 fe hI ig lx tS ly;subst fe;refine EN func265 ntmps265 rfl rfl λa E=>?_;refine CL 5 E I (CX I) λa w E I=>?_;replace I:=aP.open ((aE.open I).pick (aP W M.B p s));dsimp only at I;refine CL 0 E I (um (I.pick (az M.B.core s.k)) hw.wc) λa w E I=>?_;refine RN 1 E I λa E=>?_;replace I:=aP.fold I M.B p s;refine aV 2 (λw0 w'=>Rd w' M.mb 0 (dX p M ks.length base (aw s.k))) [8,9,10] [0,1,2,3,4,5,7,3006,1008,1009,1010,11,12,13,14,15,16,17,1018,19,20] E I λa w E I hH=>?_;have hC:=hH.at w (I.ai (b:=M.mb));refine RH 3 E I hH hC λa E=>?_;replace E:=E.aQ 15;refine RH 4 E I hH hC λa E=>?_;refine QH E (λw hc=>ae E (hc 8 _ rfl)) hC λa E=>?_;replace I:=aE.fold I M p ⟨s,A,T,J,ks,base,aw s.k⟩;refine RH 0 E I hH hC λa E=>?_;refine CL 0 E I (CX I) λa w E I=>?_;replace hC:=hH.at w ((aE.open I).ai (b:=M.mb));replace I:=aP.open ((aE.open I).pick (aP W M.B p s));dsimp only at I;refine RH 0 E I hH hC λa E=>?_;refine CL 0 E I (pv (I.pick (az M.B.core s.k))) λa w E I=>?_;replace hC:=hH.at w (I.ai (b:=M.mb));obtain⟨D,I,hD⟩:=az.qu I;refine RH 0 E I hH hC λa E=>?_;refine CL 0 E I (sH I bq iX) λa w E I=>?_;replace hC:=hH.at w (I.ai (b:=M.mb));refine RH 1 E I hH hC λa E=>?_;rw[show decide (((aw s.k:Nat):Int)≠((aU s.k.ls:Nat):Int))=false from LB]at E;refine RH 2 E I hH hC λa E=>?_;replace E:=E.aQ 26;refine RH 4 E I hH hC λa E=>?_;refine bA E (cv E rfl (s:=26)) (ae E (hC 8 _ rfl)) rfl λa E=>?_;refine RH 2 E I hH hC λa E=>?_;replace I:=aE.fold (aP.fold (hD _ _ I) M.B p s) M p ⟨s,A,T,J,ks,base,aw s.k⟩;refine IF 0 E I (λak a E=>?_) λak a E=>?_
 ·
  refine CL 2 E I (uA I) λa w E I=>?_;replace I:=aE.open I;dsimp only at I;refine aY 0 E I (Oq (I.pick (aP W M.B p s)) hw a6 aF fH) λad c a w E I=>?_;refine RT 4 E I ?_;exact⟨ad,c,rfl,(aE.fold I M p ⟨s,A,T,J,ks,base,aw s.k⟩).sub⟩
 have hhf:aw s.k<aH s.k:=by omega
 refine RN 1 E I λa E=>?_;replace I:=aE.open I;dsimp only at I;refine aV 0 (λw0 w'=>Rd w' M.mb 0 (dX p M ks.length base (aw s.k))) [1,2] [0,3,4,5,8,3006,1001,1002,1007,1009,10] E I λa w E I hH=>?_;have hC:=hH.at w (I.ai (b:=M.mb));refine RH 5 E I hH hC λa E=>?_;refine QH E (λw hc=>ae E (hc 0 _ rfl)) hC λa E=>?_;replace I:=aE.fold I M p ⟨s,A,T,J,ks,base,aw s.k⟩;refine RH 0 E I hH hC λa E=>?_;refine CL 0 E I (CX I) λa w E I=>?_;replace hC:=hH.at w ((aE.open I).ai (b:=M.mb));replace I:=aP.open ((aE.open I).pick (aP W M.B p s));dsimp only at I;refine RH 0 E I hH hC λa E=>?_;refine CL 0 E I (pv (I.pick (az M.B.core s.k))) λa w E I=>?_;replace hC:=hH.at w (I.ai (b:=M.mb));replace I:=aP.fold I M.B p s;refine RH 0 E I hH hC λa E=>?_;refine CL 0 E I (OA (I.pick (aP W M.B p s))) λa w E I=>?_;replace I:=aP.open (I.pick (aP W M.B p s));obtain⟨D,I,hD⟩:=az.qu (I.pick (az M.B.core s.k));refine j9 0 E I (H2 (r:=0) (to:=aH s.k) (.inl rfl) (by decide) I fH bq iX hw.wc.nN g4 (λw' dj=>(dj.pick (Sl 5 1 M.B.adT M.B.gs.table.length M.B.cT (bc M.B.gs.table))).cw M.B.adT _ rfl rfl)) λgg gq X a w E ⟨⟨uy,iF⟩,I⟩=>?_;have m9:=iF rfl;subst m9;rw[xY]at I;replace I:=I.sub (M:=Qu M.B.core.qb M.B.core.aB s.k.ls::D::cj gg (aH s.k-aU s.k.ls) gq (dx M.B.gs s.k.ls (aH s.k))::aa M.B.pb 192 (gJ p M.B s.g)::aA W p M.B.aq M.B.cO::Sl 5 1 M.B.adT M.B.gs.table.length M.B.cT (bc M.B.gs.table)::aa M.mb 177 (dX p M ks.length base (aw s.k))::aA W p M.aq M.cO::Sl 179 1 M.dy ks.length M.dG (g3 ks)::ah (fb p M.aq M.cO M.tq M.jq M.sq) ks::Tree M.tq M.sq T::ax M.sq M.r A::bJ M.jq J::L);replace I:=aE.fold (aP.fold (hD _ _ I) M.B p s) M p ⟨s,A,T,J,ks,base,aw s.k⟩;have iv:(dx M.B.gs s.k.ls (aH s.k)).length=aH s.k-aU s.k.ls:=xK _ _ _;have nd:∀ b∈dx M.B.gs s.k.ls (aH s.k),b.length≤1099511627776:=λb hb=>by
  rw[dx,cX]at hb;obtain⟨i,_,rfl⟩:=hb;rw[nL,js,a8];omega
 have PE:fG p M.B.gs s=(gF (foldI p (aw s.k) s.g (dx M.B.gs s.k.ls (aH s.k))),aH s.k):=by rw[fG,ag (by omega)]
 clear iF uy;generalize dx M.B.gs s.k.ls (aH s.k)=P at I iv nd PE;rw[← iv]at E I;rw[PE];have Da:=(cj.le (I.pick (cj gg P.length gq P))).2;refine RN 1 E I λa E=>?_;refine RN 1 E I λa E=>?_;replace I:=aE.open I;dsimp only at I;refine RN 5 E I λa E=>?_;replace I:=aE.fold I M p ⟨s,A,T,J,ks,base,aw s.k⟩;refine CL 0 E I (H6 I ig lx) λa w E I=>?_;refine AL 0 E I λcJ a w E I=>?_;change U W w (aa cJ 183 (ints .i32 32 (λ_=>0))::_) at I;refine SA 0 E I λa w E I=>?_;refine RN 1 E I λa E=>?_;refine b6 (M:=λa w=>∃ (d:Nat) (g1:Nat→Int),(d≤P.length∧foldI p ((aw s.k+d:Nat):Int) g1 (P.drop d)=foldI p (aw s.k:Int) s.g P∧dT g1)∧Fr a 92 [(0,pt M.mb),(4,.int .i64 (aH s.k)),(5,.slice gg P.length gq),(6,pt cJ),(7,.int .i64 d)]∧U W w (aa cJ 183 (ints .i32 32 g1)::cj gg P.length gq P::aE W M p ⟨s,A,T,J,ks,base,aw s.k⟩::L)) ?_ ?_
 ·
  refine b6 (M:=λa w=>∃ (b8:Nat) (iB:Option Addr) (cb:Nat),Fr a 92 [(0,pt M.mb),(4,.int .i64 (aH s.k)),(5,.slice gg P.length gq),(6,pt cJ),(7,.int .i64 0),(8,pt b8),(9,.bool (decide (0<(T.fQ (aw s.k:Int) P).done)))]∧U W w (aa b8 238 (ck (T.fQ (aw s.k:Int) P) iB cb)::aa cJ 183 (ints .i32 32 s.g)::cj gg P.length gq P::aE W M p ⟨s,A,T,J,ks,base,aw s.k⟩::L)) ?_ ?_
  ·
   refine RN 0 E I λa E=>?_;rw[tS]at I;replace I:=aE.open (I.pick (aE W M p ⟨s,A,T,J,ks,base,aw s.k⟩));dsimp only at I;refine aV 0 (λw0 w'=>Rd w' M.mb 0 (dX p M ks.length base (aw s.k))) [7,13] [0,1,2,4,5,6,8,3003,3007,2009,10,11,12,1013,1014,15] E I λa w E I hH=>?_;have hC:=hH.at w (I.ai (b:=M.mb));refine RH 7 E I hH hC λa E=>?_;refine QH E (λw hc=>ae E (hc 4 _ rfl)) hC λa E=>?_;refine QH E (λw hc=>ae E (hc 8 _ rfl)) hC λa E=>?_;refine RH 0 E I hH hC λa E=>?_;refine DN [(9,[10,11,12,1013,1014,15]),(13,[1009,10,11,12,1014,15])] (by kernel_rfl) rfl ⟨⟨_,rfl,?_⟩,⟨_,rfl,?_⟩,trivial⟩
   ·
    refine RH 0 E I hH hC λa E=>?_;refine aY 0 E I (Lj (p:=P) (I.tree M.tq) (λw' h=>cj.rd (h.pick (cj gg P.length gq P))) Da ⟨by omega,nd⟩) λiB cb a w E I=>?_;refine RN 3 E I λa E=>?_;refine e5 E rfl I Ty.t238 rfl λb8 a w E I ho=>?_;clear ho;replace hC:=hH.at w (I.ai (b:=M.mb));refine RH 0 E I hH hC λa E=>?_;refine SA 0 E I λa w E I=>?_;refine RN 1 E I λa E=>?_;exact⟨_,iB,cb,E.ab [0,4,5,6,7,8,9],(aE.fold I M p ⟨s,A,T,J,ks,base,aw s.k⟩).sub⟩
   refine RH 0 E I hH hC λa E=>?_;refine e5 E rfl I Ty.t238 rfl λb8 a w E I ho=>?_;clear ho;replace hC:=hH.at w (I.ai (b:=M.mb));refine RH 0 E I hH hC λa E=>?_;refine aY 0 E I (Lj (p:=P) (I.tree M.tq) (λw' h=>cj.rd (h.pick (cj gg P.length gq P))) Da ⟨by omega,nd⟩) λiB cb a w E I=>?_;refine SA 3 E I λa w E I=>?_;refine RN 1 E I λa E=>?_;exact⟨_,iB,cb,E.ab [0,4,5,6,7,8,9],(aE.fold I M p ⟨s,A,T,J,ks,base,aw s.k⟩).sub⟩
  clear E;(try clear I);rintro a w ⟨b8,iB,cb,E,I⟩;refine IF 2 E I (λao a E=>?_) λao a E=>?_
  ·
   obtain⟨qs,oW,PF⟩:=adi (l:=T.l) (frm:=(aw s.k:Int)) (P:=P) mV (by simpa [Tr.fQ] using ao) rfl;change T.fQ (aw s.k:Int) P∈T.l at qs;obtain⟨j,pb,I0,PG⟩:=hI.LD qs;have adm:=(hI.gn _ qs).2 pb (bI I0) PG;have adn:=(hI.ar pb (bI I0)).2;refine aV 0 (λw0 w'=>Rd w' b8 0 (ck (T.fQ (aw s.k:Int) P) iB cb)) [3,5,6] [0,1,4,3002,3005,1003,1006,7] E I λa w E I hH=>?_;have hC:=hH.at w (I.ai (b:=b8));refine RH 3 E I hH hC λa E=>?_;refine QH E (λw hc=>ae E (hc 4 _ rfl)) hC λa E=>?_;refine QH E (λw hc=>ae E (hc 3 _ rfl)) hC λa E=>?_;refine RH 0 E I hH hC λa E=>?_;refine CL 0 E I (H6 (I.pick (aE W M p ⟨s,A,T,J,ks,base,aw s.k⟩)) I0 PG) λa w E I=>?_;replace hC:=hH.at w (I.ai (b:=b8));refine RH 0 E I hH hC λa E=>?_;refine SA 0 E I λa w E I=>?_;replace hC:=hH.at w (I.ai (b:=b8));refine RH 1 E I hH hC λa E=>?_;change (T.fQ (aw s.k:Int) P).done≤P.length at oW;change pZ ((T.fQ (aw s.k:Int) P).al.take (T.fQ (aw s.k:Int) P).done) P=true at PF;have ds:=(ly.ok _ qs).2.1;generalize T.fQ (aw s.k:Int) P=bb at *;have e1:bb.al.take bb.done=P.take bb.done:=by
    have:=adj (u:=bb.al.take bb.done) (P:=P) (by rw[eA];omega) PF
    rwa [eA,Nat.min_eq_left ds]at this
   exact⟨bb.done,pb.g,⟨oW,by rw[adm,e1];exact adk oW,adn⟩,E.ab [0,4,5,6,7],I.sub⟩
  refine RN 0 E I λa E=>?_;exact⟨0,s.g,⟨Nat.zero_le _,rfl,hw.qn a6⟩,E.ab [0,4,5,6,7],I.sub⟩
 clear E;(try clear I);rintro a w ⟨d,g1,⟨mZ,Dg,ado⟩,E,I⟩;refine RN 1 E I λa E=>?_;replace I:=aE.open (I.pick (aE W M p ⟨s,A,T,J,ks,base,aw s.k⟩));dsimp only at I;obtain⟨zs,cW,eU,I⟩:=cj.open (I.pick (cj gg P.length gq P));have jz:zs.length=P.length:=by rw[← cW,a8]
 refine aV 0 (λw0 w'=>Rd w' M.mb 0 (dX p M ks.length base (aw s.k))∧Rd w' cJ 0 (ints .i32 32 g1)) [4,8,10] [0,1,2,5,6,7,9,11,12,13,16,3003,3004,1008,1010,1014,1015,17,18] E I λa w E I hH=>?_;have hC:=hH.at w ⟨I.ai (b:=M.mb),I.ai (b:=cJ)⟩;refine RH 10 E I hH hC λa E=>?_;rw[show P.length-d=(P.drop d).length from (c8 ..).symm]at E;refine RH 1 E I hH hC λa E=>?_;refine QH E (λw hc=>bT E n2 rfl Ty.t45 (PD hc.1)) hC λa E=>?_;refine QH E (λw hc=>bT E rX rfl Ty.t183 (hc.2)) hC λa E=>?_;refine RH 0 E I hH hC λa E=>?_;refine SS E (ae E (hC.1 8 _ rfl)) λa E=>?_;refine RH 1 E I hH hC λa E=>?_;rw[show ((aw s.k:Nat):Int)+(d:Int)=((aw s.k+d:Nat):Int) from rfl]at E;refine CL 0 E I (NW (P:=P.drop d) (zs:=zs.drop d) (fr:=((aw s.k+d:Nat):Int)) (I.pick (aA W p M.aq M.cO)) a6 aF ado ⟨by rw[c8];omega,λb hb=>nd b (List.mem_of_mem_drop hb)⟩ ⟨by omega,by have:aw s.k≤1000:=eS j1 g4;omega⟩ (by rw[map_drop,cW]) (λw' h=>(U.mQ (h.sub (M:=Sl 22 1 gg P.length gq (zs.map aK)::ah ba zs::[]))).drop (by omega))) λa w E I=>?_;refine aY 0 E I (zI I) λad2 c2 a w E I=>?_;refine RN 2 E I λa E=>?_;refine RT 0 E I ?_;rw[Dg]at I;exact⟨ad2,c2,rfl,(aE.fold I M p ⟨s,A,T,J,ks,base,aw s.k⟩).sub⟩
end
end
section
section
variable {W w:World}{L:List SP}{n c cP cT nb nw rm me aJ bt:Nat}{adP adT:Option Addr}{M:jN}{B:jw}{x:UInt8}{p:Pr}{s:Pl}{m:Mu}{tb:List UInt8}{cf:Cf}{y id bh order cx workers room:Int}
set_option maxHeartbeats 1000000 in
theorem adp (I:U W w (aA W p adP cP::L))(hm:eY ⟨n,me,id,aJ,bt,bh,order,nb,nw,rm⟩)(a6:dp p)(fH:c0 ⟨bh,order,tb⟩)(aF:p.title.size≤1000000000)(eb:p.ops.length≤1000000000)(eQ:tb.length≤1099511627776)(hT:∀ w',U W w' (aA W p adP cP::L)→aX w' adT tb.length tb) :
   Calls prog 59 #[.agg (bS ⟨n,me,id,aJ,bt,bh,order,nb,nw,rm⟩).toArray,.agg (bR p adP cP).toArray,.slice adT tb.length cT] w λr w'=>∃ (M:jN) (m:Mu),r=.returned (.tuple #[pt M.mb,.int .i64 0]) ∧
    (M.B.gs=⟨bh,order,tb⟩∧m.s=eE p ⟨n,me,id,aJ,bt,bh,order,nb,nw,rm⟩∧MI p M 1 m∧m.T.l=[]∧m.J=[]∧∀ k∈m.ks,k.1=lr)∧U W w' (aE W M p m::aA W p adP cP::L):=by
 obtain⟨cf,df⟩:∃ cf:Cf,cf=⟨n,me,id,aJ,bt,bh,order,nb,nw,rm⟩:=⟨_,rfl⟩;have cI:=hm;simp only[eY,fE]at cI;obtain⟨⟨h1,h2,h3⟩,⟨h4,h5,h6,h7⟩,h8,h9,fO,nz⟩:=cI;rw[← df];refine EN func59 ntmps59 rfl rfl λa E=>?_;refine BX 1 E I λb3 a w E I=>?_;change U W w (aa b3 28 (bS cf)::_) at I;refine BX 0 E I λb4 a w E I=>?_;change U W w (aa b4 45 (bR p adP cP)::_) at I;refine RN 6 E I λa E=>?_;rw[df]at E;refine bg 0 E I (Ou (tb:=tb) (I.pick (aA W p adP cP)) hm a6 fH aF eb eQ (λw' hw=>hT w' hw.sub)) λB a w E ⟨PH,I⟩=>?_;rw[← df]at I;refine RN 9 E I λa E=>?_;replace E:=E.aQ 19;refine RN 2 E I λa E=>?_;replace I:=I.bQ 114 4 none;rw[bR]at I;refine RN 2 E I λa E=>?_;refine hO E rfl I Bh Ty.t114 rfl rfl (by decide) (λh0=>(I.pick (aA W p adP cP)).sg adP h0) (by rw[jC FA]) (A5 Lp _) (by omega) λgH gI a w E I=>?_;rw[nil_append,ei]at I;rw[ei]at E;refine ST 1 E I (λa w E I=>?_);refine RN 1 E I λa E=>?_;replace I:=(I.pick (Sl 114 4 gH p.ops.length gI (rows dS p.ops))).FC;refine aV 0 (λw0 w'=>Rd w' b3 0 (bS cf)∧Rd w' b4 0 [.string p.title,.slice gH p.ops.length gI]) [3,4,5] [0,2,3001,1003,1004,1005,6,1007,8] E I λa w E I hH=>?_;have hC:=hH.at w ⟨I.ai (b:=b3),I.ai (b:=b4)⟩;refine RH 2 E I hH hC λa E=>?_;refine QH E (λw hc=>bT E n2 rfl Ty.t45 (hc.2)) hC λa E=>?_;refine RH 0 E I hH hC λa E=>?_;refine SS E (ae E (hC.1 9 _ rfl)) λa E=>?_;rw[show cf.room=(rm:Int) from by rw[df]]at E;refine RH 0 E I hH hC λa E=>?_;refine aY 0 E I (WS (n:=rm) I (by omega)) λsq r a w E I=>?_;replace hC:=hH.at w ⟨I.ai (b:=b3),I.ai (b:=b4)⟩;refine RH 0 E I hH hC λa E=>?_;refine bg 0 E I (XA I) λjq a w E I=>?_;replace hC:=hH.at w ⟨I.ai (b:=b3),I.ai (b:=b4)⟩;refine RH 1 E I hH hC λa E=>?_;refine yB E rfl I rfl λgS a w E I ho=>?_;clear ho;change U W w (aa gS 177 [pt B.pb,.string p.title,.slice gH p.ops.length gI,pt sq,.pointer none,pt jq,.slice none 0 0,.int .i64 0,.int .i64 0]::_) at I;refine RN 1 E I λa E=>?_;refine aV 1 (λw0 w'=>Rd w' b3 0 (bS cf)∧w'.cell? ⟨gS,3,none⟩=some (pt sq)) [6] [0,1,2,3,5,3004,1006,1007,8,9,1010] E I λa w E I hH=>?_;have hC:=hH.at w ⟨I.ai (b:=b3),(I.ai (b:=gS)) 3 _ rfl⟩;refine RH 5 E I hH hC λa E=>?_;refine QH E (λw hc=>ae E (hc.2)) hC λa E=>?_;refine RH 0 E I hH hC λa E=>?_;refine SS E (ae E (hC.1 7 _ rfl)) λa E=>?_;rw[show cf.cx=(nb:Int) from by rw[df]]at E;refine RH 0 E I hH hC λa E=>?_;refine bg 0 E I (W4 (m:=(nb:Int)) I) λtq a w E I=>?_;rw[show (min (max (nb:Int) 0) 8).toNat=nb from by omega]at I;refine ST 2 E I (λa w E I=>?_);refine RN 3 E I λa E=>?_;refine SS E (ae E ((I.ai (b:=b3)) 8 _ rfl)) λa E=>?_;rw[show cf.workers=(nw:Int) from by rw[df]]at E;refine RN 1 E I λa E=>?_;refine aL (λμ a w=>∃ (ks:List Kx) (dy:Option Addr) (dG:Nat),(μ=nw-ks.length∧ks.length≤nw∧(∀ k∈ks,k.1=lr))∧Fr a 93 [(3,pt b3),(8,pt B.pb),(10,pt gS),(44,.int .i64 nw),(45,.int .i64 ks.length)]∧U W w (aa gS 177 (dX p ⟨gS,B,sq,r,tq,jq,dy,dG,gH,gI⟩ ks.length 0 0)::Sl 179 1 dy ks.length dG (g3 ks)::ah (fb p gH gI tq jq sq) ks::aa b3 28 (bS cf)::aP W B p (eE p cf)::aA W p gH gI::aA W p adP cP::Tree tq sq ⟨nb,[],0,0⟩::ax sq r ⟨0,4*rm,0,[]⟩::bJ jq []::L)) (nw) (⟨[],none,0,⟨by simp,by simp,λk hk=>by cases hk⟩,E.ab [3,8,10,44,45],(show U W w (Sl 179 1 none ([]:List Kx).length 0 (g3 [])::ah (fb p gH gI tq jq sq) []::aa gS 177 (dX p ⟨gS,B,sq,r,tq,jq,none,0,gH,gI⟩ ([]:List Kx).length 0 0)::_) from (I.ji (f:=fb p gH gI tq jq sq)).bQ 179 1 none).sub⟩) ?_;clear E I;rintro μ a w ⟨ks,dy,dG,⟨rfl,dR,Ap⟩,E,I⟩;refine IF 3 E I (λao a E=>?_) λao a E=>?_
 ·
  refine aV 1 (λw0 w'=>Rd w' gS 0 (dX p ⟨gS,B,sq,r,tq,jq,dy,dG,gH,gI⟩ ks.length 0 0)) [8,12,16,20,21,22] [0,1,2,3,5,6,7,9,10,11,13,14,15,17,18,19,3004,3008,3012,3016,1020,1021,1022,1023,24,25,1026] E I λa w E I hH=>?_;have hC:=hH.at w (I.ai (b:=gS));refine RH 16 E I hH hC λa E=>?_;refine QH E (λw hc=>ae E (hc 6 _ rfl)) hC λa E=>?_;refine QH E (λw hc=>bT E n2 rfl Ty.t45 (PD hc)) hC λa E=>?_;refine QH E (λw hc=>ae E (hc 4 _ rfl)) hC λa E=>?_;refine QH E (λw hc=>ae E (hc 5 _ rfl)) hC λa E=>?_;refine RH 0 E I hH hC λa E=>?_;refine SS E (ae E (hC 3 _ rfl)) λa E=>?_;refine RH 0 E I hH hC λa E=>?_;refine bg 0 E I (Zg I) λwb a w E I=>?_;replace hC:=hH.at w (I.ai (b:=gS));refine RH 0 E I hH hC λa E=>?_;refine ct E rfl I EY Ty.t179 rfl rfl rfl rfl (by decide) (by decide) λb69 a w E I ho=>?_;clear ho;replace hC:=hH.at w (I.ai (b:=gS));refine RH 0 E I hH hC λa E=>?_;refine cR E rfl I EY Ty.t179 rfl rfl I.ai rfl (by simp[Value.oneCell']) (by decide) (by decide) (by omega) λwa we a w E I=>?_;refine ST 2 E I (λa w E I=>?_);have qc:U W w (aa gS 177 (dX p ⟨gS,B,sq,r,tq,jq,wa,we,gH,gI⟩ (ks++[(lr,wb)]).length 0 0)::Sl 179 1 wa (ks++[(lr,wb)]).length we (g3 (ks++[(lr,wb)]))::aa wb 247 (cz p gH gI tq jq sq lr)::ah (fb p gH gI tq jq sq) ks::aa b3 28 (bS cf)::aP W B p (eE p cf)::aA W p gH gI::aA W p adP cP::Tree tq sq ⟨nb,[],0,0⟩::ax sq r ⟨0,4*rm,0,[]⟩::bJ jq []::L):=by
   have e1:(ks++[(lr,wb)]).length=ks.length+1:=by simp
   have e2:g3 (ks++[(lr,wb)])=g3 ks++[pt wb]:=by simp[g3]
   rw[e1,e2];change U W w (aa gS 177 (dX p ⟨gS,B,sq,r,tq,jq,wa,we,gH,gI⟩ (ks.length+1) 0 0)::Sl 179 1 wa (ks.length+1) we (g3 ks++[pt wb])::_) at I;exact I.sub
  have PI:=U.j7 (f:=fb p gH gI tq jq sq) (x:=(lr,wb)) (l:=ks) (qc.sub (M:=aa wb 247 (cz p gH gI tq jq sq lr)::ah (fb p gH gI tq jq sq) ks::aa gS 177 (dX p ⟨gS,B,sq,r,tq,jq,wa,we,gH,gI⟩ (ks++[(lr,wb)]).length 0 0)::Sl 179 1 wa (ks++[(lr,wb)]).length we (g3 (ks++[(lr,wb)]))::aa b3 28 (bS cf)::aP W B p (eE p cf)::aA W p gH gI::aA W p adP cP::Tree tq sq ⟨nb,[],0,0⟩::ax sq r ⟨0,4*rm,0,[]⟩::bJ jq []::L));replace I:=PI;clear qc PI;refine RN 2 E I λa E=>?_;have adr:(ks++[(lr,wb)]).length=ks.length+1:=by simp
  refine⟨nw-(ks.length+1),by omega,ks++[(lr,wb)],wa,we,⟨by omega,by omega,λk hk=>?_⟩,?_,I.sub⟩
  ·rcases e7.1 hk with hk | hk
   ·exact Ap k hk
   ·rw[iP.1 hk]
  ·rw[adr];exact E.ab [3,8,10,44,45]
 refine aV 1 (λw0 w'=>Rd w' gS 0 (dX p ⟨gS,B,sq,r,tq,jq,dy,dG,gH,gI⟩ ks.length 0 0)) [6] [0,1,2,3,5,3004,1006,1007,8,9,10,11,12,1013] E I λa w E I hH=>?_;have hC:=hH.at w (I.ai (b:=gS));refine RH 5 E I hH hC λa E=>?_;refine QH E (λw hc=>ae E (hc 3 _ rfl)) hC λa E=>?_;refine RH 0 E I hH hC λa E=>?_;refine CL 0 E I (Oz (I.pick (aP W B p (eE p cf)))) λa w E I=>?_;replace hC:=hH.at w (I.ai (b:=gS));refine RH 0 E I hH hC λa E=>?_;refine bg 0 E I (K3 (g:=(eE p cf).g) (I.store sq) (by simp[Sn.used,WR];omega) (by simp)) λt a w E ⟨⟨ht1,H9⟩,I⟩=>?_;refine ST 5 E I (λa w E I=>?_);refine RN 3 E I λa E=>?_;refine SS E (ae E ((I.ai (b:=b3)) 3 _ rfl)) λa E=>?_;rw[show cf.aJ=(aJ:Int) from by rw[df]]at E;refine ST 2 E I (λa w E I=>?_);change U W w (aa gS 177 (dX p ⟨gS,B,sq,r,tq,jq,dy,dG,gH,gI⟩ ks.length 1 aJ)::_) at I;refine RT 4 E I ?_;obtain rfl:ks.length=nw:=by omega
 have wg:=aE.fold I ⟨gS,B,sq,r,tq,jq,dy,dG,gH,gI⟩ p ⟨eE p cf,(⟨0,4*rm,0,[]⟩:Sn).add (eE p cf).g t,⟨nb,[],0,0⟩,[],ks,1,aJ⟩;refine⟨⟨gS,B,sq,r,tq,jq,dy,dG,gH,gI⟩,⟨eE p cf,(⟨0,4*rm,0,[]⟩:Sn).add (eE p cf).g t,⟨nb,[],0,0⟩,[],ks,1,aJ⟩,rfl,⟨PH,rfl,?_,rfl,rfl,Ap⟩,wg.sub⟩;obtain⟨ps,ev,mr,hk⟩:∃ ps ev mr,(eE p cf).k={ ft cf with ps:=ps,ev:=ev,mr:=mr }:=(xR (p:=p) (c:=cf) (by rw[df];exact hm)).eD.2.2;have I1:cy p (eE p cf):=cy.new (by rw[df];exact hm);have hfd:aw (eE p cf).k=aJ:=by
  obtain⟨l,ll,mm⟩:=Cy I1.wc.lE;rw[aw,mm];rw[hk]at ll;have hl3:l∈List.replicate cf.n.toNat (List.replicate cf.aJ.toNat 0):=ll;rw[(List.mem_replicate.1 hl3).2,kN,df];rfl
 have b9:∀ k∈ks.map (·.1),k=lr:=λk hk=>by
  obtain⟨y,hy,rfl⟩:=cX.1 hk;exact Ap y hy
 exact { wf:=I1,gs:=by rw[PH];exact fH,front:=hfd.symm,gn:=λy hy=>(by cases hy),J:=by simp,most:=by rw[hk,df];rfl,workers:=by rw[hk,df];rfl,ks:=by dsimp only;omega,room:=⟨by rw[hk,df];simp only[Sn.add,ft];omega,by simp only[Sn.add];omega⟩,n:=⟨a7 _,Nat.zero_le _,Nat.zero_le _⟩,inv:=⟨t,by
  refine⟨?_,λx hx=>?_,λx hx _=>?_,λy hy=>(by cases hy),λk hk=>?_⟩
  ·rw[OB (λk hk=>by rw[b9 k hk];rfl)];exact lL _
  ·rw[iP.1 hx];exact⟨rfl,I1.qn a6⟩
  ·rw[iP.1 hx];exact⟨rfl,rfl⟩
  ·rw[b9 k hk];exact⟨Int.le_refl _,λh=>(by cases h)⟩⟩ }
end
end
end Go.Proofs.YteoldcfapaiobaaGreat
