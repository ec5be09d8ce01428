/- quintainref21.Player. -/
import Derived.Test.YteoldcfapaiobaaGreatG12RefC
import Derived.Test.YteoldcfapaiobaaGreatG11Mul
import Derived.Test.YteoldcfapaiobaaGreatG09Core
namespace Go.Proofs.YteoldcfapaiobaaGreat
open Tryz
open List (length_range take_succ_cons drop_left take_zero foldl_cons nil_append map_cons mem_range drop_eq_nil_of_le getElem_map cons_append append_nil map_take map_drop foldl_append flatMap_cons)
open Go.RowKit
set_option linter.unusedVariables false
set_option linter.unusedSimpArgs false
set_option maxRecDepth 10000
set_option synthInstance.maxSize 4000
set_option synthInstance.maxHeartbeats 400000
section
structure gd where
 pb:Nat
 core:oj
 aq:Option Addr
 cO:Nat
 adT:Option Addr
 cT:Nat
 gs:Gs
abbrev eX (p:Pr)(B:gd)(g:Nat→Int):List Value:=[pt B.core.cb,.string p.title,.slice B.aq p.ops.length B.cO,.int .i64 B.gs.kind,.int .i64 B.gs.order,.slice B.adT B.gs.table.length B.cT]++ints .i32 32 g
theorem NZ {w:World}{b:Nat}{p:Pr}{B:gd}{g:Nat→Int}(h:Rd w b 0 (eX p B g)):Rd w b 1 (bO p B.aq B.cO):=h.part 1 2
theorem abH {w:World}{b:Nat}{p:Pr}{B:gd}{g:Nat→Int}(h:Rd w b 0 (eX p B g)):Rd w b 3 (dq B.gs B.adT B.cT):=h.part 3 3
theorem Co {w:World}{b:Nat}{p:Pr}{B:gd}{g:Nat→Int}(h:Rd w b 0 (eX p B g)):Rd w b 6 (ints .i32 32 g):=by
 have h1:=h.part 6 32
 rwa [show ((eX p B g).drop 6).take 32=ints .i32 32 g from by
  show (ints .i32 32 g).take 32=_;exact gi (by rw[dj];exact a7 _)]at h1
theorem N0 (p:Pr)(B:gd)(g:Nat→Int):(eX p B g).length=38:=by rw[eX,aJ,dj];rfl
theorem abI (p:Pr)(B:gd)(g g':Nat→Int):cG (eX p B g) 6 (ints .i32 32 g')=eX p B g':=by
 rw[cG,dj,drop_eq_nil_of_le (by rw[N0];exact a7 _),append_nil,eX,eX]
 congr 1
def bZ (W:World)(B:gd)(p:Pr)(s:Pl):SP:=λh=>cm [aa B.pb 51 (eX p B s.g),a1 B.core s.k,aA W p B.aq B.cO] h
section
variable {W w:World}{L R:List SP}{n c i cP cT:Nat}{ad adP adT:Option Addr}{B:gd}{x:UInt8}{p:Pr}{s:Pl}{bs tb:List UInt8}{k:Ks}{C:oj}{A:m6}
theorem bZ.open (I:U W w (bZ W B p s::L)):U W w (aa B.pb 51 (eX p B s.g)::a1 B.core s.k::aA W p B.aq B.cO::L) :=
 I.open (M:=[_,_,_]) λ_ h=>h
theorem bZ.fold (I:U W w L)(B:gd)(p:Pr)(s:Pl)[kk:fI L [aa B.pb 51 (eX p B s.g),a1 B.core s.k,aA W p B.aq B.cO] R]:U W w (bZ W B p s::R) :=
 U.shut (M:=[_,_,_]) (I.perm kk.perm) λ_ h=>h
theorem He (I:U W w (bL C.lb C.lo C.cL k.ls::aa C.cb 72 (cX k C A)::L))(hk:WC k):Calls prog 19 #[pt C.cb] w λr w'=>r=.returned (.int .i64 (aw k))∧U W w' (bL C.lb C.lo C.cL k.ls::aa C.cb 72 (cX k C A)::L):=by
 have hn:=hk.n;have fa:=hk.ls;refine EN func19 ntmps19 rfl rfl λa E=>?_;refine RN 7 E I λa E=>?_;obtain⟨xs,bd,I⟩:=bL.open I;have b9:xs.length=k.ls.length:=by rw[← bd,gb]
 rw[← b9]at E;refine CL 0 E I (B9 (xs:=xs) I (by omega) (by omega) (λw' hw=>U.pj hw)) λa w E I=>?_;refine RT 1 E I ?_;exact⟨by rw[bd];rfl,bL.close I bd⟩
theorem Hf (I:U W w (bZ W B p s::L))(hw:WP p s)(a6:dm p)(aH:p.title.size≤1000000000):Calls prog 66 #[pt B.pb] w λr w'=>r=.returned (.tuple #[])∧U W w' (bZ W B p (eC p s)::L):=by
 refine EN func66 ntmps66 rfl rfl λa E=>?_;refine RN 0 E I λa E=>?_;refine aN (λμ a w=>∃ (i:Nat),(μ=aw s.k-s.k.mr.length-i∧i≤aw s.k-s.k.mr.length)∧Fr a 60 [(0,pt B.pb)]∧U W w (bZ W B p (iF p i s)::L)) (aw s.k-s.k.mr.length) (⟨0,⟨rfl,by omega⟩,E.ab [0],I⟩) ?_;clear E I;rintro μ a w ⟨i,⟨rfl,hi⟩,E,I⟩;obtain⟨ku,fa,lM⟩:=hw.q5 i hi;have eR:iF p (i+1) s=ob p (iF p i s):=FW p i s;have DR:=hw.low;have wB:aw (iF p i s).k=aw s.k:=by rw[aw,fa];rfl
 generalize GI:iF p i s=si at I ku fa lM eR wB;replace I:=bZ.open I;have bD:=ku.wc.lu;have ie:si.k.ls.length≤8:=by rw[ku.wc.ls];exact ku.wc.n.2
 have rf:0<si.k.ls.length:=by rw[ku.wc.ls];have:=ku.wc.n;omega
 have aar:aw si.k≤1000:=fG ku.wc.nG ku.wc.lZ;obtain⟨A,I⟩:=a1.open (I.pick (a1 B.core si.k));refine aV 2 (λw0 w'=>Rd w' B.pb 0 (eX p B si.g)∧Rd w' B.core.cb 0 (cX si.k B.core A)) [11,12] [0,1,2,8,9,10,3003,4,5,3006,7,1011,1012,13] E I λa w E I hH=>?_;have hC:=hH.at w ⟨I.ai (b:=B.pb),I.ai (b:=B.core.cb)⟩;refine RH 6 E I hH hC λa E=>?_;refine QH E (λw hc=>ae E (hc.1 0 _ rfl)) hC λa E=>?_;refine RH 2 E I hH hC λa E=>?_;refine QH E (λw hc=>ae E (hc.2 16 _ rfl)) hC λa E=>?_;refine RH 1 E I hH hC λa E=>?_;refine SS E (ae E (hC.1 0 _ rfl)) λa E=>?_;refine RH 0 E I hH hC λa E=>?_;refine CL 0 E I (He ((I.pick (aa B.core.cb 72 (cX si.k B.core A))).pick (bL B.core.lb B.core.lo B.core.cL si.k.ls)) ku.wc) λa w E I=>?_;replace hC:=hH.at w ⟨I.ai (b:=B.pb),I.ai (b:=B.core.cb)⟩;refine RH 1 E I hH hC λa E=>?_;refine IF 0 E I (λaj a E=>?_) λaj a E=>?_
 ·
  have qO:si.k.mr.length<aU si.k.ls:=by
   have:aU si.k.ls=aw si.k:=rfl;omega
  have aas:si.k.mr.length<aw si.k:=qO;refine RN 11 E I λa E=>?_;obtain⟨xs,bd,I⟩:=bL.open (I.pick (bL B.core.lb B.core.lo B.core.cL si.k.ls));have b9:xs.length=si.k.ls.length:=by rw[← bd,gb]
  have dQ:=nD si.k.ls si.k.mr.length;refine aV 0 (λw0 w'=>Rd w' B.pb 0 (eX p B si.g)∧Rd w' B.core.cb 0 (cX si.k B.core A)) [8,13,14,15,16,18] [0,1,2,3,5,6,7,9,10,11,12,17,3004,3008,1013,1014,1015,1016,1018,1019,20,21,22,23,24,1025] E I λa w E I hH=>?_;have hC:=hH.at w ⟨I.ai (b:=B.pb),I.ai (b:=B.core.cb)⟩;refine RH 12 E I hH hC λa E=>?_;refine QH E (λw hc=>bT E underlying45 rfl Ty.t45 (NZ hc.1)) hC λa E=>?_;refine QH E (λw hc=>bT E underlying49 rfl Ty.t49 (Co hc.1)) hC λa E=>?_;refine RH 0 E I hH hC λa E=>?_;refine SS E (ae E (hC.1 0 _ rfl)) λa E=>?_;refine RH 2 E I hH hC λa E=>?_;refine SS E (ae E (hC.2 10 _ rfl)) λa E=>?_;rw[← b9]at E;refine RH 0 E I hH hC λa E=>?_;refine aZ 0 E I (GQ (xs:=xs) (f:=si.k.mr.length) I (by omega) (by omega) (λw' hw=>U.pj hw) (by rw[bd];exact qO)) λiT jo a w E I=>?_;replace hC:=hH.at w ⟨I.ai (b:=B.pb),I.ai (b:=B.core.cb)⟩;rw[bd]at E I;refine RH 0 E I hH hC λa E=>?_;refine bh 0 E I (EZ (b:=bJ si.k.ls si.k.mr.length) (fr:=si.k.mr.length) (I.pick (aA W p B.aq B.cO)) a6 aH (ku.qf a6) (by omega) (by omega) (λw' hw=>(hw.pick (Sl 5 1 iT (bJ si.k.ls si.k.mr.length).length jo (bc (bJ si.k.ls si.k.mr.length)))).cu iT _ rfl rfl)) λnst a w E ⟨p8,I⟩=>?_;refine RN 5 E I λa E=>?_;refine ru E rfl I Ty.t49 uD (by rw[dj,N0];decide) λa w E I=>?_;rw[abI]at I;refine RN 0 E I λa E=>?_;replace I:=bL.close (I.sub (M:=Sl 65 1 (some ⟨B.core.lb,B.core.lo,none⟩) si.k.ls.length B.core.cL (xs.map aM)::ah ba xs::aa B.pb 51 (eX p B (e7 p si.k.mr.length (bJ si.k.ls si.k.mr.length) si.g))::aA W p B.aq B.cO::aa B.core.cb 72 (cX si.k B.core A)::aa B.core.hb 3 (fb si.k.ps)::aa B.core.dZ 3 (eW si.k.ps)::aa B.core.wb 313 (rows fe si.k.ps)::aa B.core.xb 4 (fc si.k.ps)::Sl 100 1 A.cj si.k.mr.length A.cM (c4 si.k.mr)::Sl 102 3 A.adE si.k.ev.length A.cE (rows bW si.k.ev)::L)) bd;replace I:=a1.fold I B.core si.k A;refine aV 0 (λw0 w'=>Rd w' B.pb 0 (eX p B (e7 p si.k.mr.length (bJ si.k.ls si.k.mr.length) si.g))) [7,8] [0,1,2,4,5,6,3003,1007,1008,1009] E I λa w E I hH=>?_;have hC:=hH.at w (I.ai (b:=B.pb));refine RH 6 E I hH hC λa E=>?_;refine QH E (λw hc=>ae E (hc 0 _ rfl)) hC λa E=>?_;refine RH 0 E I hH hC λa E=>?_;refine SS E (bT E underlying49 rfl Ty.t49 (Co hC)) λa E=>?_;refine RH 0 E I hH hC λa E=>?_;refine CL 0 E I (Zi I) λa w E I=>?_;replace hC:=hH.at w (I.ai (b:=B.pb));refine RH 0 E I hH hC λa E=>?_;refine CL 0 E I (abl (I.pick (a1 B.core si.k)) ku.wc (by omega) (yQ _)) λa w E I=>?_;refine RN 0 E I λa E=>?_;exact⟨aw s.k-s.k.mr.length-(i+1),by omega,i+1,⟨rfl,by omega⟩,E.ab [0],by
   rw[eR];show U W w (bZ W B p ⟨lY si.k (gL (gx (e7 p si.k.mr.length (bJ si.k.ls si.k.mr.length) si.g))),e7 p si.k.mr.length (bJ si.k.ls si.k.mr.length) si.g⟩::L);exact (bZ.fold I B p ⟨lY si.k (gL (gx (e7 p si.k.mr.length (bJ si.k.ls si.k.mr.length) si.g))),e7 p si.k.mr.length (bJ si.k.ls si.k.mr.length) si.g⟩).sub⟩
 refine RT 0 E I ?_;obtain rfl:i=aw s.k-s.k.mr.length:=by
  have:aU si.k.ls=aw si.k:=rfl;omega
 refine⟨rfl,?_⟩;rw[eC,GI];exact (bZ.fold (a1.fold I B.core si.k A) B p si).sub
theorem abJ (I:U W w (bZ W B p s::L))(hw:ct p s)(a6:dm p)(aH:p.title.size≤1000000000):Calls prog 71 #[pt B.pb,.int .u8 (x.toNat:Nat)] w λr w'=>r=.returned (.int .i64 (dK p x s).1)∧U W w' (bZ W B p (dK p x s).2::L):=by
 have h1:=vh x s.k;have lQ:=hw.toWP.more (hw.wc.al x) (hw.held.al x) h1.1 h1.2;replace I:=bZ.open I;refine EN func71 ntmps71 rfl rfl λa E=>?_;refine CL 8 E I (abn (x:=x) (I.pick (a1 B.core s.k)) hw.wc) λa w E I=>?_;refine RN 1 E I λa E=>?_;replace I:=bZ.fold I B p ⟨(c3 x s.k).2,s.g⟩;refine CL 2 E I (Hf I lQ a6 aH) λa w E I=>?_;refine RT 3 E I ?_;exact⟨rfl,I⟩
theorem abK (I:U W w (bZ W B p s::L))(hw:ct p s)(a6:dm p)(aH:p.title.size≤1000000000)(hb:bs.length≤65536)(hc:bs.length≤c)(hp:∀ w',U W w' L→aX w' ad bs.length bs) :
   Calls prog 110 #[pt B.pb,.slice ad bs.length c] w λr w'=>r=.returned (.int .i64 (dB p bs s).1)∧U W w' (bZ W B p (dB p bs s).2::L):=by
 have h1:=so bs s.k;have lQ:=hw.toWP.more (hw.wc.recv bs).1 ((hw.wc.recv bs).2 hw.held) h1.1 h1.2;replace I:=bZ.open I;refine EN func110 ntmps110 rfl rfl λa E=>?_;refine CL 8 E I (abF (bs:=bs) (ad:=ad) (c:=c) (I.pick (a1 B.core s.k)) hw.wc hw.held hb hc (λw' di=>hp w' di.tail.tail)) λa w E I=>?_;refine RN 1 E I λa E=>?_;replace I:=bZ.fold I B p ⟨(dp bs s.k).2,s.g⟩;refine CL 2 E I (Hf I lQ a6 aH) λa w E I=>?_;refine RT 3 E I ?_;exact⟨rfl,I⟩
theorem N1 (I:U W w (bZ W B p s::L))(hw:ct p s):Calls prog 77 #[pt B.pb] w λr w'=>∃ ad c,r=.returned (.tuple #[.slice ad 128 c,.int .i64 (l4 s).2])∧U W w' (Sl 5 1 ad 128 c (bc (l4 s).1)::bZ W B p s::L):=by
 replace I:=bZ.open I;refine EN func77 ntmps77 rfl rfl λa E=>?_;refine aV 4 (λw0 w'=>Rd w' B.pb 0 (eX p B s.g)) [4,8] [0,1,2,5,6,7,3003,3008,1004,1009,10,11] E I λa w E I hH=>?_;have hC:=hH.at w (I.ai (b:=B.pb));refine RH 6 E I hH hC λa E=>?_;refine QH E (λw hc=>bT E underlying49 rfl Ty.t49 (Co hc)) hC λa E=>?_;refine QH E (λw hc=>ae E (hc 0 _ rfl)) hC λa E=>?_;refine RH 0 E I hH hC λa E=>?_;refine aZ 0 E I (vb I) λad c a w E I=>?_;replace hC:=hH.at w (I.ai (b:=B.pb));refine RH 0 E I hH hC λa E=>?_;refine CL 0 E I (G5 (I.pick (a1 B.core s.k)) hw.wc) λa w E I=>?_;refine RN 2 E I λa E=>?_;refine RT 0 E I ?_;exact⟨ad,c,rfl,(bZ.fold I B p s).sub (M:=Sl 5 1 ad 128 c (bc (gx s.g))::bZ W B p s::L)⟩
theorem Hg (I:U W w (bL C.lb C.lo C.cL k.ls::aa C.cb 72 (cX k C A)::L))(hk:WC k):Calls prog 20 #[pt C.cb] w λr w'=>r=.returned (.int .i64 (aG k))∧U W w' (bL C.lb C.lo C.cL k.ls::aa C.cb 72 (cX k C A)::L):=by
 have eE:k.me<k.ls.length:=by rw[hk.ls];exact hk.me
 refine EN func20 ntmps20 rfl rfl λa E=>?_;refine bR 3 [8] [0,1,2,4,5,6,7,3003,1008,9,10,1011,12,13] E I λa w E I hH hC=>?_;obtain⟨xs,bd,I⟩:=bL.open I;have b9:xs.length=k.ls.length:=by rw[← bd,gb]
 obtain⟨na,ol,y,zx,hy,pg,qm⟩:=(U.pj I).at (i:=k.me) (by omega);cases zx;have jm:aG k=y.2.2.length:=by
  show (k.ls.getD k.me []).length=_;rw[← bd,sA hy]
 replace hH:=Hd.gE I;refine RH 11 E I hH hC λa E=>?_;refine SS E (ae E (pg)) λa E=>?_;rw[aM]at E;refine RH 2 E I hH hC λa E=>?_;refine RT 0 E I ?_;exact⟨by rw[jm],bL.close I bd⟩
theorem abL (I:U W w (bZ W B p s::L))(hw:ct p s)(a6:dm p)(aH:p.title.size≤1000000000)(fE:cY B.gs)(hT:aX W B.adT B.gs.table.length B.gs.table):Calls prog 78 #[pt B.pb] w λr w'=>∃ ad c,r=.returned (.tuple #[.slice ad 128 c,.int .i64 (fD p B.gs s).2])∧U W w' (Sl 5 1 ad 128 c (bc (fD p B.gs s).1)::bZ W B p s::L):=by
 have ie:s.k.ls.length≤8:=by rw[hw.wc.ls];exact hw.wc.n.2
 have rf:0<s.k.ls.length:=by rw[hw.wc.ls];have:=hw.wc.n;omega
 have gX:=hw.wc.lZ;have fw:aw s.k≤aG s.k:=hw.wc.nG;replace I:=bZ.open I;refine EN func78 ntmps78 rfl rfl λa E=>?_;refine aV 5 (λw0 w'=>Rd w' B.pb 0 (eX p B s.g)) [4,8] [0,1,2,5,6,7,3003,3008,1004,1009,10] E I λa w E I hH=>?_;have hC:=hH.at w (I.ai (b:=B.pb));refine RH 6 E I hH hC λa E=>?_;refine QH E (λw hc=>ae E (hc 0 _ rfl)) hC λa E=>?_;refine QH E (λw hc=>ae E (hc 0 _ rfl)) hC λa E=>?_;refine RH 0 E I hH hC λa E=>?_;refine CL 0 E I (sD (I.pick (a1 B.core s.k)) hw.wc) λa w E I=>?_;replace hC:=hH.at w (I.ai (b:=B.pb));refine RH 0 E I hH hC λa E=>?_;refine CL 0 E I (G5 I hw.wc) λa w E I=>?_;refine RN 1 E I λa E=>?_;refine IF 0 E I (λaj a E=>?_) λaj a E=>?_
 ·
  replace I:=bZ.fold I B p s;refine aZ 2 E I (N1 I hw) λad c a w E I=>?_;refine RT 4 E I ?_;refine⟨ad,c,?_,?_⟩
  ·rw[fD,ak (by omega)]
  ·rw[fD,ak (by omega)];exact I
 refine RN 1 E I λa E=>?_;obtain⟨A,I⟩:=a1.open (I.pick (a1 B.core s.k));refine aV 0 (λw0 w'=>Rd w' B.pb 0 (eX p B s.g)∧Rd w' B.core.cb 0 (cX s.k B.core A)) [7,11,12,16,17,18,19,23,27,28,29,31] [0,1,2,4,5,6,8,9,10,13,14,15,20,21,22,24,25,26,3003,3007,3011,3016,3017,3018,3019,3023,3027,2012,2028,2029,2030,1031,1032] E I λa w E I hH=>?_;have hC:=hH.at w ⟨I.ai (b:=B.pb),I.ai (b:=B.core.cb)⟩;refine RH 18 E I hH hC λa E=>?_;refine QH E (λw hc=>bT E underlying45 rfl Ty.t45 (NZ hc.1)) hC λa E=>?_;refine QH E (λw hc=>bT E underlying49 rfl Ty.t49 (Co hc.1)) hC λa E=>?_;refine QH E (λw hc=>ae E (hc.1 0 _ rfl)) hC λa E=>?_;refine QH E (λw hc=>ae E (hc.1 0 _ rfl)) hC λa E=>?_;refine RH 2 E I hH hC λa E=>?_;refine QH E (λw hc=>ae E (hc.2 10 _ rfl)) hC λa E=>?_;refine QH E (λw hc=>bT E underlying47 rfl Ty.t47 (abH hc.1)) hC λa E=>?_;refine QH E (λw hc=>ae E (hc.1 0 _ rfl)) hC λa E=>?_;refine RH 0 E I hH hC λa E=>?_;refine DN [(12,[2028,2029,2030,1031,1032]),(31,[1012,1028,1029,1030,1032])] (by kernel_rfl) rfl ⟨⟨_,rfl,?_⟩,⟨_,rfl,?_⟩,trivial⟩
 ·
  refine RH 0 E I hH hC λa E=>?_;refine CL 0 E I (He ((I.pick (aa B.core.cb 72 (cX s.k B.core A))).pick (bL B.core.lb B.core.lo B.core.cL s.k.ls)) hw.wc) λa w E I=>?_;replace hC:=hH.at w ⟨I.ai (b:=B.pb),I.ai (b:=B.core.cb)⟩;refine RH 0 E I hH hC λa E=>?_;refine DN [(28,[2029,2030,1031,1032]),(31,[1028,1029,1030,1032])] (by kernel_rfl) rfl ⟨⟨_,rfl,?_⟩,⟨_,rfl,?_⟩,trivial⟩
  ·
   refine RH 0 E I hH hC λa E=>?_;refine CL 0 E I (Hg ((I.pick (aa B.core.cb 72 (cX s.k B.core A))).pick (bL B.core.lb B.core.lo B.core.cL s.k.ls)) hw.wc) λa w E I=>?_;replace hC:=hH.at w ⟨I.ai (b:=B.pb),I.ai (b:=B.core.cb)⟩;refine RH 0 E I hH hC λa E=>?_;refine DN [(29,[2030,1031,1032]),(31,[1029,1030,1032])] (by kernel_rfl) rfl ⟨⟨_,rfl,?_⟩,⟨_,rfl,?_⟩,trivial⟩
   ·
    obtain⟨xs,bd,I⟩:=bL.open (I.pick (bL B.core.lb B.core.lo B.core.cL s.k.ls));have b9:xs.length=s.k.ls.length:=by rw[← bd,gb]
    rw[← b9]at E;refine RH 0 E I hH hC λa E=>?_;refine j3 0 E I (Ca (xs:=xs) (b:=B.gs) (r:=0) (to:=aG s.k) (by decide) I fE (by omega) (by omega) (by rw[bd];exact hw.wc.nF) gX (λw' di=>U.pj di) (λw' di=>hT.gE di)) λga gm X a w E ⟨⟨tV,iA⟩,I⟩=>?_;replace hC:=hH.at w ⟨I.ai (b:=B.pb),I.ai (b:=B.core.cb)⟩;have m2:=iA rfl;subst m2;rw[xv,bd]at I;rw[bd]at E;have jD:(dv B.gs s.k.ls (aG s.k)).length=aG s.k-aU s.k.ls:=xf _ _ _;have m5:∀ b∈dv B.gs s.k.ls (aG s.k),b.length≤1099511627776:=λb hb=>by
     rw[dv,cR]at hb;obtain⟨i,_,rfl⟩:=hb;rw[nD,jk,a8];omega
    obtain⟨ys,g5,jh,I⟩:=cg.open I;refine RH 0 E I hH hC λa E=>?_;refine DN [(30,[1031,1032]),(31,[1030,1032])] (by kernel_rfl) rfl ⟨⟨_,rfl,?_⟩,⟨_,rfl,?_⟩,trivial⟩
    ·
     refine RH 0 E I hH hC λa E=>?_;refine CL 0 E I (zC (P:=dv B.gs s.k.ls (aG s.k)) (zs:=ys) (fr:=aw s.k) (I.pick (aA W p B.aq B.cO)) jD a6 aH (hw.qf a6) ⟨by omega,m5⟩ g5 (by omega) (λw' di=>U.mJ (di.sub (M:=Sl 22 1 ga (aG s.k-aU s.k.ls) gm (ys.map aM)::ah ba ys::[])))) λa w E ⟨p8,I⟩=>?_;refine RN 0 E I λa E=>?_;refine eZ E rfl I Ty.t49 rfl λb4 a w E I ho=>?_;clear ho;replace hC:=hH.at w ⟨I.ai (b:=B.pb),I.ai (b:=B.core.cb)⟩;refine RH 0 E I hH hC λa E=>?_;refine SA 0 E I λa w E I=>?_;refine RN 0 E I λa E=>?_;replace I:=bL.close (I.sub (M:=Sl 65 1 (some ⟨B.core.lb,B.core.lo,none⟩) s.k.ls.length B.core.cL (xs.map aM)::ah ba xs::aa b4 49 (ints .i32 32 (foldI p (aw s.k) s.g (dv B.gs s.k.ls (aG s.k))))::aa B.pb 51 (eX p B s.g)::aA W p B.aq B.cO::aa B.core.cb 72 (cX s.k B.core A)::aa B.core.hb 3 (fb s.k.ps)::aa B.core.dZ 3 (eW s.k.ps)::aa B.core.wb 313 (rows fe s.k.ps)::aa B.core.xb 4 (fc s.k.ps)::Sl 100 1 A.cj s.k.mr.length A.cM (c4 s.k.mr)::Sl 102 3 A.adE s.k.ev.length A.cE (rows bW s.k.ev)::L)) bd;replace I:=a1.fold I B.core s.k A;refine aV 1 (λw0 w'=>Rd w' b4 0 (ints .i32 32 (foldI p (aw s.k) s.g (dv B.gs s.k.ls (aG s.k))))∧Rd w' B.pb 0 (eX p B s.g)) [1,5] [2,3,4,3000,3005,1001,1006,7,8] E I λa w E I hH=>?_;have hC:=hH.at w ⟨I.ai (b:=b4),I.ai (b:=B.pb)⟩;refine RH 3 E I hH hC λa E=>?_;refine QH E (λw hc=>bT E underlying49 rfl Ty.t49 (hc.1)) hC λa E=>?_;refine QH E (λw hc=>ae E (hc.2 0 _ rfl)) hC λa E=>?_;refine RH 0 E I hH hC λa E=>?_;refine aZ 0 E I (vb I) λad2 c2 a w E I=>?_;replace hC:=hH.at w ⟨I.ai (b:=b4),I.ai (b:=B.pb)⟩;refine RH 0 E I hH hC λa E=>?_;refine CL 0 E I (sD (I.pick (a1 B.core s.k)) hw.wc) λa w E I=>?_;refine RN 2 E I λa E=>?_;refine RT 0 E I ?_;refine⟨ad2,c2,?_,?_⟩
     ·rw[fD,ag (by omega)]
     ·rw[fD,ag (by omega)];exact (bZ.fold I B p s).sub (M:=Sl 5 1 ad2 128 c2 (bc (gx (foldI p (aw s.k) s.g (dv B.gs s.k.ls (aG s.k)))))::bZ W B p s::L)
    refine RH 0 E I hH hC λa E=>?_;refine eZ E rfl I Ty.t49 rfl λb4 a w E I ho=>?_;clear ho;replace hC:=hH.at w ⟨I.ai (b:=B.pb),I.ai (b:=B.core.cb)⟩;refine RH 0 E I hH hC λa E=>?_;refine CL 0 E I (zC (P:=dv B.gs s.k.ls (aG s.k)) (zs:=ys) (fr:=aw s.k) (I.pick (aA W p B.aq B.cO)) jD a6 aH (hw.qf a6) ⟨by omega,m5⟩ g5 (by omega) (λw' di=>U.mJ (di.sub (M:=Sl 22 1 ga (aG s.k-aU s.k.ls) gm (ys.map aM)::ah ba ys::[])))) λa w E ⟨p8,I⟩=>?_;refine SA 0 E I λa w E I=>?_;refine RN 0 E I λa E=>?_;replace I:=bL.close (I.sub (M:=Sl 65 1 (some ⟨B.core.lb,B.core.lo,none⟩) s.k.ls.length B.core.cL (xs.map aM)::ah ba xs::aa b4 49 (ints .i32 32 (foldI p (aw s.k) s.g (dv B.gs s.k.ls (aG s.k))))::aa B.pb 51 (eX p B s.g)::aA W p B.aq B.cO::aa B.core.cb 72 (cX s.k B.core A)::aa B.core.hb 3 (fb s.k.ps)::aa B.core.dZ 3 (eW s.k.ps)::aa B.core.wb 313 (rows fe s.k.ps)::aa B.core.xb 4 (fc s.k.ps)::Sl 100 1 A.cj s.k.mr.length A.cM (c4 s.k.mr)::Sl 102 3 A.adE s.k.ev.length A.cE (rows bW s.k.ev)::L)) bd;replace I:=a1.fold I B.core s.k A;refine aV 1 (λw0 w'=>Rd w' b4 0 (ints .i32 32 (foldI p (aw s.k) s.g (dv B.gs s.k.ls (aG s.k))))∧Rd w' B.pb 0 (eX p B s.g)) [1,5] [2,3,4,3000,3005,1001,1006,7,8] E I λa w E I hH=>?_;have hC:=hH.at w ⟨I.ai (b:=b4),I.ai (b:=B.pb)⟩;refine RH 3 E I hH hC λa E=>?_;refine QH E (λw hc=>bT E underlying49 rfl Ty.t49 (hc.1)) hC λa E=>?_;refine QH E (λw hc=>ae E (hc.2 0 _ rfl)) hC λa E=>?_;refine RH 0 E I hH hC λa E=>?_;refine aZ 0 E I (vb I) λad2 c2 a w E I=>?_;replace hC:=hH.at w ⟨I.ai (b:=b4),I.ai (b:=B.pb)⟩;refine RH 0 E I hH hC λa E=>?_;refine CL 0 E I (sD (I.pick (a1 B.core s.k)) hw.wc) λa w E I=>?_;refine RN 2 E I λa E=>?_;refine RT 0 E I ?_;refine⟨ad2,c2,?_,?_⟩
    ·rw[fD,ag (by omega)]
    ·rw[fD,ag (by omega)];exact (bZ.fold I B p s).sub (M:=Sl 5 1 ad2 128 c2 (bc (gx (foldI p (aw s.k) s.g (dv B.gs s.k.ls (aG s.k)))))::bZ W B p s::L)
   refine RH 0 E I hH hC λa E=>?_;refine eZ E rfl I Ty.t49 rfl λb4 a w E I ho=>?_;clear ho;replace hC:=hH.at w ⟨I.ai (b:=B.pb),I.ai (b:=B.core.cb)⟩;obtain⟨xs,bd,I⟩:=bL.open (I.pick (bL B.core.lb B.core.lo B.core.cL s.k.ls));have b9:xs.length=s.k.ls.length:=by rw[← bd,gb]
   rw[← b9]at E;refine RH 0 E I hH hC λa E=>?_;refine j3 0 E I (Ca (xs:=xs) (b:=B.gs) (r:=0) (to:=aG s.k) (by decide) I fE (by omega) (by omega) (by rw[bd];exact hw.wc.nF) gX (λw' di=>U.pj di) (λw' di=>hT.gE di)) λga gm X a w E ⟨⟨tV,iA⟩,I⟩=>?_;replace hC:=hH.at w ⟨I.ai (b:=B.pb),I.ai (b:=B.core.cb)⟩;have m2:=iA rfl;subst m2;rw[xv,bd]at I;rw[bd]at E;have jD:(dv B.gs s.k.ls (aG s.k)).length=aG s.k-aU s.k.ls:=xf _ _ _;have m5:∀ b∈dv B.gs s.k.ls (aG s.k),b.length≤1099511627776:=λb hb=>by
    rw[dv,cR]at hb;obtain⟨i,_,rfl⟩:=hb;rw[nD,jk,a8];omega
   obtain⟨ys,g5,jh,I⟩:=cg.open I;refine RH 0 E I hH hC λa E=>?_;refine CL 0 E I (zC (P:=dv B.gs s.k.ls (aG s.k)) (zs:=ys) (fr:=aw s.k) (I.pick (aA W p B.aq B.cO)) jD a6 aH (hw.qf a6) ⟨by omega,m5⟩ g5 (by omega) (λw' di=>U.mJ (di.sub (M:=Sl 22 1 ga (aG s.k-aU s.k.ls) gm (ys.map aM)::ah ba ys::[])))) λa w E ⟨p8,I⟩=>?_;refine SA 0 E I λa w E I=>?_;refine RN 0 E I λa E=>?_;replace I:=bL.close (I.sub (M:=Sl 65 1 (some ⟨B.core.lb,B.core.lo,none⟩) s.k.ls.length B.core.cL (xs.map aM)::ah ba xs::aa b4 49 (ints .i32 32 (foldI p (aw s.k) s.g (dv B.gs s.k.ls (aG s.k))))::aa B.pb 51 (eX p B s.g)::aA W p B.aq B.cO::aa B.core.cb 72 (cX s.k B.core A)::aa B.core.hb 3 (fb s.k.ps)::aa B.core.dZ 3 (eW s.k.ps)::aa B.core.wb 313 (rows fe s.k.ps)::aa B.core.xb 4 (fc s.k.ps)::Sl 100 1 A.cj s.k.mr.length A.cM (c4 s.k.mr)::Sl 102 3 A.adE s.k.ev.length A.cE (rows bW s.k.ev)::L)) bd;replace I:=a1.fold I B.core s.k A;refine aV 1 (λw0 w'=>Rd w' b4 0 (ints .i32 32 (foldI p (aw s.k) s.g (dv B.gs s.k.ls (aG s.k))))∧Rd w' B.pb 0 (eX p B s.g)) [1,5] [2,3,4,3000,3005,1001,1006,7,8] E I λa w E I hH=>?_;have hC:=hH.at w ⟨I.ai (b:=b4),I.ai (b:=B.pb)⟩;refine RH 3 E I hH hC λa E=>?_;refine QH E (λw hc=>bT E underlying49 rfl Ty.t49 (hc.1)) hC λa E=>?_;refine QH E (λw hc=>ae E (hc.2 0 _ rfl)) hC λa E=>?_;refine RH 0 E I hH hC λa E=>?_;refine aZ 0 E I (vb I) λad2 c2 a w E I=>?_;replace hC:=hH.at w ⟨I.ai (b:=b4),I.ai (b:=B.pb)⟩;refine RH 0 E I hH hC λa E=>?_;refine CL 0 E I (sD (I.pick (a1 B.core s.k)) hw.wc) λa w E I=>?_;refine RN 2 E I λa E=>?_;refine RT 0 E I ?_;refine⟨ad2,c2,?_,?_⟩
   ·rw[fD,ag (by omega)]
   ·rw[fD,ag (by omega)];exact (bZ.fold I B p s).sub (M:=Sl 5 1 ad2 128 c2 (bc (gx (foldI p (aw s.k) s.g (dv B.gs s.k.ls (aG s.k)))))::bZ W B p s::L)
  refine RH 0 E I hH hC λa E=>?_;refine eZ E rfl I Ty.t49 rfl λb4 a w E I ho=>?_;clear ho;replace hC:=hH.at w ⟨I.ai (b:=B.pb),I.ai (b:=B.core.cb)⟩;refine RH 0 E I hH hC λa E=>?_;refine CL 0 E I (Hg ((I.pick (aa B.core.cb 72 (cX s.k B.core A))).pick (bL B.core.lb B.core.lo B.core.cL s.k.ls)) hw.wc) λa w E I=>?_;replace hC:=hH.at w ⟨I.ai (b:=B.pb),I.ai (b:=B.core.cb)⟩;obtain⟨xs,bd,I⟩:=bL.open (I.pick (bL B.core.lb B.core.lo B.core.cL s.k.ls));have b9:xs.length=s.k.ls.length:=by rw[← bd,gb]
  rw[← b9]at E;refine RH 0 E I hH hC λa E=>?_;refine j3 0 E I (Ca (xs:=xs) (b:=B.gs) (r:=0) (to:=aG s.k) (by decide) I fE (by omega) (by omega) (by rw[bd];exact hw.wc.nF) gX (λw' di=>U.pj di) (λw' di=>hT.gE di)) λga gm X a w E ⟨⟨tV,iA⟩,I⟩=>?_;replace hC:=hH.at w ⟨I.ai (b:=B.pb),I.ai (b:=B.core.cb)⟩;have m2:=iA rfl;subst m2;rw[xv,bd]at I;rw[bd]at E;have jD:(dv B.gs s.k.ls (aG s.k)).length=aG s.k-aU s.k.ls:=xf _ _ _;have m5:∀ b∈dv B.gs s.k.ls (aG s.k),b.length≤1099511627776:=λb hb=>by
   rw[dv,cR]at hb;obtain⟨i,_,rfl⟩:=hb;rw[nD,jk,a8];omega
  obtain⟨ys,g5,jh,I⟩:=cg.open I;refine RH 0 E I hH hC λa E=>?_;refine CL 0 E I (zC (P:=dv B.gs s.k.ls (aG s.k)) (zs:=ys) (fr:=aw s.k) (I.pick (aA W p B.aq B.cO)) jD a6 aH (hw.qf a6) ⟨by omega,m5⟩ g5 (by omega) (λw' di=>U.mJ (di.sub (M:=Sl 22 1 ga (aG s.k-aU s.k.ls) gm (ys.map aM)::ah ba ys::[])))) λa w E ⟨p8,I⟩=>?_;refine SA 0 E I λa w E I=>?_;refine RN 0 E I λa E=>?_;replace I:=bL.close (I.sub (M:=Sl 65 1 (some ⟨B.core.lb,B.core.lo,none⟩) s.k.ls.length B.core.cL (xs.map aM)::ah ba xs::aa b4 49 (ints .i32 32 (foldI p (aw s.k) s.g (dv B.gs s.k.ls (aG s.k))))::aa B.pb 51 (eX p B s.g)::aA W p B.aq B.cO::aa B.core.cb 72 (cX s.k B.core A)::aa B.core.hb 3 (fb s.k.ps)::aa B.core.dZ 3 (eW s.k.ps)::aa B.core.wb 313 (rows fe s.k.ps)::aa B.core.xb 4 (fc s.k.ps)::Sl 100 1 A.cj s.k.mr.length A.cM (c4 s.k.mr)::Sl 102 3 A.adE s.k.ev.length A.cE (rows bW s.k.ev)::L)) bd;replace I:=a1.fold I B.core s.k A;refine aV 1 (λw0 w'=>Rd w' b4 0 (ints .i32 32 (foldI p (aw s.k) s.g (dv B.gs s.k.ls (aG s.k))))∧Rd w' B.pb 0 (eX p B s.g)) [1,5] [2,3,4,3000,3005,1001,1006,7,8] E I λa w E I hH=>?_;have hC:=hH.at w ⟨I.ai (b:=b4),I.ai (b:=B.pb)⟩;refine RH 3 E I hH hC λa E=>?_;refine QH E (λw hc=>bT E underlying49 rfl Ty.t49 (hc.1)) hC λa E=>?_;refine QH E (λw hc=>ae E (hc.2 0 _ rfl)) hC λa E=>?_;refine RH 0 E I hH hC λa E=>?_;refine aZ 0 E I (vb I) λad2 c2 a w E I=>?_;replace hC:=hH.at w ⟨I.ai (b:=b4),I.ai (b:=B.pb)⟩;refine RH 0 E I hH hC λa E=>?_;refine CL 0 E I (sD (I.pick (a1 B.core s.k)) hw.wc) λa w E I=>?_;refine RN 2 E I λa E=>?_;refine RT 0 E I ?_;refine⟨ad2,c2,?_,?_⟩
  ·rw[fD,ag (by omega)]
  ·rw[fD,ag (by omega)];exact (bZ.fold I B p s).sub (M:=Sl 5 1 ad2 128 c2 (bc (gx (foldI p (aw s.k) s.g (dv B.gs s.k.ls (aG s.k)))))::bZ W B p s::L)
 refine RH 0 E I hH hC λa E=>?_;refine eZ E rfl I Ty.t49 rfl λb4 a w E I ho=>?_;clear ho;replace hC:=hH.at w ⟨I.ai (b:=B.pb),I.ai (b:=B.core.cb)⟩;refine RH 0 E I hH hC λa E=>?_;refine CL 0 E I (He ((I.pick (aa B.core.cb 72 (cX s.k B.core A))).pick (bL B.core.lb B.core.lo B.core.cL s.k.ls)) hw.wc) λa w E I=>?_;replace hC:=hH.at w ⟨I.ai (b:=B.pb),I.ai (b:=B.core.cb)⟩;refine RH 0 E I hH hC λa E=>?_;refine CL 0 E I (Hg ((I.pick (aa B.core.cb 72 (cX s.k B.core A))).pick (bL B.core.lb B.core.lo B.core.cL s.k.ls)) hw.wc) λa w E I=>?_;replace hC:=hH.at w ⟨I.ai (b:=B.pb),I.ai (b:=B.core.cb)⟩;obtain⟨xs,bd,I⟩:=bL.open (I.pick (bL B.core.lb B.core.lo B.core.cL s.k.ls));have b9:xs.length=s.k.ls.length:=by rw[← bd,gb]
 rw[← b9]at E;refine RH 0 E I hH hC λa E=>?_;refine j3 0 E I (Ca (xs:=xs) (b:=B.gs) (r:=0) (to:=aG s.k) (by decide) I fE (by omega) (by omega) (by rw[bd];exact hw.wc.nF) gX (λw' di=>U.pj di) (λw' di=>hT.gE di)) λga gm X a w E ⟨⟨tV,iA⟩,I⟩=>?_;replace hC:=hH.at w ⟨I.ai (b:=B.pb),I.ai (b:=B.core.cb)⟩;have m2:=iA rfl;subst m2;rw[xv,bd]at I;rw[bd]at E;have jD:(dv B.gs s.k.ls (aG s.k)).length=aG s.k-aU s.k.ls:=xf _ _ _;have m5:∀ b∈dv B.gs s.k.ls (aG s.k),b.length≤1099511627776:=λb hb=>by
  rw[dv,cR]at hb;obtain⟨i,_,rfl⟩:=hb;rw[nD,jk,a8];omega
 obtain⟨ys,g5,jh,I⟩:=cg.open I;refine RH 0 E I hH hC λa E=>?_;refine CL 0 E I (zC (P:=dv B.gs s.k.ls (aG s.k)) (zs:=ys) (fr:=aw s.k) (I.pick (aA W p B.aq B.cO)) jD a6 aH (hw.qf a6) ⟨by omega,m5⟩ g5 (by omega) (λw' di=>U.mJ (di.sub (M:=Sl 22 1 ga (aG s.k-aU s.k.ls) gm (ys.map aM)::ah ba ys::[])))) λa w E ⟨p8,I⟩=>?_;refine SA 0 E I λa w E I=>?_;refine RN 0 E I λa E=>?_;replace I:=bL.close (I.sub (M:=Sl 65 1 (some ⟨B.core.lb,B.core.lo,none⟩) s.k.ls.length B.core.cL (xs.map aM)::ah ba xs::aa b4 49 (ints .i32 32 (foldI p (aw s.k) s.g (dv B.gs s.k.ls (aG s.k))))::aa B.pb 51 (eX p B s.g)::aA W p B.aq B.cO::aa B.core.cb 72 (cX s.k B.core A)::aa B.core.hb 3 (fb s.k.ps)::aa B.core.dZ 3 (eW s.k.ps)::aa B.core.wb 313 (rows fe s.k.ps)::aa B.core.xb 4 (fc s.k.ps)::Sl 100 1 A.cj s.k.mr.length A.cM (c4 s.k.mr)::Sl 102 3 A.adE s.k.ev.length A.cE (rows bW s.k.ev)::L)) bd;replace I:=a1.fold I B.core s.k A;refine aV 1 (λw0 w'=>Rd w' b4 0 (ints .i32 32 (foldI p (aw s.k) s.g (dv B.gs s.k.ls (aG s.k))))∧Rd w' B.pb 0 (eX p B s.g)) [1,5] [2,3,4,3000,3005,1001,1006,7,8] E I λa w E I hH=>?_;have hC:=hH.at w ⟨I.ai (b:=b4),I.ai (b:=B.pb)⟩;refine RH 3 E I hH hC λa E=>?_;refine QH E (λw hc=>bT E underlying49 rfl Ty.t49 (hc.1)) hC λa E=>?_;refine QH E (λw hc=>ae E (hc.2 0 _ rfl)) hC λa E=>?_;refine RH 0 E I hH hC λa E=>?_;refine aZ 0 E I (vb I) λad2 c2 a w E I=>?_;replace hC:=hH.at w ⟨I.ai (b:=b4),I.ai (b:=B.pb)⟩;refine RH 0 E I hH hC λa E=>?_;refine CL 0 E I (sD (I.pick (a1 B.core s.k)) hw.wc) λa w E I=>?_;refine RN 2 E I λa E=>?_;refine RT 0 E I ?_;refine⟨ad2,c2,?_,?_⟩
 ·rw[fD,ag (by omega)]
 ·rw[fD,ag (by omega)];exact (bZ.fold I B p s).sub (M:=Sl 5 1 ad2 128 c2 (bc (gx (foldI p (aw s.k) s.g (dv B.gs s.k.ls (aG s.k)))))::bZ W B p s::L)
theorem abM {n me aL bq:Nat}{id bf order cv workers room:Int}(I:U W w (aA W p adP cP::L))(hm:eV ⟨n,me,id,aL,bq,bf,order,cv,workers,room⟩)(a6:dm p)(aH:p.title.size≤1000000000) :
   Calls prog 46 #[.agg (bV ⟨n,me,id,aL,bq,bf,order,cv,workers,room⟩).toArray,.agg (bO p adP cP).toArray,.slice adT tb.length cT] w λr w'=>∃ B:gd,r=.returned (pt B.pb)∧(B.gs=⟨bf,order,tb⟩∧B.adT=adT)∧U W w' (bZ W B p (eD p ⟨n,me,id,aL,bq,bf,order,cv,workers,room⟩)::L):=by
 refine EN func46 ntmps46 rfl rfl λa E=>?_;refine BX 1 E I λb3 a w E I=>?_;change U W w (aa b3 28 (bV ⟨n,me,id,aL,bq,bf,order,cv,workers,room⟩)::_) at I;refine BX 0 E I λb4 a w E I=>?_;change U W w (aa b4 45 [.string p.title,.slice adP p.ops.length cP]::_) at I;refine aV 2 (λw0 w'=>Rd w' b3 0 (bV ⟨n,me,id,aL,bq,bf,order,cv,workers,room⟩)∧Rd w' b4 0 [.string p.title,.slice adP p.ops.length cP]) [1,2,4,6,8] [3,5,7,3000,3002,3004,3006,3008,1001,9,1010,11] E I λa w E I hH=>?_;have hC:=hH.at w ⟨I.ai (b:=b3),I.ai (b:=b4)⟩;refine RH 3 E I hH hC λa E=>?_;refine QH E (λw hc=>bT E underlying28 rfl Ty.t28 (hc.1)) hC λa E=>?_;refine QH E (λw hc=>bT E underlying45 rfl Ty.t45 (hc.2)) hC λa E=>?_;refine QH E (λw hc=>ae E (hc.1 5 _ rfl)) hC λa E=>?_;refine QH E (λw hc=>ae E (hc.1 6 _ rfl)) hC λa E=>?_;refine RH 1 E I hH hC λa E=>?_;refine bh 0 E I (abv I hm) λBc a w E I=>?_;replace hC:=hH.at w ⟨I.ai (b:=b3),I.ai (b:=b4)⟩;refine RH 1 E I hH hC λa E=>?_;refine xW E rfl I rfl λtA a w E I ho=>?_;clear ho;change U W w (aa tA 51 (eX p ⟨tA,Bc,adP,cP,adT,cT,⟨bf,order,tb⟩⟩ o8)::_) at I;refine RN 1 E I λa E=>?_;replace I:=bZ.fold I ⟨tA,Bc,adP,cP,adT,cT,⟨bf,order,tb⟩⟩ p ⟨fl ⟨n,me,id,aL,bq,bf,order,cv,workers,room⟩,o8⟩;refine CL 2 E I (Hf I (xn hm) a6 aH) λa w E I=>?_;refine RT 3 E I ?_;have h9:U W w (bZ W ⟨tA,Bc,adP,cP,adT,cT,⟨bf,order,tb⟩⟩ p (eD p ⟨n,me,id,aL,bq,bf,order,cv,workers,room⟩)::_):=I;exact⟨⟨tA,Bc,adP,cP,adT,cT,⟨bf,order,tb⟩⟩,rfl,⟨rfl,rfl⟩,h9.sub⟩
end
end
section
section
variable {W w:World}{L:List SP}{e:ko}
theorem abN (I:U W w L):Calls prog 79 #[.agg (bW e).toArray,.agg (bW e).toArray] w λr w'=>r=.returned (.bool true)∧U W w' L:=by
 refine EN func79 ntmps79 rfl rfl λa E=>?_;refine BX 1 E I λb2 a w E I=>?_;change U W w (aa b2 102 [.int .i64 e.1,.int .i64 e.2.1,.int .i64 e.2.2]::_) at I;refine BX 0 E I λb3 a w E I=>?_;change U W w (aa b3 102 [.int .i64 e.1,.int .i64 e.2.1,.int .i64 e.2.2]::_) at I;refine RN 8 E I λa E=>?_;rw[dk (by omega)]at E;refine RN 7 E I λa E=>?_;rw[dk (by omega)]at E;refine RT 7 E I ?_;exact⟨by simp,I.sub⟩
end
end
section
theorem N2 {k:Ks}(h:WC k):(br k).1.length≤1000:=by
 have hn:=h.n;have hl:∀ k:Ks,(bH k).length≤k.n:=λk=>by
  rw[bH];exact fG (pR _ _) (by rw[length_range];exact a7 _)
 unfold br;split
 ·simp
 ·simp only;split
  ·simp
  ·rw[a8];have:=hl { k with now:=k.now+1 };have h2:({ k with now:=k.now+1 }:Ks).n=k.n:=rfl;omega
theorem N3 {k:Ks}(h:WC k):(cy k).1.length≤1000:=by
 have hn:=h.n;unfold cy;split
 ·simp
 ·rw[a8,bH];have h2:=pR (λi=>decide (i≠k.me)) (List.range k.n);rw[length_range]at h2;show ((List.range k.n).filter (·≠k.me)).length≤1000;omega
theorem abO (p:Pr)(x:UInt8){s:Pl}(h:ct p s):(dK p x s).2.k.now=s.k.now:=by
 have he:=vh x s.k;have h1:=(Me (h.toWP.more (h.wc.al x) (h.held.al x) he.1 he.2)).2.2.2.2.2.1;rw[dK,h1];show (c3 x s.k).2.now=_;by_cases h0:(c3 x s.k).1=0
 ·obtain⟨_,_,_,h4⟩:=vf h0;rw[h4]
 ·rw[vg h0]
theorem abP (k:Ks)(q:Pk):(fZ k q).now=k.now:=by
 unfold fZ;split
 ·rfl
 ·obtain⟨ps,ev,h9,_⟩:=xh { k with ls:=k.ls.set q.aW.toNat (du (k.ls.getD q.aW.toNat []) q.first.toNat q.al),ps:=k.ps.set q.aW.toNat (fY k.now (aG k) q (au k q.aW.toNat)) };rw[h9]
theorem abQ (p:Pr)(bs:List UInt8){s:Pl}(h:ct p s):(dB p bs s).2.k.now=s.k.now:=by
 have he:=so bs s.k;have h1:=(Me (h.toWP.more (h.wc.recv bs).1 ((h.wc.recv bs).2 h.held) he.1 he.2)).2.2.2.2.2.1;rw[dB,h1];show (dp bs s.k).2.now=_;by_cases h0:(dp bs s.k).1=0
 ·obtain⟨q,_,_,_,_,_,h6⟩:=BL h0;rw[h6,abP]
 ·rw[xj h0]
theorem abR (k:Ks):(br k).2.now≤k.now+1:=by
 rcases xm k with h1 | ⟨hc,h1 | ⟨i,hi,h1⟩⟩ <;> rw[h1]
 ·exact gY _
 ·exact a7 _
 ·exact a7 _
theorem abS (k:Ks):(cy k).2.now=k.now:=by
 unfold cy;split <;> rfl
structure Cp (W:World)(t:TypeId)(ad:Addr)(vu vv vw vx vy vz vA vB:FuncId)(p:Pr)(gs:Gs)(J:Nat→Pl→SP):Prop where
 Hh : pJ prog t "Press" vu
 cP:hQ prog vu=true
 Hi : pJ prog t "Receive" vv
 Hj:hQ prog vv=true
 Hk : pJ prog t "Tick" vw
 cT:hQ prog vw=true
 Hl : pJ prog t "Quit" vx
 Hm:hQ prog vx=true
 Hn : pJ prog t "Events" vy
 cE:hQ prog vy=true
 Cq : pJ prog t "Confirmed" vz
 Cr:hQ prog vz=true
 Ho : pJ prog t "Display" vA
 Hq:hQ prog vA=true
 Hr : pJ prog t "Closed" vB
 Hs:hQ prog vB=true
 al:∀ (w:World) (L:List SP) (i:Nat) (s:Pl) (x:UInt8),i≤1000000→ct p s→U W w (J i s::L)→Calls prog vu (List.toArray [.pointer (some ad),.int .u8 (x.toNat:Nat)]) w λr w'=>r=.returned (.int .i64 (dK p x s).1)∧U W w' (J (i+1) (dK p x s).2::L)
 recv:∀ (w:World) (L:List SP) (i:Nat) (s:Pl) (bs:List UInt8) (a:Option Addr) (c:Nat),i≤1000000→ct p s→bs.length≤65536→bs.length≤c→(∀ w',U W w' L→aX w' a bs.length bs)→U W w (J i s::L)→Calls prog vv (List.toArray [.pointer (some ad),.slice a bs.length c]) w λr w'=>r=.returned (.int .i64 (dB p bs s).1)∧U W w' (J (i+1) (dB p bs s).2::L)
 tick:∀ (w:World) (L:List SP) (i:Nat) (s:Pl),i≤1000000→ct p s→s.k.now≤1000000→U W w (J i s::L)→Calls prog vw (List.toArray [.pointer (some ad)]) w λr w'=>∃ a c,r=.returned (.slice a (br s.k).1.length c)∧U W w' (cd 124 a (br s.k).1.length c (br s.k).1::J (i+1) ⟨(br s.k).2,s.g⟩::L)
 o7:∀ (w:World) (L:List SP) (i:Nat) (s:Pl),i≤1000000→ct p s→U W w (J i s::L)→Calls prog vx (List.toArray [.pointer (some ad)]) w λr w'=>∃ a c,r=.returned (.slice a (cy s.k).1.length c)∧U W w' (cd 124 a (cy s.k).1.length c (cy s.k).1::J (i+1) ⟨(cy s.k).2,s.g⟩::L)
 events:∀ (w:World) (L:List SP) (i:Nat) (s:Pl),i≤1000000→ct p s→U W w (J i s::L)→Calls prog vy (List.toArray [.pointer (some ad)]) w λr w'=>∃ a c,r=.returned (.slice a s.k.ev.length c)∧U W w' (Sl 135 1 a s.k.ev.length c (s.k.ev.map cB)::J (i+1) ⟨{ s.k with ev:=[] },s.g⟩::L)
 Cs:∀ (w:World) (L:List SP) (i:Nat) (s:Pl),i≤1000000→ct p s→U W w (J i s::L)→Calls prog vz (List.toArray [.pointer (some ad)]) w λr w'=>∃ a c,r=.returned (.tuple #[.slice a 128 c,.int .i64 (l4 s).2])∧U W w' (Sl 5 1 a 128 c (bc (l4 s).1)::J i s::L)
 Ht:∀ (w:World) (L:List SP) (i:Nat) (s:Pl),i≤1000000→ct p s→U W w (J i s::L)→Calls prog vA (List.toArray [.pointer (some ad)]) w λr w'=>∃ a c,r=.returned (.tuple #[.slice a 128 c,.int .i64 (fD p gs s).2])∧U W w' (Sl 5 1 a 128 c (bc (fD p gs s).1)::J i s::L)
 closed:∀ (w:World) (L:List SP) (i:Nat) (s:Pl),i≤1000000→ct p s→U W w (J i s::L)→Calls prog vB (List.toArray [.pointer (some ad)]) w λr w'=>r=.returned (.bool s.k.cl)∧U W w' (J i s::L)
section
variable {W w:World}{L:List SP}{i:Nat}{t:TypeId}{ad:Addr}{vu vv vw vx vy vz vA vB:FuncId}{p:Pr}{gs:Gs}{J:Nat→Pl→SP}{B:gd}{s:Pl}{b:Bool}
theorem abT (M:Cp W t ad vu vv vw vx vy vz vA vB p gs J)(hi:i≤1000000)(I:U W w (J i s::bZ W B p s::L))(hw:ct p s)(a6:dm p)(aH:p.title.size≤1000000000)(fE:cY B.gs)(hbg:B.gs=gs)(hT:aX W B.adT B.gs.table.length B.gs.table) :
   Calls prog 53 #[.iface t (.pointer (some ad)),pt B.pb] w λe w'=>e=.returned (.bool true)∧U W w' (J i s::bZ W B p s::L):=by
 subst hbg;refine EN func53 ntmps53 rfl rfl λa E=>?_;refine RN 4 E I λa E=>?_;refine jP E rfl M.Cq M.Cr rfl (M.Cs _ _ i s hi hw I) (by rfl) ?_;clear E I;rintro e w ⟨c0,et,rfl,I⟩;refine⟨_,rfl,λa E=>?_⟩;refine aZ 7 E I (N1 (I.pick (bZ W B p s)) hw) λcU c2 a w E I=>?_;refine RN 7 E I λa E=>?_;refine jP E rfl M.Ho M.Hq rfl (M.Ht _ _ i s hi hw (I.pick (J i s))) (by rfl) ?_;clear E I;rintro e w ⟨a3,dJ,rfl,I⟩;refine⟨_,rfl,λa E=>?_⟩;refine aZ 7 E I (abL (I.pick (bZ W B p s)) hw a6 aH fE hT) λa4 hX a w E I=>?_;refine RN 5 E I λa E=>?_;have cn:(l4 s).1.length=128:=u5 _;have mT:(fD p B.gs s).1.length=128:=by
  rw[fD];split
  ·exact u5 _
  ·exact u5 _
 replace I:=I.sub (M:=Sl 5 1 a4 128 hX (bc (fD p B.gs s).1)::Sl 5 1 a3 128 dJ (bc (fD p B.gs s).1)::Sl 5 1 cU 128 c2 (bc (l4 s).1)::Sl 5 1 c0 128 et (bc (l4 s).1)::bZ W B p s::J i s::L);obtain⟨A,I⟩:∃ A,U W w (Sl 5 1 a4 128 hX (bc (fD p B.gs s).1)::Sl 5 1 a3 128 dJ (bc (fD p B.gs s).1)::Sl 5 1 cU 128 c2 (bc (l4 s).1)::Sl 5 1 c0 128 et (bc (l4 s).1)::aa B.core.cb 72 (cX s.k B.core A)::bL B.core.lb B.core.lo B.core.cL s.k.ls::aa B.core.hb 3 (fb s.k.ps)::aa B.core.dZ 3 (eW s.k.ps)::aa B.core.wb 313 (rows fe s.k.ps)::aa B.core.xb 4 (fc s.k.ps)::Sl 100 1 A.cj s.k.mr.length A.cM (c4 s.k.mr)::Sl 102 3 A.adE s.k.ev.length A.cE (rows bW s.k.ev)::aa B.pb 51 (eX p B s.g)::aA W p B.aq B.cO::J i s::L):=by
  obtain⟨A,h⟩:=a1.open ((bZ.open (I.pick (bZ W B p s))).pick (a1 B.core s.k));exact⟨A,h.sub⟩
 refine aV 1 (λw0 w'=>((aX w' c0 128 (l4 s).1∧aX w' cU 128 (l4 s).1)∧aX w' a3 128 (fD p B.gs s).1∧aX w' a4 128 (fD p B.gs s).1)∧Rd w' B.pb 0 (eX p B s.g)∧Rd w' B.core.cb 0 (cX s.k B.core A)) [7,19,24] [0,1,2,3,4,6,3005,1007,8,9,10,11,12,13,14,15,16,18,3017,1019,20,21,22,23,25,26,27,3028,29,30,3031,1024,32,33,34] E I λa w E I hH=>?_;have hC:=hH.at w ⟨⟨⟨I.cu c0 _ rfl cn,I.cu cU _ rfl cn⟩,I.cu a3 _ rfl mT,I.cu a4 _ rfl mT⟩,I.ai (b:=B.pb),I.ai (b:=B.core.cb)⟩;refine RH 4 E I hH hC λa E=>?_;rw[dk (by omega)]at E;refine RH 2 E I hH hC λa E=>?_;refine QH E (λw hc=>lL E underlying22 underlying5 underlying9 (hc.1.1.1)) hC λa E=>?_;refine RH 0 E I hH hC λa E=>?_;refine bw E (cw E rfl (s:=36)) (lL E underlying22 underlying5 underlying9 (hC.1.1.2)) rfl λa E=>?_;refine RH 0 E I hH hC λa E=>?_;refine QP E (λw=>sW E) λa E=>?_;rw[qI,beq_self_eq_true]at E;refine RH 2 E I hH hC λa E=>?_;replace E:=E.ed 43;refine RH 5 E I hH hC λa E=>?_;rw[dk (by omega)]at E;refine RH 2 E I hH hC λa E=>?_;refine QH E (λw hc=>lL E underlying22 underlying5 underlying9 (hc.1.2.1)) hC λa E=>?_;refine RH 0 E I hH hC λa E=>?_;refine bw E (cw E rfl (s:=48)) (lL E underlying22 underlying5 underlying9 (hC.1.2.2)) rfl λa E=>?_;refine RH 0 E I hH hC λa E=>?_;refine QP E (λw=>sW E) λa E=>?_;rw[qI,beq_self_eq_true]at E;refine RH 2 E I hH hC λa E=>?_;replace E:=E.ed 55;refine RH 4 E I hH hC λa E=>?_;refine QH E (λw hc=>ae E (hc.2.1 0 _ rfl)) hC λa E=>?_;refine RH 2 E I hH hC λa E=>?_;refine QH E (λw hc=>ae E (hc.2.2 18 _ rfl)) hC λa E=>?_;refine RH 0 E I hH hC λa E=>?_;refine jP E (cw E rfl (s:=55)) M.Hr M.Hs rfl (M.closed _ _ i s hi hw (I.pick (J i s))) (by rfl) ?_;clear E I;rintro e w ⟨rfl,I⟩;refine⟨_,rfl,λa E=>?_⟩;replace hC:=hH.at w ⟨⟨⟨I.cu c0 _ rfl cn,I.cu cU _ rfl cn⟩,I.cu a3 _ rfl mT,I.cu a4 _ rfl mT⟩,I.ai (b:=B.pb),I.ai (b:=B.core.cb)⟩;refine RH 3 E I hH hC λa E=>?_;refine RT 0 E I ?_;refine⟨by simp,?_⟩;exact (bZ.fold (a1.fold I B.core s.k A) B p s).sub (M:=J i s::bZ W B p s::L)
set_option maxHeartbeats 4000000 in
end
end
section
structure Wd where
 ps:List Pl
 net:List Ml
 ev:List (List ko)
structure fN where
 fn:Int
 a:Int
 b:Int
 n:Int
def Ct:Pl:=⟨fl ⟨0,0,0,0,0,0,0,0,0,0⟩,o8⟩
def an (v:Wd)(i:Nat):Pl:=v.ps.getD i Ct
def fm (b:Int):UInt8:=UInt8.ofNat (b%256).toNat
theorem N4 (b:Int):((fm b).toNat:Int)=b%256:=by
 have h1:=Int.emod_nonneg b (show (256:Int)≠0 by decide);have h2:=Int.emod_lt_of_pos b (show (0:Int)<256 by decide);rw[fm,UInt8.toNat_ofNat',kY (by omega)];omega
def pn (net:List Ml)(m:Ml):List Ml:=if net.length<300 then net++[m] else net
def eF (net l:List Ml):List Ml:=l.foldl pn net
theorem N5 (net:List Ml){l:List Ml}{i:Nat}(h:i<l.length):eF net (l.take (i+1))=pn (eF net (l.take i)) l[i]:=by
 rw[eF,← List.take_append_getElem h,foldl_append];rfl
theorem Hu:∀ {l net:List Ml} {m:Ml},m∈eF net l→m∈net∨m∈l
 | [],net,m,h=>.inl h
 | x::l,net,m,h=>by
  rcases Hu (l:=l) (net:=pn net x) h with h | h
  ·rw[pn]at h;split at h
   ·rcases eT.1 h with h | h
    ·exact .inl h
    ·exact .inr (by rw[iK.1 h];exact iJ)
   ·exact .inl h
  ·exact .inr (gF _ h)
theorem Hv:∀ {l net:List Ml},net.length≤300→(eF net l).length≤300
 | [],net,h=>h
 | x::l,net,h=>Hv (l:=l) (net:=pn net x) (by
  rw[pn];split
  ·rw[aJ,jF];omega
  ·exact h)
noncomputable def gO (p:Pr)(s:fN)(v:Wd):Int×Wd :=
 if s.n<0∨(v.net.length:Int)≤s.n then (3,v) else
 if s.fn=6 then (if s.a<0∨((v.net.getD s.n.toNat (0,0,[])).2.2.length:Int)≤s.a then (3,v) else
  (0,{ v with net:=v.net.set s.n.toNat ((v.net.getD s.n.toNat (0,0,[])).1,(v.net.getD s.n.toNat (0,0,[])).2.1,(v.net.getD s.n.toNat (0,0,[])).2.2.set s.a.toNat ((v.net.getD s.n.toNat (0,0,[])).2.2.getD s.a.toNat 0 ^^^ fm s.b)) }))
 else if s.fn=4 then (0,{ v with net:=v.net.eraseIdx s.n.toNat })
 else ((dB p (v.net.getD s.n.toNat (0,0,[])).2.2 (an v (v.net.getD s.n.toNat (0,0,[])).2.1)).1,
  { v with ps:=v.ps.set (v.net.getD s.n.toNat (0,0,[])).2.1 (dB p (v.net.getD s.n.toNat (0,0,[])).2.2 (an v (v.net.getD s.n.toNat (0,0,[])).2.1)).2,net:=if s.fn=5 then v.net else v.net.eraseIdx s.n.toNat })
def gC (p:Pr)(s:fN)(v:Wd):Int×Wd :=
 if s.a<0∨(v.ps.length:Int)≤s.a then (7,v) else
 if s.fn=1 then ((dK p (fm s.b) (an v s.a.toNat)).1,{ v with ps:=v.ps.set s.a.toNat (dK p (fm s.b) (an v s.a.toNat)).2 })
 else if s.fn=2 then (0,{ v with ps:=v.ps.set s.a.toNat ⟨(br (an v s.a.toNat).k).2,(an v s.a.toNat).g⟩,net:=eF v.net (br (an v s.a.toNat).k).1 })
 else if s.fn=8 then (0,{ v with ps:=v.ps.set s.a.toNat ⟨(cy (an v s.a.toNat).k).2,(an v s.a.toNat).g⟩,net:=eF v.net (cy (an v s.a.toNat).k).1 })
 else (0,v)
noncomputable def bu (p:Pr)(s:fN)(v:Wd):Int×Wd:=if s.fn<1∨8<s.fn then (1,v) else if 3≤s.fn∧s.fn≤6 then gO p s v else gC p s v
def Cu (i:Nat)(v:Wd):Wd:={ v with ps:=v.ps.set i ⟨{ (an v i).k with ev:=[] },(an v i).g⟩,ev:=v.ev.set i (v.ev.getD i []++(an v i).k.ev) }
def cz (v:Wd):Nat→Wd
 | 0=>v
 | i+1=>Cu i (cz v i)
def lz (v:Wd):Wd:=cz v v.ps.length
noncomputable def bS (p:Pr)(s:fN)(v:Wd):Wd:=if s.fn=7 then v else lz (bu p s v).2
structure bK (p:Pr)(cf:Cf)(c:Nat)(v:Wd):Prop where
 may:eV cf
 n:v.ps.length=cf.n.toNat
 ev:v.ev.length=v.ps.length
 pl:∀ i,i<v.ps.length→ct p (an v i)∧fk (an v i).k={ cf with me:=i }∧(an v i).k.now≤c
 net:v.net.length≤300∧∀ m∈v.net,m.2.1<v.ps.length∧m.2.2.length≤1000
 kT:∀ e∈v.ev,e.length≤9*c∧∀ x∈e,tM x
section
variable {p:Pr}{cf:Cf}{c i j:Nat}{v:Wd}{s:fN}{q:Pl}
theorem rj (h:i<v.ps.length)(net:List Ml)(ev:List (List ko)):an ⟨v.ps.set i q,net,ev⟩ j=if i=j then q else an v j:=by
 rw[an,an,bm,bm];show ((v.ps.set i q)[j]?).getD Ct=_;rw[jO];split
 ·rfl
 ·rfl
theorem bK.len (h:bK p cf c v):2≤v.ps.length∧v.ps.length≤8:=by
 have h1:=h.n;have h2:=h.may.1.1;unfold fB at h2;omega
theorem bK.put (h:bK p cf c v)(hi:i<v.ps.length)(hw:ct p q)(hc:fk q.k=fk (an v i).k)(hn:q.k.now≤c+1){net:List Ml}(hl:net.length≤300)(hm:∀ m∈net,m.2.1<v.ps.length∧m.2.2.length≤1000) :
   bK p cf (c+1) { v with ps:=v.ps.set i q,net:=net }:=by
 refine⟨h.may,by show (v.ps.set i q).length=_;rw[bt];exact h.n,by show v.ev.length=(v.ps.set i q).length;rw[bt];exact h.ev,λj hj=>?_,⟨hl,?_⟩,λe he=>⟨by have:=(h.kT e he).1;omega,(h.kT e he).2⟩⟩
 ·have lH:j<v.ps.length:=by have:j<(v.ps.set i q).length:=hj;rwa [bt]at this
  rw[rj (v:=v) hi];split
  ·rename_i e;subst e;exact⟨hw,hc.trans (h.pl _ hi).2.1,hn⟩
  ·exact⟨(h.pl j lH).1,(h.pl j lH).2.1,by have:=(h.pl j lH).2.2;omega⟩
 ·intro m wG;show m.2.1<(v.ps.set i q).length∧_;rw[bt];exact hm m wG
theorem bK.more (h:bK p cf c v){d:Nat}(hd:c≤d):bK p cf d v :=
 ⟨h.may,h.n,h.ev,λi hi=>⟨(h.pl i hi).1,(h.pl i hi).2.1,fG (h.pl i hi).2.2 hd⟩,h.net,λe he=>⟨by have:=(h.kT e he).1;omega,(h.kT e he).2⟩⟩
theorem N6 {k:Ks}(h:WC k):∀ m∈(br k).1,m.2.1<k.n∧m.2.2.length≤1000:=by
 intro m hm;unfold br at hm;split at hm
 ·cases hm
 ·simp only at hm;split at hm
  ·cases hm
  ·obtain⟨i,hi,rfl⟩:=cR.1 hm;have h1:=(List.mem_filter.1 hi).1;rw[mem_range]at h1;exact⟨h1,fG (Mf _) (by decide)⟩
theorem N7 {k:Ks}(h:WC k):∀ m∈(cy k).1,m.2.1<k.n∧m.2.2.length≤1000:=by
 intro m hm;unfold cy at hm;split at hm
 ·cases hm
 ·obtain⟨i,hi,rfl⟩:=cR.1 hm;have h1:=(List.mem_filter.1 hi).1;rw[mem_range]at h1;exact⟨h1,fG (Mf _) (by decide)⟩
theorem bK.kn (h:bK p cf c v)(hi:i<v.ps.length):(an v i).k.n=v.ps.length:=by
 have h1:=(h.pl i hi).2.1;have h2:(fk (an v i).k).n=cf.n:=by rw[h1]
 have h3:((an v i).k.n:Int)=cf.n:=h2;have:=h.n;have h4:=h.may.1.1;unfold fB at h4;omega
theorem bK.N8 (h:bK p cf c v){l:List Ml}(hl:∀ m∈l,m.2.1<v.ps.length∧m.2.2.length≤1000):(eF v.net l).length≤300∧∀ m∈eF v.net l,m.2.1<v.ps.length∧m.2.2.length≤1000 :=
 ⟨Hv h.net.1,λm hm=>(Hu hm).elim (h.net.2 m) (hl m)⟩
theorem bK.al (h:bK p cf c v)(hi:i<v.ps.length)(b:UInt8):bK p cf (c+1) { v with ps:=v.ps.set i (dK p b (an v i)).2 } :=
 h.put hi (l7.al (h.pl i hi).1 b).wf (l7.al (h.pl i hi).1 b).cf (by have:=(h.pl i hi).2.2;rw[abO p b (h.pl i hi).1];omega) h.net.1 h.net.2
theorem bK.recv (h:bK p cf c v)(hi:i<v.ps.length)(bs:List UInt8){net:List Ml}(hl:net.length≤300)(hm:∀ m∈net,m.2.1<v.ps.length∧m.2.2.length≤1000):bK p cf (c+1) { v with ps:=v.ps.set i (dB p bs (an v i)).2,net:=net } :=
 h.put hi (l7.recv (h.pl i hi).1 bs).wf (l7.recv (h.pl i hi).1 bs).cf (by have:=(h.pl i hi).2.2;rw[abQ p bs (h.pl i hi).1];omega) hl hm
theorem bK.tick (h:bK p cf c v)(hi:i<v.ps.length):bK p cf (c+1) { v with ps:=v.ps.set i ⟨(br (an v i).k).2,(an v i).g⟩,net:=eF v.net (br (an v i).k).1 }:=by
 have h1:=h.N8 (l:=(br (an v i).k).1) λm hm=>by have:=N6 (h.pl i hi).1.wc m hm;rwa [h.kn hi]at this
 exact h.put hi (h.pl i hi).1.tick (GZ _) (by have:=(h.pl i hi).2.2;have:=abR (an v i).k;show (br (an v i).k).2.now≤_;omega) h1.1 h1.2
theorem bK.o7 (h:bK p cf c v)(hi:i<v.ps.length):bK p cf (c+1) { v with ps:=v.ps.set i ⟨(cy (an v i).k).2,(an v i).g⟩,net:=eF v.net (cy (an v i).k).1 }:=by
 have h1:=h.N8 (l:=(cy (an v i).k).1) λm hm=>by have:=N7 (h.pl i hi).1.wc m hm;rwa [h.kn hi]at this
 exact h.put hi (h.pl i hi).1.o7 (G0 _) (by have:=(h.pl i hi).2.2;have:=abS (an v i).k;show (cy (an v i).k).2.now≤_;omega) h1.1 h1.2
theorem bK.one (h:bK p cf c v):bK p cf (c+1) (gC p s v).2:=by
 unfold gC;split
 ·exact h.more (gY _)
 ·have hi:s.a.toNat<v.ps.length:=by omega
  split
  ·exact h.al hi _
  ·split
   ·exact h.tick hi
   ·split
    ·exact h.o7 hi
    ·exact h.more (gY _)
theorem bK.Hw (h:bK p cf c v){j:Nat}(hj:j<v.net.length):(v.net.getD j (0,0,[])).2.1<v.ps.length∧(v.net.getD j (0,0,[])).2.2.length≤1000:=by
 rw[bm,aD hj];exact h.net.2 _ (jd hj)
theorem bK.erase (h:bK p cf c v)(j:Nat):(v.net.eraseIdx j).length≤300∧∀ m∈v.net.eraseIdx j,m.2.1<v.ps.length∧m.2.2.length≤1000 :=
 ⟨fG (List.length_eraseIdx_le _ _) h.net.1,λm hm=>h.net.2 m (List.mem_of_mem_eraseIdx hm)⟩
theorem bK.Hx (h:bK p cf c v){net:List Ml}(hl:net.length≤300)(hm:∀ m∈net,m.2.1<v.ps.length∧m.2.2.length≤1000):bK p cf (c+1) { v with net:=net } :=
 { h.more (gY c) with net:=⟨hl,hm⟩ }
theorem bK.zD (h:bK p cf c v):bK p cf (c+1) (gO p s v).2:=by
 unfold gO;split
 ·exact h.more (gY _)
 ·rename_i hr;have hj:s.n.toNat<v.net.length:=by omega
  have hx:=h.Hw hj;split
  ·split
   ·exact h.more (gY _)
   ·refine h.Hx (by rw[bt];exact h.net.1) λm hm=>?_;rcases rK hm with h1 | rfl
    ·exact h.net.2 m h1
    ·exact⟨hx.1,by show (List.set _ _ _).length≤_;rw[bt];exact hx.2⟩
  ·split
   ·exact h.Hx (h.erase _).1 (h.erase _).2
   ·refine h.recv hx.1 _ ?_ ?_ <;> split
    ·exact h.net.1
    ·exact (h.erase _).1
    ·exact h.net.2
    ·exact (h.erase _).2
theorem bK.step (h:bK p cf c v):bK p cf (c+1) (bu p s v).2:=by
 unfold bu;split
 ·exact h.more (gY _)
 ·split
  ·exact h.zD
  ·exact h.one
theorem rk (v:Wd):∀ i,(cz v i).ps.length=v.ps.length∧(cz v i).net=v.net∧(cz v i).ev.length=v.ev.length
 | 0=>⟨rfl,rfl,rfl⟩
 | i+1=>by
  obtain⟨h1,h2,h3⟩:=rk v i;exact⟨by show (List.set _ _ _).length=_;rw[bt,h1],h2,by show (List.set _ _ _).length=_;rw[bt,h3]⟩
theorem zE (v:Wd):∀ {i j:Nat},i≤v.ps.length→an (cz v i) j=if j<i then ⟨{ (an v j).k with ev:=[] },(an v j).g⟩ else an v j
 | 0,j,_=>by rw[ag (Nat.not_lt_zero _)];rfl
 | i+1,j,h=>by
  have h1:=zE v (i:=i) (j:=i) (by omega);rw[ag (Ch _)]at h1;show an ⟨(cz v i).ps.set i _,_,_⟩ j=_;rw[rj (v:=cz v i) (by rw[(rk v i).1];omega),h1,zE v (i:=i) (j:=j) (by omega)];by_cases h2:i=j
  ·subst h2;rw[ak rfl,ak (by omega)]
  ·rw[ag h2];by_cases h3:j<i
   ·rw[ak h3,ak (by omega)]
   ·rw[ag h3,ag (by omega)]
theorem Hy (v:Wd)(hl:v.ev.length=v.ps.length):∀ {i j:Nat},i≤v.ps.length→(cz v i).ev.getD j []=if j<i then v.ev.getD j []++(an v j).k.ev else v.ev.getD j []
 | 0,j,_=>by rw[ag (Nat.not_lt_zero _)];rfl
 | i+1,j,h=>by
  have h1:=zE v (i:=i) (j:=i) (by omega);rw[ag (Ch _)]at h1;have h4:=Hy v hl (i:=i) (j:=i) (by omega);rw[ag (Ch _)]at h4;show ((cz v i).ev.set i ((cz v i).ev.getD i []++(an (cz v i) i).k.ev)).getD j []=_;rw[h1,h4,bm,jO];by_cases h2:i=j
  ·subst h2;rw[ak rfl,ak (by rw[(rk v i).2.2,hl];omega),ak (by omega)];rfl
  ·rw[ag h2,← bm,Hy v hl (i:=i) (j:=j) (by omega)];by_cases h3:j<i
   ·rw[ak h3,ak (by omega)]
   ·rw[ag h3,ag (by omega)]
theorem abU {α:Type}{l:List α}{x d:α}(h:x∈l):∃ i,i<l.length∧l.getD i d=x:=by
 obtain⟨i,hi,rfl⟩:=xe h;exact⟨i,hi,by rw[bm,aD hi];rfl⟩
theorem Cv {α:Type}{l:List α}{d:α}{i:Nat}(h:i<l.length):l.getD i d∈l:=by
 rw[bm,aD h];exact jd _
theorem bK.cz (h:bK p cf c v){i:Nat}(hi:i≤v.ps.length):bK p cf (c+1) (cz v i):=by
 obtain⟨h1,h2,h3⟩:=rk v i;refine⟨h.may,by rw[h1];exact h.n,by rw[h1,h3];exact h.ev,λj hj=>?_,by rw[h1,h2];exact h.net,λe he=>?_⟩
 ·rw[h1]at hj;obtain⟨c0,cU,a3⟩:=h.pl j hj;rw[zE v hi];split
  ·exact⟨c0.told,cU,by show (an v j).k.now≤_;omega⟩
  ·exact⟨c0,cU,by omega⟩
 ·obtain⟨j,hj,rfl⟩:=abU (d:=[]) he;rw[h3]at hj;rw[Hy v h.ev hi];have h4:=h.kT _ (Cv (d:=[]) hj);have h5:=(h.pl j (by rw[← h.ev];exact hj)).1.wc;split
  ·refine⟨by have:=h5.kT;rw[aJ];omega,λx hx=>?_⟩;rcases eT.1 hx with hx | hx
   ·exact h4.2 x hx
   ·exact h5.bx x hx
  ·exact⟨by omega,h4.2⟩
theorem bK.drain (h:bK p cf c v):bK p cf (c+1) (lz v):=h.cz (a7 _)
theorem bK.go (h:bK p cf c v):bK p cf (c+2) (bS p s v):=by
 unfold bS;split
 ·exact h.more (by omega)
 ·exact h.step.drain
end
end
section
structure c5 where
 frm:Int
 to:Int
 ad:Option Addr
 c:Nat
 bs:List UInt8
abbrev c5.cells (m:c5):List Value:=[.int .i64 m.frm,.int .i64 m.to,.slice m.ad m.bs.length m.c]
def iU (ms:List c5):List Value:=ms.flatMap c5.cells
def c5.own (m:c5):SP:=Sl 5 1 m.ad m.bs.length m.c (bc m.bs)
def fO (ms:List c5):SP:=λh=>cm (ms.map c5.own) h
theorem Cw (l m:List c5):iU (l++m)=iU l++iU m:=by simp[iU]
theorem N9 (l:List c5)(i:Nat):(iU l).drop (i*3)=iU (l.drop i):=by
 induction i generalizing l with
 | zero=>simp
 | succ i ih =>
  cases l with
  | nil=>simp[iU]
  | cons x l =>
   rw[show (i+1)*3=i*3+3 from by omega];simp only[iU,flatMap_cons,List.drop_succ_cons,c5.cells] at *;rw[← ih l];simp
theorem abV (l:List c5)(i:Nat):(iU l).take (i*3)=iU (l.take i):=by
 induction i generalizing l with
 | zero=>simp[iU]
 | succ i ih =>
  cases l with
  | nil=>simp[iU]
  | cons x l =>
   rw[show (i+1)*3=i*3+3 from by omega];simp only[iU,flatMap_cons,take_succ_cons,c5.cells] at *;rw[← ih l];simp
theorem abW (l:List c5)(i:Nat)(h:i<l.length):((iU l).drop (i*3)).take 3=l[i].cells:=by
 rw[N9,kH h];simp only[iU,flatMap_cons,c5.cells,cons_append,nil_append,take_succ_cons,take_zero]
theorem fO.nil {W w:World}{L:List SP}(I:U W w L):U W w (fO []::L) :=
 ⟨I.below,let ⟨h,p,q⟩:=I.sat;⟨h,p,λ_=>none,h,λ_=>.inl rfl,λ_ _ e=>(by cases e),Hp.Sub.refl _,trivial,q⟩⟩
theorem fO.out {W w:World}{L:List SP}{a b:List c5}{m:c5}(I:U W w (fO (a++m::b)::L)):U W w (m.own::fO (a++b)::L):=by
 have h1:=I.open (M:=(a++m::b).map c5.own) (λ_ x=>x);have h2:((a++m::b).map c5.own++L).Perm (m.own::((a++b).map c5.own++L)):=by
  rw[← cons_append,← map_cons];exact ((nP (a:=m) (l₁:=a) (l₂:=b)).map c5.own).append_right L
 have h3:=h1.perm h2;have h4:=h3.perm (List.perm_append_comm (l₁:=[m.own]) (l₂:=(a++b).map c5.own++L));have h5:U W w ((a++b).map c5.own++(L++[m.own])):=by simpa using h4
 have h6:=U.shut (A:=fO (a++b)) h5 (λ_ x=>x);exact h6.perm (List.Perm.trans (List.perm_append_comm (l₁:=fO (a++b)::L) (l₂:=[m.own])) (lE _))
theorem fO.Oa {W w:World}{L:List SP}{a b:List c5}{m:c5}(I:U W w (m.own::fO (a++b)::L)):U W w (fO (a++m::b)::L):=by
 have h1:U W w (fO (a++b)::([m.own]++L)):=I.perm (cZ _ _ _);have h2:=h1.open (M:=(a++b).map c5.own) (λ_ x=>x);refine U.shut (M:=(a++m::b).map c5.own) (h2.perm ?_) (λ_ x=>x);have h3:((a++b).map c5.own++([m.own]++L)).Perm (m.own::((a++b).map c5.own++L)):=by
  have:=nP (a:=m.own) (l₁:=(a++b).map c5.own) (l₂:=L);simpa using this
 refine h3.trans ?_;rw[← cons_append,← map_cons];exact (((nP (a:=m) (l₁:=a) (l₂:=b)).map c5.own).symm).append_right L
theorem fO.rd {W w:World}{L R:List SP}{xs:List c5}(I:U W w L)[k:qy L (fO xs) R](i:Nat)(h:i<xs.length):aX w xs[i].ad xs[i].bs.length xs[i].bs:=by
 have h1:=I.pick (fO xs);rw[show xs=xs.take i++xs[i]::xs.drop (i+1) from by rw[← kH h,j0]]at h1;have h2:=fO.out h1;refine⟨rfl,λe=>?_,λx hx hp=>?_⟩
 ·rcases lI xs[i].bs.length with h0 | h0
  ·exact h0
  ·obtain⟨b,off,e2,_⟩:=U.bU (L:=xs[i].own::_) (e:=5) (sz:=1) (n:=xs[i].bs.length) (c:=xs[i].c) (cs:=bc xs[i].bs) (k:=⟨lE _⟩) h2 xs[i].ad h0;rw[e]at e2;cases e2
 ·obtain⟨b,off,e2,hr⟩:=U.bU (L:=xs[i].own::_) (e:=5) (sz:=1) (n:=xs[i].bs.length) (c:=xs[i].c) (cs:=bc xs[i].bs) (k:=⟨lE _⟩) h2 xs[i].ad hp;exact⟨b,off,by rw[hx]at e2;cases e2;rfl,hr⟩
abbrev po:=Int×Int×List UInt8
def c5.m (x:c5):po:=(x.frm,x.to,x.bs)
def bG (q:Nat)(ms:List po):SP:=λh=>∃ i:(Option Addr×Nat)×List c5,(i.2.map c5.m=ms∧ms.length≤300∧∀ x∈i.2,x.bs.length≤1000) ∧
 cm [aa q 110 [.slice i.1.1 i.2.length i.1.2],Sl 124 3 i.1.1 i.2.length i.1.2 (iU i.2),fO i.2] h
theorem bG.open {W w:World}{L:List SP}{q:Nat}{ms:List po}(I:U W w (bG q ms::L)) :
   ∃ ad c xs,ms=xs.map c5.m∧(xs.length≤300∧∀ x∈xs,x.bs.length≤1000)∧U W w (aa q 110 [.slice ad xs.length c]::Sl 124 3 ad xs.length c (iU xs)::fO xs::L):=by
 obtain⟨i,⟨h1,h2,h3⟩,h⟩:=I.jM (B:=λi:(Option Addr×Nat)×List c5=>cm [aa q 110 [.slice i.1.1 i.2.length i.1.2],Sl 124 3 i.1.1 i.2.length i.1.2 (iU i.2),fO i.2]) (λ_ h=>h);exact⟨i.1.1,i.1.2,i.2,h1.symm,⟨by rw[← h1]at h2;simpa using h2,h3⟩,h.open (λ_ x=>x)⟩
theorem bG.shut {W w:World}{L R R2 R3:List SP}{q n c:Nat}{ad:Option Addr}{cs:List Value}{xs:List c5}{ms:List po}(I:U W w L)[k:fH L q 110 [.slice ad n c] R][k2:fS R ad n c 124 3 cs R2][k3:qy R2 (fO xs) R3]
   (hn:n=xs.length) (hc:cs=iU xs) (hm:ms=xs.map c5.m) (h3:xs.length≤300) (h4:∀ x∈xs,x.bs.length≤1000):U W w (bG q ms::R3):=by
 subst hn;subst hc;subst hm;have h1:=(I.perm k.perm).perm (kz _ (k2.perm.trans (kz _ k3.perm)));exact U.shut (M:=[_,_,_]) h1 λ_ x=>⟨((ad,c),xs),⟨rfl,by simpa using h3,h4⟩,x⟩
theorem Hz {w:World}{b off:Nat}{xs:List c5}(h:Rd w b off (iU xs))(k:Nat)(hk:k<xs.length) :
   Rd w b (off+k*3) xs[k].cells∧w.cell? ⟨b,off+k*3,none⟩=some (.int .i64 xs[k].frm)∧w.cell? ⟨b,off+k*3+1,none⟩=some (.int .i64 xs[k].to)∧w.cell? ⟨b,off+k*3+2,none⟩=some (.slice xs[k].ad xs[k].bs.length xs[k].c):=by
 have hr:=h.part (k*3) 3;rw[abW xs k hk]at hr;exact⟨hr,hr 0 _ rfl,hr 1 _ rfl,hr 2 _ rfl⟩
theorem abX {W w:World}{L:List SP}{c:Nat}(I:U W w L) :
   Calls prog 95 #[.slice none 0 c] w λe w'=>e=.returned (.slice none 0 0)∧U W w' L:=by
 refine EN func95 ntmps95 rfl rfl λa E=>?_;refine RN 6 E I λa E=>?_;replace E:=E.ed 4;refine RT 3 E I ?_;exact⟨rfl,I⟩
theorem abY {W w:World}{L:List SP}{x:Addr}{c:Nat}(I:U W w L) :
   Calls prog 95 #[.slice (some x) 0 c] w λe w'=>∃ av,e=.returned (.slice av 0 0)∧U W w' (Sl 5 1 av 0 0 []::L):=by
 refine EN func95 ntmps95 rfl rfl λa E=>?_;refine RN 6 E I λa E=>?_;replace E:=E.aP 4;refine RN 2 E I λa E=>?_;refine uC E rfl I underlying22 Ty.t5 rfl λb5 a w E I ho=>?_;clear ho;refine RN 1 E I λa E=>?_;refine Ds E rfl underlying22 Ty.t5 rfl (a7 _) λa E=>?_;refine RT 1 E I ?_;exact⟨_,rfl,I⟩
theorem abZ {W w:World}{L:List SP}{b off c:Nat}{bs:List UInt8}(I:U W w L)(hr:Rd w b off (bc bs))(h0:0<bs.length)(hl:bs.length≤140737488355328) :
   Calls prog 95 #[.slice (some ⟨b,off,none⟩) bs.length c] w λe w'=>∃ av c',e=.returned (.slice av bs.length c')∧U W w' (Sl 5 1 av bs.length c' (bc bs)::L):=by
 refine EN func95 ntmps95 rfl rfl λa E=>?_;refine RN 6 E I λa E=>?_;replace E:=E.aP 4;refine RN 2 E I λa E=>?_;refine uC E rfl I underlying22 Ty.t5 rfl λb5 a w E I ho=>?_;replace hr:=ho.rd hr;clear ho;refine RN 1 E I λa E=>?_;refine cQ E rfl I underlying22 Ty.t5 rfl rfl hr (by rw[dy,fW]) (ez bs) h0 (by decide) (by omega) λs7 rJ a w E I=>?_;refine RT 1 E I ?_;rw[eG] at *;exact⟨_,_,rfl,I⟩
theorem ab0 {W w:World}{L:List SP}{ad:Option Addr}{n c:Nat}{bs:List UInt8}(I:U W w L)(hr:aX w ad n bs)(hl:n≤140737488355328) :
   Calls prog 95 #[.slice ad n c] w λe w'=>∃ av c',e=.returned (.slice av n c')∧U W w' (Sl 5 1 av n c' (bc bs)::L):=by
 obtain⟨rfl,h2,h3⟩:=hr;cases ad with
 | none =>
  have h0:=h2 rfl;obtain rfl:=gG h0;exact (abX I).mono λe w' ⟨h,I⟩=>⟨none,0,h,I.bM _ _ _⟩
 | some x =>
  rcases lI bs.length with h0 | h0
  ·obtain rfl:=gG h0;exact (abY I).mono λe w' ⟨av,h,I⟩=>⟨av,0,h,I⟩
  ·obtain⟨b,off,rfl,hr⟩:=h3 x rfl h0;exact abZ I hr h0 hl
theorem Ob {W w:World}{L:List SP}{ad:Option Addr}{n c:Nat}{f t:Int}{bs:List UInt8}(I:U W w L)(hr:∀ w',U W w' L→aX w' ad n bs)(hl:n≤140737488355328) :
   Calls prog 76 #[.agg #[.int .i64 f,.int .i64 t,.slice ad n c]] w λe w'=>∃ av c',e=.returned (.agg #[.int .i64 f,.int .i64 t,.slice av n c'])∧U W w' (Sl 5 1 av n c' (bc bs)::L):=by
 refine EN func76 ntmps76 rfl rfl λa E=>?_;refine BX 1 E I λb1 a w E I=>?_;refine AL 0 E I λb2 a w E I=>?_;refine aZ 3 E I (ab0 I (hr _ I.sub) hl) λav c' a w E I=>?_;refine ST 1 E I (λa w E I=>?_);refine SA 2 E I λa w E I=>?_;refine RT 0 E I ?_;exact⟨_,_,rfl,I.sub⟩
theorem Oc {W w:World}{L R:List SP}{q e:Nat}{s:Option Addr}{n c:Nat}(I:U W w L) [fH L q e [.slice s n c] R] :
   Calls prog 23 #[pt q] w λe w'=>e=.returned (.int .i64 n)∧U W w' L:=by
 refine EN func23 ntmps23 rfl rfl λa E=>?_;refine RN 6 E I λa E=>?_;replace E:=E.aP 4;refine RT 8 E I ?_;exact⟨rfl,I⟩
theorem HA {W w:World}{L:List SP}{q:Nat}{ms:List po}(I:U W w (bG q ms::L)) :
   Calls prog 23 #[pt q] w λe w'=>e=.returned (.int .i64 ms.length)∧U W w' (bG q ms::L):=by
 obtain⟨ad,c,xs,rfl,hx,I⟩:=bG.open I;refine (Oc (q:=q) I).mono λe w' ⟨h,I⟩=>⟨by rw[h];simp,bG.shut (q:=q) (ad:=ad) (xs:=xs) I rfl rfl rfl hx.1 hx.2⟩
theorem Cx {W w:World}{L R:List SP}{q e:Nat}{s:Option Addr}{n c:Nat}{i:Int}(I:U W w L) [fH L q e [.slice s n c] R] :
   Calls prog 75 #[pt q,.int .i64 i] w λe w'=>e=.returned (.bool (decide (0≤i)&&decide (i<n)))∧U W w' L:=by
 refine EN func75 ntmps75 rfl rfl λa E=>?_;refine BY 6 E I (λbA a E=>?_) λbA a E=>?_
 ·
  refine CL 2 E I (Oc (q:=q) I) λa w E I=>?_;refine RT 3 E I ?_;exact⟨by rw[dk (p:=0≤i) (by omega),Bool.true_and],I⟩
 refine RT 6 E I ?_;exact⟨by rw[bo (p:=0≤i) (by omega),Bool.false_and],I⟩
theorem ab1 {W w:World}{L:List SP}(I:U W w L) :
   Calls prog 42 #[] w λe w'=>∃ q,e=.returned (pt q)∧U W w' (bG q []::L):=by
 refine EN func42 ntmps42 rfl rfl λa E=>?_;refine BX 4 E I λb2 a w E I=>?_;refine RT 1 E I ?_;exact⟨_,rfl,by
  have h1:=(fO.nil (I.bM 124 3 none));exact (bG.shut (q:=b2) (xs:=[]) (ms:=[]) h1 rfl rfl rfl (by simp) (by simp)).sub⟩
theorem Od {p q r vs:List Value}{o:Nat}(ho:o=p.length)(h:q.length=vs.length):cG (p++q++r) o vs=p++vs++r:=by
 subst ho;have e1:(p++q++r).take p.length=p:=by rw[dx,List.take_left]
 have e2:(p++q++r).drop (p.length+vs.length)=r:=by rw[← h,show p.length+q.length=(p++q).length from by simp,drop_left]
 rw[cG,e1,e2]
theorem ab2 {pre cs post:List Value}{n i:Nat}(hl:cs.length=n*3)(hi:i<n) :
   ∃ v,v.length=3∧cG (pre++cs++post) (pre.length+i*3) (cs.drop ((i+1)*3))=(pre++(cs.take (i*3)++cs.drop ((i+1)*3)))++v++post:=by
 refine⟨(cs.drop (i*3)).drop ((n-1-i)*3),by rw[c7,c7];omega,?_⟩;have uT:cs=cs.take (i*3)++((cs.drop (i*3)).take ((n-1-i)*3)++(cs.drop (i*3)).drop ((n-1-i)*3)):=by rw[j0,j0]
 have e:pre++cs++post=(pre++cs.take (i*3))++(cs.drop (i*3)).take ((n-1-i)*3)++((cs.drop (i*3)).drop ((n-1-i)*3)++post):=by
  conv=>lhs;rw[uT]
  simp only[dx]
 rw[e,Od (by rw[aJ,eA];omega) (by rw[eA,c7,c7];omega)];simp only[dx]
theorem ab3 {W w:World}{L:List SP}{ad:Option Addr}{c n i:Nat}{cs:List Value}(I:U W w (Sl 124 3 ad n c cs::L))(hi:i<n)(hn:n≤140737488355328)(fU:∀ v∈cs,v.oneCell'=true) :
   Calls prog 103 #[.slice ad n c,.int .i64 i,.int .i64 ((i+1:Nat):Int)] w λe w'=>e=.returned (.slice ad (n-1) c)∧U W w' (Sl 124 3 ad (n-1) c (cs.take (i*3)++cs.drop ((i+1)*3))::L):=by
 have aj:=(I.sl ad);obtain⟨b,pre,post,⟨h1,h2,rfl,h4⟩,gI⟩:=I.l8 (by omega);replace I:=gI;clear gI;have ox:∃ qJ,ft (some ⟨b,pre.length,none⟩) (i+1) c 3=some ⟨b,qJ,none⟩∧∀ w,U W w (aa b 124 (pre++cs++post)::L)→Rd w b qJ (cs.drop ((i+1)*3)):=by
  by_cases Oe:c=i+1
  ·refine⟨pre.length,by simp[ft,Oe],λw _=>?_⟩;rw[List.drop_of_length_le (by omega)];intro j v hj;simp at hj
  ·refine⟨pre.length+(i+1)*3,pE Oe,λw I=>?_⟩;intro j v hj;have hlt:=(aY.1 hj).1;rw[c7]at hlt;rw[I.cell,dx,pD (by omega),show pre.length+(i+1)*3+j-pre.length=(i+1)*3+j from by omega,mF (by omega)];rw[qw]at hj;exact hj
 obtain⟨qJ,zB,ox⟩:=ox;refine EN func103 ntmps103 rfl rfl λa E=>?_;refine RN 8 E I λa E=>?_;refine SS E (Rf E underlying108 Ty.t124 (by omega) (by omega) (by omega)) λa E=>?_;refine RN 5 E I λa E=>?_;rw[show decide ((i:Int)=((i+1:Nat):Int))=false from bo (by omega)]at E;replace E:=E.aP 16;refine bR 6 [] [0,1,2,3,4,5,1006,7] E I λa w E I hH hC=>?_;refine RH 6 E I hH hC λa E=>?_;rw[zB,pE (by omega:c≠0)]at E;refine Ri E rfl I underlying108 Ty.t124 rfl (ox _ I) (by simp;omega) (λv hv=>fU v (List.mem_of_mem_drop hv)) (by omega) (by simp;omega) λa w E I=>?_;obtain⟨v,hv,Fj⟩:=ab2 (pre:=pre) (post:=post) (n:=n) (i:=i) h1 hi;rw[show pre.length+0*3+(i-0)*3=pre.length+i*3 from by omega,Fj]at I;rw[show i-0+(n-(i+1))=n-1 from by omega,show pre.length+0*3=pre.length from by omega]at E;have hP:(pre++(cs.take (i*3)++cs.drop ((i+1)*3))).length=pre.length+(n-1)*3:=by
  simp only[aJ,eA,c7];omega
 refine RN 1 E I λa E=>?_;refine RN 6 E I λa E=>?_;rw[pE (by omega)]at E;have hle:pre.length+(n-1)*3+(n-(n-1))*3≤(pre++(cs.take (i*3)++cs.drop ((i+1)*3))++v++post).length:=by
  rw[aJ,aJ,hP,hv];omega
 refine I1 E rfl I underlying108 Ty.t124 rfl rfl hle λa w E I=>?_;refine RT 3 E I ?_;refine⟨rfl,?_⟩;generalize hz:(Builtin.zeroCells (Value.cells (.agg #[.int .i64 0,.int .i64 0,.slice none 0 0])) (n-(n-1))).toList=zs at I;have iL:zs.length=(n-(n-1))*3:=by rw[← hz];exact xX 0 (a2:=0) rfl _
 rw[Od hP.symm (by rw[hv,iL];omega)]at I;rw[dx _ zs post]at I;exact U.iZ I (by rw[aJ]at hP;omega) (by omega) (by rw[aJ,iL];omega)
def qp (ms:List po)(n:Nat):Bool:=decide (ms.length<300)&&decide (n≤1000)
theorem ab4 {W w:World}{L:List SP}{q:Nat}{ms:List po}{ad:Option Addr}{n c:Nat}{f t:Int}{bs:List UInt8}(I:U W w (bG q ms::L))(hr:∀ w',U W w' L→aX w' ad n bs) :
   Calls prog 100 #[pt q,.agg #[.int .i64 f,.int .i64 t,.slice ad n c]] w λe w'=>e=.returned (.bool (qp ms n))∧U W w' (bG q (if qp ms n then ms++[(f,t,bs)] else ms)::L):=by
 have oN:=(hr _ I.tail).1;subst oN;obtain⟨lX,et,xs,rfl,hx,I⟩:=bG.open I;refine EN func100 ntmps100 rfl rfl λa E=>?_;refine BX 1 E I λb3 a w E I=>?_;refine RN 6 E I λa E=>?_;replace E:=E.aP 7;refine BY 8 E I (λmg a E=>?_) λmg a E=>?_
 ·
  have hm:qp (xs.map c5.m) bs.length=false:=by simp only[qp,a8,Bool.and_eq_false_iff,rU];left;omega
  refine RT 8 E I ?_;exact⟨by rw[hm],by rw[hm,ag (by decide)];exact (bG.shut (q:=q) (ad:=lX) (xs:=xs) I rfl rfl rfl hx.1 hx.2).sub⟩
 refine IF 5 E I (λaj a E=>?_) λaj a E=>?_
 ·
  have hm:qp (xs.map c5.m) bs.length=false:=by simp only[qp,a8,Bool.and_eq_false_iff,rU];right;omega
  refine RT 2 E I ?_;exact⟨by rw[hm],by rw[hm,ag (by decide)];exact (bG.shut (q:=q) (ad:=lX) (xs:=xs) I rfl rfl rfl hx.1 hx.2).sub⟩
 have hm:qp (xs.map c5.m) bs.length=true:=by simp only[qp,a8,fq,oB];omega
 refine aV 1 (λw0 w'=>w'.cell? ⟨q,0,none⟩=some (.slice lX xs.length et)) [5,6,7] [0,1,2,3,3004,1005,1006,1007,1008,9,10,1011] E I λa w E I hH=>?_;have hC:=hH.at w (I.bz rfl);refine RH 4 E I hH hC λa E=>?_;refine QH E (λw hc=>ae E (hc)) hC λa E=>?_;refine RH 1 E I hH hC λa E=>?_;refine aZ 0 E I (Ob I (λw' h=>hr w' h.sub) (by omega)) λav c' a w E I=>?_;replace hC:=hH.at w (I.bz rfl);refine RH 0 E I hH hC λa E=>?_;refine cp E rfl I underlying108 Ty.t124 rfl rfl rfl rfl (by decide) (by decide) λJh a w E I ho=>?_;clear ho;replace hC:=hH.at w (I.bz rfl);refine RH 0 E I hH hC λa E=>?_;refine cQ E rfl I underlying108 Ty.t124 rfl rfl I.ai rfl (by simp[Value.oneCell']) (by decide) (by decide) (by omega) λMi Mj a w E I=>?_;refine ST 2 E I (λa w E I=>?_);refine RT 2 E I ?_;refine⟨by rw[hm],?_⟩;rw[hm,ak rfl];have h3:=(I.pick (fO xs)).pick (Sl 5 1 av bs.length c' (bc bs));have h4:=fO.Oa (a:=xs) (b:=[]) (m:=⟨f,t,av,c',bs⟩) (by rw[append_nil];exact h3);refine (bG.shut (q:=q) (xs:=xs++[⟨f,t,av,c',bs⟩]) (ms:=xs.map c5.m++[(f,t,bs)]) h4 (by simp) (by rw[Cw];rfl) (by simp[c5.m]) (by simp;omega) ?_).sub;intro x c6;rcases eT.1 c6 with h | h
 ·exact hx.2 x h
 ·obtain rfl:=iK.1 h;exact Int.ofNat_le.1 aj
theorem ab5 {W w:World}{L:List SP}{q:Nat}{ms:List po}{i:Int}(I:U W w (bG q ms::L))(hi:(decide (0≤i)&&decide (i<ms.length))=false) :
   Calls prog 52 #[pt q,.int .i64 i] w λe w'=>e=.returned (.tuple #[.agg #[.int .i64 0,.int .i64 0,.slice none 0 0],.bool false])∧U W w' (bG q ms::L):=by
 obtain⟨lX,et,xs,rfl,hx,I⟩:=bG.open I;rw[a8]at hi;refine EN func52 ntmps52 rfl rfl λa E=>?_;refine AL 1 E I λb4 a w E I=>?_;refine CL 5 E I (Cx (q:=q) I) λa w E I=>?_;rw[hi]at E;refine RN 1 E I λa E=>?_;replace E:=E.ed 9;refine SA 3 E I λa w E I=>?_;refine RT 1 E I ?_;exact⟨rfl,(bG.shut (q:=q) (ad:=lX) (xs:=xs) I rfl rfl rfl hx.1 hx.2).sub⟩
theorem HB {i n:Nat}(h:i<n):(decide (0≤(i:Int))&&decide ((i:Int)<(n:Int)))=true:=by
 simp;omega
theorem ab6 {W w:World}{L:List SP}{q:Nat}{ms:List po}{i:Nat}(I:U W w (bG q ms::L))(hi:i<ms.length) :
   Calls prog 52 #[pt q,.int .i64 i] w λe w'=>∃ ad c,e=.returned (.tuple #[.agg #[.int .i64 ms[i].1,.int .i64 ms[i].2.1,.slice ad ms[i].2.2.length c],.bool true])∧U W w' (Sl 5 1 ad ms[i].2.2.length c (bc ms[i].2.2)::bG q ms::L):=by
 obtain⟨lX,et,xs,rfl,hx,I⟩:=bG.open I;have dL:i<xs.length:=by simpa using hi
 simp only[getElem_map,c5.m];refine EN func52 ntmps52 rfl rfl λa E=>?_;refine AL 1 E I λb4 a w E I=>?_;refine CL 5 E I (Cx (q:=q) I) λa w E I=>?_;rw[HB dL]at E;refine RN 1 E I λa E=>?_;replace E:=E.aP 9;refine RN 2 E I λa E=>?_;obtain⟨b',dH,rfl,c9⟩:=I.bU lX (by omega);have gT:=Hz c9 i dL;refine RN 6 E I λa E=>?_;refine SS E (bT E underlying124 rfl Ty.t124 (gT.1)) λa E=>?_;refine aZ 0 E I (Ob I (λw' h=>fO.rd h i dL) (by have:=hx.2 xs[i] (jd dL);omega)) λav c' a w E I=>?_;refine SA 0 E I λa w E I=>?_;refine RT 1 E I ?_;exact⟨_,_,rfl,(bG.shut (q:=q) (ad:=some ⟨b',dH,none⟩) (xs:=xs) I rfl rfl rfl hx.1 hx.2).sub⟩
theorem ab7 (xs:List c5):∀ v∈iU xs,v.oneCell'=true:=by
 intro v hv;simp only[iU,List.mem_flatMap,c5.cells]at hv;obtain⟨x,_,hx⟩:=hv;simp at hx;rcases hx with rfl | rfl | rfl <;> rfl
theorem ab8 {W w:World}{L:List SP}{q:Nat}{ms:List po}{i:Nat}(I:U W w (bG q ms::L))(hi:i<ms.length) :
   Calls prog 63 #[pt q,.int .i64 i] w λe w'=>e=.returned (.bool true)∧U W w' (bG q (ms.eraseIdx i)::L):=by
 obtain⟨lX,et,xs,rfl,hx,I⟩:=bG.open I;have dL:i<xs.length:=by simpa using hi
 refine EN func63 ntmps63 rfl rfl λa E=>?_;refine CL 6 E I (Cx (q:=q) I) λa w E I=>?_;rw[HB dL]at E;refine RN 1 E I λa E=>?_;replace E:=E.aP 8;refine CL 10 E I (ab3 (I.pick (Sl 124 3 lX xs.length et (iU xs))) dL (by omega) (ab7 xs)) λa w E I=>?_;refine ST 2 E I (λa w E I=>?_);refine RT 2 E I ?_;refine⟨rfl,?_⟩;have h1:=I.pick (fO xs);have h0:xs=xs.take i++xs[i]::xs.drop (i+1):=by rw[← kH dL,j0]
 have h2:=h1;rw[show fO xs=fO (xs.take i++xs[i]::xs.drop (i+1)) from by rw[← h0]]at h2;have h3:=(fO.out h2).tail;rw[N9,abV,← Cw,← sZ]at h3;exact (bG.shut (q:=q) (ad:=lX) (xs:=xs.eraseIdx i) (ms:=(xs.map c5.m).eraseIdx i) h3 (by rw[List.length_eraseIdx];simp[dL]) rfl (by simp only[sZ,cW,map_take,map_drop]) (by rw[List.length_eraseIdx];simp[dL];omega) (λx h=>hx.2 x (List.mem_of_mem_eraseIdx h))).sub
theorem Of (bs:List UInt8)(i:Nat)(x:UInt8):(bc bs).set i (.int .u8 (x.toNat:Int))=bc (bs.set i x):=by
 simp[bc,jz]
theorem zF {p q r:List Value}{i:Nat}{v:Value}(h:i<q.length):(p++q++r).set (p.length+i) v=p++q.set i v++r:=by
 rw[dx,uz _ _ (by omega),show p.length+i-p.length=i from by omega,sT _ _ h,dx]
theorem ab9 {W w:World}{L:List SP}{q:Nat}{ms:List po}{i:Nat}{aO:Int}{x:UInt8}(I:U W w (bG q ms::L))(hi:i<ms.length) :
   Calls prog 64 #[pt q,.int .i64 i,.int .i64 aO,.int .u8 (x.toNat:Int)] w λe w' =>
    e=.returned (.bool (decide (0≤aO)&&decide (aO<ms[i].2.2.length)))∧U W w' (bG q (if decide (0≤aO)&&decide (aO<ms[i].2.2.length) then ms.set i (ms[i].1,ms[i].2.1,ms[i].2.2.set aO.toNat (ms[i].2.2.getD aO.toNat 0 ^^^ x)) else ms)::L):=by
 obtain⟨lX,et,xs,rfl,hx,I⟩:=bG.open I;have dL:i<xs.length:=by simpa using hi
 simp only[getElem_map,c5.m];obtain⟨b',dH,rfl,c9⟩:=I.bU lX (by omega);clear c9;refine EN func64 ntmps64 rfl rfl λa E=>?_;refine CL 6 E I (Cx (q:=q) I) λa w E I=>?_;rw[HB dL]at E;refine RN 2 E I λa E=>?_;replace E:=E.aP 13;refine BY 4 E I (λfh a E=>?_) λfh a E=>?_
 ·
  have hm:(decide (0≤aO)&&decide (aO<xs[i].bs.length))=false:=by rw[bo (by omega),Bool.false_and]
  refine RN 4 E I λa E=>?_;have gT:=Hz (I.cK b' dH (by omega)) i dL;refine RT 11 E I ?_;exact⟨by rw[hm],by rw[hm,ag (by decide)];exact (bG.shut (q:=q) (ad:=some ⟨b',dH,none⟩) (xs:=xs) I rfl rfl rfl hx.1 hx.2).sub⟩
 refine RN 4 E I λa E=>?_;have gT:=Hz (I.cK b' dH (by omega)) i dL;refine RN 4 E I λa E=>?_;refine bw E (cw E rfl (s:=17)) (ae E (gT.2.2.2)) rfl λa E=>?_;refine IF 3 E I (λaj a E=>?_) λaj a E=>?_
 ·
  have hm:(decide (0≤aO)&&decide (aO<xs[i].bs.length))=false:=by rw[bo (p:=aO<xs[i].bs.length) (by omega),Bool.and_false]
  refine RT 2 E I ?_;exact⟨by rw[hm],by rw[hm,ag (by decide)];exact (bG.shut (q:=q) (ad:=some ⟨b',dH,none⟩) (xs:=xs) I rfl rfl rfl hx.1 hx.2).sub⟩
 have hm:(decide (0≤aO)&&decide (aO<xs[i].bs.length))=true:=by simp;omega
 obtain⟨A,rfl⟩:∃ A:Nat,aO=A:=⟨aO.toNat,by omega⟩;have hA:A<xs[i].bs.length:=by omega
 rw[hm,ak rfl,c8];have h1:=I.pick (fO xs);have h0:xs=xs.take i++xs[i]::xs.drop (i+1):=by rw[← kH dL,j0]
 rw[show fO xs=fO (xs.take i++xs[i]::xs.drop (i+1)) from by rw[← h0]]at h1;replace I:=fO.out h1;clear h1;obtain⟨xa,uW⟩:∃ xa,xs[i].ad=xa:=⟨_,rfl⟩;have h2:=I;rw[show xs[i].own=Sl 5 1 xa xs[i].bs.length xs[i].c (bc xs[i].bs) from by rw[← uW];rfl]at h2;have cn:=(h2.sl xa).2;obtain⟨bb,pre,post,⟨h3,h4,h5,h6⟩,gI⟩:=h2.l8 (by omega);rw[h5]at uW;replace I:=gI;clear gI h2;rw[uW]at gT;have hb:(pre++bc xs[i].bs++post)[pre.length+A]?=some (.int .u8 (xs[i].bs[A].toNat:Int)):=by
  rw[dx,pD (by omega),show pre.length+A-pre.length=A from by omega,mF (by rw[dy];exact hA)];simp[bc,hA]
 refine RN 8 E I λa E=>?_;refine SS E (ae E (gT.2.2.2)) λa E=>?_;refine RN 2 E I λa E=>?_;refine SS E (ae E (I.bz hb)) λa E=>?_;refine ST 3 E I (λa w E I=>?_) (hlt:=(by simp only[aJ,dy];omega));refine RT 2 E I ?_;refine⟨rfl,?_⟩;rw[zF (by rw[dy];exact hA),Of]at I;have h7:=U.iZ (n:=xs[i].bs.length) (c:=xs[i].c) (sz:=1) (I.jZ bb) (by rw[dy,bt,fW]) h4 h6;obtain⟨m',kv⟩:∃ m':c5,m'=⟨xs[i].frm,xs[i].to,xs[i].ad,xs[i].c,xs[i].bs.set A (xs[i].bs[A] ^^^ x)⟩:=⟨_,rfl⟩;have HC:m'.own=Sl 5 1 (some ⟨bb,pre.length,none⟩) xs[i].bs.length xs[i].c (bc (xs[i].bs.set A (xs[i].bs[A] ^^^ x))):=by
  rw[kv,c5.own];simp only[bt,uW]
 rw[← HC]at h7;have h8:=fO.Oa (a:=xs.take i) (b:=xs.drop (i+1)) (m:=m') ((h7.pick (fO (xs.take i++xs.drop (i+1)))).pick m'.own);have we:xs.set i m'=xs.take i++m'::xs.drop (i+1):=by rw[rr,ak dL]
 rw[← we]at h8;refine (bG.shut (q:=q) (ad:=some ⟨b',dH,none⟩) (xs:=xs.set i m') (ms:=(xs.map c5.m).set i (xs[i].frm,xs[i].to,xs[i].bs.set A (xs[i].bs.getD A 0 ^^^ x))) h8 (by rw[bt]) ?_ ?_ (by rw[bt];exact hx.1) ?_).sub
 ·rw[we]
  conv=>lhs;rw[h0]
  rw[Cw,Cw]
  congr 1
  simp only[iU,flatMap_cons]
  congr 1
  rw[kv,c5.cells,c5.cells];simp only[bt]
 ·rw[jz,kv,c5.m,bm,aD hA,Option.getD_some]
 ·intro y hy;rcases rK hy with h | h
  ·exact hx.2 y h
  ·rw[h,kv];simp only[bt];exact hx.2 _ (jd dL)
end
section
theorem aca {l:List Br}{frm:Int}{P:List (List UInt8)}(b:Br)(h:0<(l.foldl (iu frm P) b).done)(hb:b.done=0) :
   l.foldl (iu frm P) b∈l∧(l.foldl (iu frm P) b).done≤P.length∧pQ ((l.foldl (iu frm P) b).al.take (l.foldl (iu frm P) b).done) P=true:=by
 have key:∀ (l:List Br) (b:Br),(l.foldl (iu frm P) b=b)∨(l.foldl (iu frm P) b∈l∧(l.foldl (iu frm P) b).done≤P.length∧pQ ((l.foldl (iu frm P) b).al.take (l.foldl (iu frm P) b).done) P=true):=by
  intro l
  induction l with
  | nil=>intro b;exact .inl rfl
  | cons y l ih =>
   intro b;rw[foldl_cons];rcases ih (iu frm P b y) with h | ⟨h1,h2,h3⟩
   ·rw[h];unfold iu;split
    ·rename_i hc;exact .inr ⟨iJ ..,hc.2.2.1,hc.2.2.2⟩
    ·exact .inl rfl
   ·exact .inr ⟨gF _ h1,h2,h3⟩
 rcases key l b with h1 | h1
 ·rw[h1,hb]at h;omega
 ·exact h1
theorem acb {u P:List (List UInt8)}(hl:u.length≤P.length)(h:pQ u P=true):u=P.take u.length:=by
 have h1:=X0.1 h;rw[Nat.min_eq_left hl,k4]at h1;exact h1
theorem Og (p:Pr):∀ (a b:List (List UInt8)) (fr:Int) (g:Nat→Int),foldI p fr g (a++b)=foldI p (fr+(a.length:Nat)) (foldI p fr g a) b
 | [],b,fr,g=>by simp[foldI]
 | x::a,b,fr,g=>by
  rw[cons_append,foldI,Og p a b,foldI,eH]
  congr 1;omega
theorem iM.drop {w:World}{ad:Option Addr}{zs:List ee}{d c:Nat}(h:iM w ad zs)(hc:zs.length≤c):iM w (ft ad d c 1) (zs.drop d):=by
 refine⟨λh0=>?_,λx hx=>h.2 x (List.mem_of_mem_drop hx)⟩;rw[c7]at h0;obtain⟨b,o,rfl,hr⟩:=h.1 (by omega);refine⟨b,o+d*1,pE (by omega),λj v hj=>?_⟩;rw[map_drop,qw]at hj;have:=hr _ v hj;rw[fW,Nat.add_assoc];exact this
theorem Oh {w:World}{b nk base front:Nat}{p:Pr}{M:jJ}(h:Rd w b 0 (dV p M nk base front)):Rd w b 1 (bO p M.aq M.cO):=h.part 1 2
theorem acd {p:Pr}{f:Nat}{g:Nat→Int}{P:List (List UInt8)}{d:Nat}(hd:d≤P.length):foldI p ((f+d:Nat):Int) (foldI p (f:Int) g (P.take d)) (P.drop d)=foldI p (f:Int) g P:=by
 have h1:=Og p (P.take d) (P.drop d) (f:Int) g;rw[j0,eA,Nat.min_eq_left hd]at h1;rw[h1];rfl
section
variable {W w:World}{L:List SP}{n c i N tq sq r base front:Nat}{ad:Option Addr}{M:jJ}{B:jr}{p:Pr}{s:Pl}{m:Mu}{A:Sn}{T:Tr}{t:Nat→Nat}{px:aC}
set_option maxHeartbeats 1000000 in
theorem ace (I:U W w (aF W M p m::L))(h:MI p M N m)(a6:dm p)(aH:p.title.size≤1000000000):Calls prog 265 #[pt M.mb] w λr w'=>∃ ad c,r=.returned (.tuple #[.slice ad 128 c,.int .i64 (fD p M.B.gs m.s).2])∧U W w' (Sl 5 1 ad 128 c (bc (fD p M.B.gs m.s).1)::aF W M p m::L):=by
 have hw:=h.wf;have bD:=hw.wc.lu;have ie:m.s.k.ls.length≤8:=by rw[hw.wc.ls];exact hw.wc.n.2
 have gX:=hw.wc.lZ;have jW:aU m.s.k.ls≤aG m.s.k:=hw.wc.nG;have fE:=h.gs;have fw:=h.front;obtain⟨t,hI⟩:=h.inv;obtain⟨i,px,hY,lh⟩:=hI.mM (iJ ..);have tv:=(hI.base px (bF hY) lh).1;have lj:=Tree.wt ((aF.open I).tree M.tq);clear h;obtain⟨s,A,T,J,ks,base,front⟩:=m;simp only at hw bD ie gX jW fw hI hY lh tv lj;subst fw;refine EN func265 ntmps265 rfl rfl λa E=>?_;refine CL 5 E I (B3 I) λa w E I=>?_;replace I:=aR.open ((aF.open I).pick (aR W M.B p s));dsimp only at I;refine CL 0 E I (tN (I.pick (az M.B.core s.k)) hw.wc) λa w E I=>?_;refine RN 1 E I λa E=>?_;replace I:=aR.fold I M.B p s;refine aV 2 (λw0 w'=>Rd w' M.mb 0 (dV p M ks.length base (aw s.k))) [8,9,10] [0,1,2,3,4,5,7,3006,1008,1009,1010,11,12,13,14,15,16,17,1018,19,20] E I λa w E I hH=>?_;have hC:=hH.at w (I.ai (b:=M.mb));refine RH 3 E I hH hC λa E=>?_;replace E:=E.aP 15;refine RH 4 E I hH hC λa E=>?_;refine QH E (λw hc=>ae E (hc 8 _ rfl)) hC λa E=>?_;replace I:=aF.fold I M p ⟨s,A,T,J,ks,base,aw s.k⟩;refine RH 0 E I hH hC λa E=>?_;refine CL 0 E I (B3 I) λa w E I=>?_;replace hC:=hH.at w ((aF.open I).ai (b:=M.mb));replace I:=aR.open ((aF.open I).pick (aR W M.B p s));dsimp only at I;refine RH 0 E I hH hC λa E=>?_;refine CL 0 E I (pc (I.pick (az M.B.core s.k))) λa w E I=>?_;replace hC:=hH.at w (I.ai (b:=M.mb));obtain⟨D,I,hD⟩:=az.qu I;refine RH 0 E I hH hC λa E=>?_;refine CL 0 E I (sj I bD ie) λa w E I=>?_;replace hC:=hH.at w (I.ai (b:=M.mb));refine RH 1 E I hH hC λa E=>?_;rw[show decide (((aw s.k:Nat):Int)≠((aU s.k.ls:Nat):Int))=false from Km]at E;refine RH 2 E I hH hC λa E=>?_;replace E:=E.aP 26;refine RH 4 E I hH hC λa E=>?_;refine bw E (cw E rfl (s:=26)) (ae E (hC 8 _ rfl)) rfl λa E=>?_;refine RH 2 E I hH hC λa E=>?_;replace I:=aF.fold (aR.fold (hD _ _ I) M.B p s) M p ⟨s,A,T,J,ks,base,aw s.k⟩;refine IF 0 E I (λaj a E=>?_) λaj a E=>?_
 ·
  refine CL 2 E I (tX I) λa w E I=>?_;replace I:=aF.open I;dsimp only at I;refine aZ 0 E I (Na (I.pick (aR W M.B p s)) hw a6 aH fE) λad c a w E I=>?_;refine RT 4 E I ?_;exact⟨ad,c,rfl,(aF.fold I M p ⟨s,A,T,J,ks,base,aw s.k⟩).sub⟩
 have hhf:aw s.k<aG s.k:=by omega
 refine RN 1 E I λa E=>?_;replace I:=aF.open I;dsimp only at I;refine aV 0 (λw0 w'=>Rd w' M.mb 0 (dV p M ks.length base (aw s.k))) [1,2] [0,3,4,5,8,3006,1001,1002,1007,1009,10] E I λa w E I hH=>?_;have hC:=hH.at w (I.ai (b:=M.mb));refine RH 5 E I hH hC λa E=>?_;refine QH E (λw hc=>ae E (hc 0 _ rfl)) hC λa E=>?_;replace I:=aF.fold I M p ⟨s,A,T,J,ks,base,aw s.k⟩;refine RH 0 E I hH hC λa E=>?_;refine CL 0 E I (B3 I) λa w E I=>?_;replace hC:=hH.at w ((aF.open I).ai (b:=M.mb));replace I:=aR.open ((aF.open I).pick (aR W M.B p s));dsimp only at I;refine RH 0 E I hH hC λa E=>?_;refine CL 0 E I (pc (I.pick (az M.B.core s.k))) λa w E I=>?_;replace hC:=hH.at w (I.ai (b:=M.mb));replace I:=aR.fold I M.B p s;refine RH 0 E I hH hC λa E=>?_;refine CL 0 E I (Nj (I.pick (aR W M.B p s))) λa w E I=>?_;replace I:=aR.open (I.pick (aR W M.B p s));obtain⟨D,I,hD⟩:=az.qu (I.pick (az M.B.core s.k));refine j3 0 E I (GG (r:=0) (to:=aG s.k) (.inl rfl) (by decide) I fE bD ie hw.wc.nF gX (λw' di=>(di.pick (Sl 5 1 M.B.adT M.B.gs.table.length M.B.cT (bc M.B.gs.table))).cu M.B.adT _ rfl rfl)) λga gm X a w E ⟨⟨tV,iA⟩,I⟩=>?_;have m2:=iA rfl;subst m2;rw[xv]at I;replace I:=I.sub (M:=Qu M.B.core.qb M.B.core.aB s.k.ls::D::cg ga (aG s.k-aU s.k.ls) gm (dv M.B.gs s.k.ls (aG s.k))::aa M.B.pb 192 (gB p M.B s.g)::aA W p M.B.aq M.B.cO::Sl 5 1 M.B.adT M.B.gs.table.length M.B.cT (bc M.B.gs.table)::aa M.mb 177 (dV p M ks.length base (aw s.k))::aA W p M.aq M.cO::Sl 179 1 M.dw ks.length M.dG (gW ks)::ah (e9 p M.aq M.cO M.tq M.jq M.sq) ks::Tree M.tq M.sq T::ax M.sq M.r A::bI M.jq J::L);replace I:=aF.fold (aR.fold (hD _ _ I) M.B p s) M p ⟨s,A,T,J,ks,base,aw s.k⟩;have ik:(dv M.B.gs s.k.ls (aG s.k)).length=aG s.k-aU s.k.ls:=xf _ _ _;have m5:∀ b∈dv M.B.gs s.k.ls (aG s.k),b.length≤1099511627776:=λb hb=>by
  rw[dv,cR]at hb;obtain⟨i,_,rfl⟩:=hb;rw[nD,jk,a8];omega
 have Oi:fD p M.B.gs s=(gx (foldI p (aw s.k) s.g (dv M.B.gs s.k.ls (aG s.k))),aG s.k):=by rw[fD,ag (by omega)]
 clear iA tV;generalize dv M.B.gs s.k.ls (aG s.k)=P at I ik m5 Oi;rw[← ik]at E I;rw[Oi];have Cg:=(cg.le (I.pick (cg ga P.length gm P))).2;refine RN 1 E I λa E=>?_;refine RN 1 E I λa E=>?_;replace I:=aF.open I;dsimp only at I;refine RN 5 E I λa E=>?_;replace I:=aF.fold I M p ⟨s,A,T,J,ks,base,aw s.k⟩;refine CL 0 E I (GK I hY lh) λa w E I=>?_;refine AL 0 E I λcH a w E I=>?_;change U W w (aa cH 183 (ints .i32 32 (λ_=>0))::_) at I;refine SA 0 E I λa w E I=>?_;refine RN 1 E I λa E=>?_;refine cc (M:=λa w=>∃ (d:Nat) (g1:Nat→Int),(d≤P.length∧foldI p ((aw s.k+d:Nat):Int) g1 (P.drop d)=foldI p (aw s.k:Int) s.g P∧dS g1)∧Fr a 92 [(0,pt M.mb),(4,.int .i64 (aG s.k)),(5,.slice ga P.length gm),(6,pt cH),(7,.int .i64 d)]∧U W w (aa cH 183 (ints .i32 32 g1)::cg ga P.length gm P::aF W M p ⟨s,A,T,J,ks,base,aw s.k⟩::L)) ?_ ?_
 ·
  refine cc (M:=λa w=>∃ (b8:Nat) (ix:Option Addr) (cb:Nat),Fr a 92 [(0,pt M.mb),(4,.int .i64 (aG s.k)),(5,.slice ga P.length gm),(6,pt cH),(7,.int .i64 0),(8,pt b8),(9,.bool (decide (0<(T.fK (aw s.k:Int) P).done)))]∧U W w (aa b8 238 (ch (T.fK (aw s.k:Int) P) ix cb)::aa cH 183 (ints .i32 32 s.g)::cg ga P.length gm P::aF W M p ⟨s,A,T,J,ks,base,aw s.k⟩::L)) ?_ ?_
  ·
   refine RN 0 E I λa E=>?_;rw[tv]at I;replace I:=aF.open (I.pick (aF W M p ⟨s,A,T,J,ks,base,aw s.k⟩));dsimp only at I;refine aV 0 (λw0 w'=>Rd w' M.mb 0 (dV p M ks.length base (aw s.k))) [7,13] [0,1,2,4,5,6,8,3003,3007,2009,10,11,12,1013,1014,15] E I λa w E I hH=>?_;have hC:=hH.at w (I.ai (b:=M.mb));refine RH 7 E I hH hC λa E=>?_;refine QH E (λw hc=>ae E (hc 4 _ rfl)) hC λa E=>?_;refine QH E (λw hc=>ae E (hc 8 _ rfl)) hC λa E=>?_;refine RH 0 E I hH hC λa E=>?_;refine DN [(9,[10,11,12,1013,1014,15]),(13,[1009,10,11,12,1014,15])] (by kernel_rfl) rfl ⟨⟨_,rfl,?_⟩,⟨_,rfl,?_⟩,trivial⟩
   ·
    refine RH 0 E I hH hC λa E=>?_;refine aZ 0 E I (J8 (p:=P) (I.tree M.tq) (λw' h=>cg.rd (h.pick (cg ga P.length gm P))) Cg ⟨by omega,m5⟩) λix cb a w E I=>?_;refine RN 3 E I λa E=>?_;refine eZ E rfl I Ty.t238 rfl λb8 a w E I ho=>?_;clear ho;replace hC:=hH.at w (I.ai (b:=M.mb));refine RH 0 E I hH hC λa E=>?_;refine SA 0 E I λa w E I=>?_;refine RN 1 E I λa E=>?_;exact⟨_,ix,cb,E.ab [0,4,5,6,7,8,9],(aF.fold I M p ⟨s,A,T,J,ks,base,aw s.k⟩).sub⟩
   refine RH 0 E I hH hC λa E=>?_;refine eZ E rfl I Ty.t238 rfl λb8 a w E I ho=>?_;clear ho;replace hC:=hH.at w (I.ai (b:=M.mb));refine RH 0 E I hH hC λa E=>?_;refine aZ 0 E I (J8 (p:=P) (I.tree M.tq) (λw' h=>cg.rd (h.pick (cg ga P.length gm P))) Cg ⟨by omega,m5⟩) λix cb a w E I=>?_;refine SA 3 E I λa w E I=>?_;refine RN 1 E I λa E=>?_;exact⟨_,ix,cb,E.ab [0,4,5,6,7,8,9],(aF.fold I M p ⟨s,A,T,J,ks,base,aw s.k⟩).sub⟩
  clear E;(try clear I);rintro a w ⟨b8,ix,cb,E,I⟩;refine IF 2 E I (λao a E=>?_) λao a E=>?_
  ·
   obtain⟨qj,oN,Oj⟩:=aca (l:=T.l) (frm:=(aw s.k:Int)) (P:=P) mP (by simpa [Tr.fK] using ao) rfl;change T.fK (aw s.k:Int) P∈T.l at qj;obtain⟨j,pb,HD,Ol⟩:=hI.Ko qj;have acf:=(hI.gk _ qj).2 pb (bF HD) Ol;have acg:=(hI.ar pb (bF HD)).2;refine aV 0 (λw0 w'=>Rd w' b8 0 (ch (T.fK (aw s.k:Int) P) ix cb)) [3,5,6] [0,1,4,3002,3005,1003,1006,7] E I λa w E I hH=>?_;have hC:=hH.at w (I.ai (b:=b8));refine RH 3 E I hH hC λa E=>?_;refine QH E (λw hc=>ae E (hc 4 _ rfl)) hC λa E=>?_;refine QH E (λw hc=>ae E (hc 3 _ rfl)) hC λa E=>?_;refine RH 0 E I hH hC λa E=>?_;refine CL 0 E I (GK (I.pick (aF W M p ⟨s,A,T,J,ks,base,aw s.k⟩)) HD Ol) λa w E I=>?_;replace hC:=hH.at w (I.ai (b:=b8));refine RH 0 E I hH hC λa E=>?_;refine SA 0 E I λa w E I=>?_;replace hC:=hH.at w (I.ai (b:=b8));refine RH 1 E I hH hC λa E=>?_;change (T.fK (aw s.k:Int) P).done≤P.length at oN;change pQ ((T.fK (aw s.k:Int) P).al.take (T.fK (aw s.k:Int) P).done) P=true at Oj;have dr:=(lj.ok _ qj).2.1;generalize T.fK (aw s.k:Int) P=bb at *;have e1:bb.al.take bb.done=P.take bb.done:=by
    have:=acb (u:=bb.al.take bb.done) (P:=P) (by rw[eA];omega) Oj
    rwa [eA,Nat.min_eq_left dr]at this
   exact⟨bb.done,pb.g,⟨oN,by rw[acf,e1];exact acd oN,acg⟩,E.ab [0,4,5,6,7],I.sub⟩
  refine RN 0 E I λa E=>?_;exact⟨0,s.g,⟨Nat.zero_le _,rfl,hw.qf a6⟩,E.ab [0,4,5,6,7],I.sub⟩
 clear E;(try clear I);rintro a w ⟨d,g1,⟨mT,Cm,ach⟩,E,I⟩;refine RN 1 E I λa E=>?_;replace I:=aF.open (I.pick (aF W M p ⟨s,A,T,J,ks,base,aw s.k⟩));dsimp only at I;obtain⟨zs,cV,eS,I⟩:=cg.open (I.pick (cg ga P.length gm P));have iL:zs.length=P.length:=by rw[← cV,a8]
 refine aV 0 (λw0 w'=>Rd w' M.mb 0 (dV p M ks.length base (aw s.k))∧Rd w' cH 0 (ints .i32 32 g1)) [4,8,10] [0,1,2,5,6,7,9,11,12,13,16,3003,3004,1008,1010,1014,1015,17,18] E I λa w E I hH=>?_;have hC:=hH.at w ⟨I.ai (b:=M.mb),I.ai (b:=cH)⟩;refine RH 10 E I hH hC λa E=>?_;rw[show P.length-d=(P.drop d).length from (c7 ..).symm]at E;refine RH 1 E I hH hC λa E=>?_;refine QH E (λw hc=>bT E underlying45 rfl Ty.t45 (Oh hc.1)) hC λa E=>?_;refine QH E (λw hc=>bT E underlying183 rfl Ty.t183 (hc.2)) hC λa E=>?_;refine RH 0 E I hH hC λa E=>?_;refine SS E (ae E (hC.1 8 _ rfl)) λa E=>?_;refine RH 1 E I hH hC λa E=>?_;rw[show ((aw s.k:Nat):Int)+(d:Int)=((aw s.k+d:Nat):Int) from rfl]at E;refine CL 0 E I (MJ (P:=P.drop d) (zs:=zs.drop d) (fr:=((aw s.k+d:Nat):Int)) (I.pick (aA W p M.aq M.cO)) a6 aH ach ⟨by rw[c7];omega,λb hb=>m5 b (List.mem_of_mem_drop hb)⟩ ⟨by omega,by have:aw s.k≤1000:=fG jW gX;omega⟩ (by rw[map_drop,cV]) (λw' h=>(U.mJ (h.sub (M:=Sl 22 1 ga P.length gm (zs.map aM)::ah ba zs::[]))).drop (by omega))) λa w E I=>?_;refine aZ 0 E I (y3 I) λad2 c2 a w E I=>?_;refine RN 2 E I λa E=>?_;refine RT 0 E I ?_;rw[Cm]at I;exact⟨ad2,c2,rfl,(aF.fold I M p ⟨s,A,T,J,ks,base,aw s.k⟩).sub⟩
end
end
section
section
variable {W w:World}{L:List SP}{n c cP cT nb nw rm me aL bq:Nat}{adP adT:Option Addr}{M:jJ}{B:jr}{x:UInt8}{p:Pr}{s:Pl}{m:Mu}{tb:List UInt8}{cf:Cf}{y id bf order cv workers room:Int}
set_option maxHeartbeats 1000000 in
theorem aci (I:U W w (aA W p adP cP::L))(hm:eV ⟨n,me,id,aL,bq,bf,order,nb,nw,rm⟩)(a6:dm p)(fE:cY ⟨bf,order,tb⟩)(aH:p.title.size≤1000000000)(ea:p.ops.length≤1000000000)(eP:tb.length≤1099511627776)(hT:∀ w',U W w' (aA W p adP cP::L)→aX w' adT tb.length tb) :
   Calls prog 59 #[.agg (bV ⟨n,me,id,aL,bq,bf,order,nb,nw,rm⟩).toArray,.agg (bO p adP cP).toArray,.slice adT tb.length cT] w λr w'=>∃ (M:jJ) (m:Mu),r=.returned (.tuple #[pt M.mb,.int .i64 0]) ∧
    (M.B.gs=⟨bf,order,tb⟩∧m.s=eD p ⟨n,me,id,aL,bq,bf,order,nb,nw,rm⟩∧MI p M 1 m∧m.T.l=[]∧m.J=[]∧∀ k∈m.ks,k.1=ld)∧U W w' (aF W M p m::aA W p adP cP::L):=by
 obtain⟨cf,df⟩:∃ cf:Cf,cf=⟨n,me,id,aL,bq,bf,order,nb,nw,rm⟩:=⟨_,rfl⟩;have cD:=hm;simp only[eV,fB]at cD;obtain⟨⟨h1,h2,h3⟩,⟨h4,h5,h6,h7⟩,h8,h9,fg,lP⟩:=cD;rw[← df];refine EN func59 ntmps59 rfl rfl λa E=>?_;refine BX 1 E I λb3 a w E I=>?_;change U W w (aa b3 28 (bV cf)::_) at I;refine BX 0 E I λb4 a w E I=>?_;change U W w (aa b4 45 (bO p adP cP)::_) at I;refine RN 6 E I λa E=>?_;rw[df]at E;refine bh 0 E I (Nc (tb:=tb) (I.pick (aA W p adP cP)) hm a6 fE aH ea eP (λw' hw=>hT w' hw.sub)) λB a w E ⟨Om,I⟩=>?_;rw[← df]at I;refine RN 9 E I λa E=>?_;replace E:=E.aP 19;refine RN 2 E I λa E=>?_;replace I:=I.bM 114 4 none;rw[bO]at I;refine RN 2 E I λa E=>?_;refine g8 E rfl I underlying43 Ty.t114 rfl rfl (by decide) (λh0=>(I.pick (aA W p adP cP)).rT adP h0) (by rw[jw Ei]) (Aj Kc _) (by omega) λgz gA a w E I=>?_;rw[nil_append,eG]at I;rw[eG]at E;refine ST 1 E I (λa w E I=>?_);refine RN 1 E I λa E=>?_;replace I:=(I.pick (Sl 114 4 gz p.ops.length gA (rows dR p.ops))).Ek;refine aV 0 (λw0 w'=>Rd w' b3 0 (bV cf)∧Rd w' b4 0 [.string p.title,.slice gz p.ops.length gA]) [3,4,5] [0,2,3001,1003,1004,1005,6,1007,8] E I λa w E I hH=>?_;have hC:=hH.at w ⟨I.ai (b:=b3),I.ai (b:=b4)⟩;refine RH 2 E I hH hC λa E=>?_;refine QH E (λw hc=>bT E underlying45 rfl Ty.t45 (hc.2)) hC λa E=>?_;refine RH 0 E I hH hC λa E=>?_;refine SS E (ae E (hC.1 9 _ rfl)) λa E=>?_;rw[show cf.room=(rm:Int) from by rw[df]]at E;refine RH 0 E I hH hC λa E=>?_;refine aZ 0 E I (Vz (n:=rm) I (by omega)) λsq r a w E I=>?_;replace hC:=hH.at w ⟨I.ai (b:=b3),I.ai (b:=b4)⟩;refine RH 0 E I hH hC λa E=>?_;refine bh 0 E I (Wi I) λjq a w E I=>?_;replace hC:=hH.at w ⟨I.ai (b:=b3),I.ai (b:=b4)⟩;refine RH 1 E I hH hC λa E=>?_;refine xW E rfl I rfl λgN a w E I ho=>?_;clear ho;change U W w (aa gN 177 [pt B.pb,.string p.title,.slice gz p.ops.length gA,pt sq,.pointer none,pt jq,.slice none 0 0,.int .i64 0,.int .i64 0]::_) at I;refine RN 1 E I λa E=>?_;refine aV 1 (λw0 w'=>Rd w' b3 0 (bV cf)∧w'.cell? ⟨gN,3,none⟩=some (pt sq)) [6] [0,1,2,3,5,3004,1006,1007,8,9,1010] E I λa w E I hH=>?_;have hC:=hH.at w ⟨I.ai (b:=b3),(I.ai (b:=gN)) 3 _ rfl⟩;refine RH 5 E I hH hC λa E=>?_;refine QH E (λw hc=>ae E (hc.2)) hC λa E=>?_;refine RH 0 E I hH hC λa E=>?_;refine SS E (ae E (hC.1 7 _ rfl)) λa E=>?_;rw[show cf.cv=(nb:Int) from by rw[df]]at E;refine RH 0 E I hH hC λa E=>?_;refine bh 0 E I (VJ (m:=(nb:Int)) I) λtq a w E I=>?_;rw[show (min (max (nb:Int) 0) 8).toNat=nb from by omega]at I;refine ST 2 E I (λa w E I=>?_);refine RN 3 E I λa E=>?_;refine SS E (ae E ((I.ai (b:=b3)) 8 _ rfl)) λa E=>?_;rw[show cf.workers=(nw:Int) from by rw[df]]at E;refine RN 1 E I λa E=>?_;refine aN (λμ a w=>∃ (ks:List Kx) (dw:Option Addr) (dG:Nat),(μ=nw-ks.length∧ks.length≤nw∧(∀ k∈ks,k.1=ld))∧Fr a 93 [(3,pt b3),(8,pt B.pb),(10,pt gN),(44,.int .i64 nw),(45,.int .i64 ks.length)]∧U W w (aa gN 177 (dV p ⟨gN,B,sq,r,tq,jq,dw,dG,gz,gA⟩ ks.length 0 0)::Sl 179 1 dw ks.length dG (gW ks)::ah (e9 p gz gA tq jq sq) ks::aa b3 28 (bV cf)::aR W B p (eD p cf)::aA W p gz gA::aA W p adP cP::Tree tq sq ⟨nb,[],0,0⟩::ax sq r ⟨0,4*rm,0,[]⟩::bI jq []::L)) (nw) (⟨[],none,0,⟨by simp,by simp,λk hk=>by cases hk⟩,E.ab [3,8,10,44,45],(show U W w (Sl 179 1 none ([]:List Kx).length 0 (gW [])::ah (e9 p gz gA tq jq sq) []::aa gN 177 (dV p ⟨gN,B,sq,r,tq,jq,none,0,gz,gA⟩ ([]:List Kx).length 0 0)::_) from (I.ja (f:=e9 p gz gA tq jq sq)).bM 179 1 none).sub⟩) ?_;clear E I;rintro μ a w ⟨ks,dw,dG,⟨rfl,dI,zG⟩,E,I⟩;refine IF 3 E I (λao a E=>?_) λao a E=>?_
 ·
  refine aV 1 (λw0 w'=>Rd w' gN 0 (dV p ⟨gN,B,sq,r,tq,jq,dw,dG,gz,gA⟩ ks.length 0 0)) [8,12,16,20,21,22] [0,1,2,3,5,6,7,9,10,11,13,14,15,17,18,19,3004,3008,3012,3016,1020,1021,1022,1023,24,25,1026] E I λa w E I hH=>?_;have hC:=hH.at w (I.ai (b:=gN));refine RH 16 E I hH hC λa E=>?_;refine QH E (λw hc=>ae E (hc 6 _ rfl)) hC λa E=>?_;refine QH E (λw hc=>bT E underlying45 rfl Ty.t45 (Oh hc)) hC λa E=>?_;refine QH E (λw hc=>ae E (hc 4 _ rfl)) hC λa E=>?_;refine QH E (λw hc=>ae E (hc 5 _ rfl)) hC λa E=>?_;refine RH 0 E I hH hC λa E=>?_;refine SS E (ae E (hC 3 _ rfl)) λa E=>?_;refine RH 0 E I hH hC λa E=>?_;refine bh 0 E I (X4 I) λwb a w E I=>?_;replace hC:=hH.at w (I.ai (b:=gN));refine RH 0 E I hH hC λa E=>?_;refine cp E rfl I underlying175 Ty.t179 rfl rfl rfl rfl (by decide) (by decide) λb69 a w E I ho=>?_;clear ho;replace hC:=hH.at w (I.ai (b:=gN));refine RH 0 E I hH hC λa E=>?_;refine cQ E rfl I underlying175 Ty.t179 rfl rfl I.ai rfl (by simp[Value.oneCell']) (by decide) (by decide) (by omega) λvC vD a w E I=>?_;refine ST 2 E I (λa w E I=>?_);have p0:U W w (aa gN 177 (dV p ⟨gN,B,sq,r,tq,jq,vC,vD,gz,gA⟩ (ks++[(ld,wb)]).length 0 0)::Sl 179 1 vC (ks++[(ld,wb)]).length vD (gW (ks++[(ld,wb)]))::aa wb 247 (cx p gz gA tq jq sq ld)::ah (e9 p gz gA tq jq sq) ks::aa b3 28 (bV cf)::aR W B p (eD p cf)::aA W p gz gA::aA W p adP cP::Tree tq sq ⟨nb,[],0,0⟩::ax sq r ⟨0,4*rm,0,[]⟩::bI jq []::L):=by
   have e1:(ks++[(ld,wb)]).length=ks.length+1:=by simp
   have e2:gW (ks++[(ld,wb)])=gW ks++[pt wb]:=by simp[gW]
   rw[e1,e2];change U W w (aa gN 177 (dV p ⟨gN,B,sq,r,tq,jq,vC,vD,gz,gA⟩ (ks.length+1) 0 0)::Sl 179 1 vC (ks.length+1) vD (gW ks++[pt wb])::_) at I;exact I.sub
  have On:=U.j1 (f:=e9 p gz gA tq jq sq) (x:=(ld,wb)) (l:=ks) (p0.sub (M:=aa wb 247 (cx p gz gA tq jq sq ld)::ah (e9 p gz gA tq jq sq) ks::aa gN 177 (dV p ⟨gN,B,sq,r,tq,jq,vC,vD,gz,gA⟩ (ks++[(ld,wb)]).length 0 0)::Sl 179 1 vC (ks++[(ld,wb)]).length vD (gW (ks++[(ld,wb)]))::aa b3 28 (bV cf)::aR W B p (eD p cf)::aA W p gz gA::aA W p adP cP::Tree tq sq ⟨nb,[],0,0⟩::ax sq r ⟨0,4*rm,0,[]⟩::bI jq []::L));replace I:=On;clear p0 On;refine RN 2 E I λa E=>?_;have acj:(ks++[(ld,wb)]).length=ks.length+1:=by simp
  refine⟨nw-(ks.length+1),by omega,ks++[(ld,wb)],vC,vD,⟨by omega,by omega,λk hk=>?_⟩,?_,I.sub⟩
  ·rcases eT.1 hk with hk | hk
   ·exact zG k hk
   ·rw[iK.1 hk]
  ·rw[acj];exact E.ab [3,8,10,44,45]
 refine aV 1 (λw0 w'=>Rd w' gN 0 (dV p ⟨gN,B,sq,r,tq,jq,dw,dG,gz,gA⟩ ks.length 0 0)) [6] [0,1,2,3,5,3004,1006,1007,8,9,10,11,12,1013] E I λa w E I hH=>?_;have hC:=hH.at w (I.ai (b:=gN));refine RH 5 E I hH hC λa E=>?_;refine QH E (λw hc=>ae E (hc 3 _ rfl)) hC λa E=>?_;refine RH 0 E I hH hC λa E=>?_;refine CL 0 E I (Ni (I.pick (aR W B p (eD p cf)))) λa w E I=>?_;replace hC:=hH.at w (I.ai (b:=gN));refine RH 0 E I hH hC λa E=>?_;refine bh 0 E I (JS (g:=(eD p cf).g) (I.store sq) (by simp[Sn.used,Vy];omega) (by simp)) λt a w E ⟨⟨ht1,GO⟩,I⟩=>?_;refine ST 5 E I (λa w E I=>?_);refine RN 3 E I λa E=>?_;refine SS E (ae E ((I.ai (b:=b3)) 3 _ rfl)) λa E=>?_;rw[show cf.aL=(aL:Int) from by rw[df]]at E;refine ST 2 E I (λa w E I=>?_);change U W w (aa gN 177 (dV p ⟨gN,B,sq,r,tq,jq,dw,dG,gz,gA⟩ ks.length 1 aL)::_) at I;refine RT 4 E I ?_;obtain rfl:ks.length=nw:=by omega
 have vE:=aF.fold I ⟨gN,B,sq,r,tq,jq,dw,dG,gz,gA⟩ p ⟨eD p cf,(⟨0,4*rm,0,[]⟩:Sn).add (eD p cf).g t,⟨nb,[],0,0⟩,[],ks,1,aL⟩;refine⟨⟨gN,B,sq,r,tq,jq,dw,dG,gz,gA⟩,⟨eD p cf,(⟨0,4*rm,0,[]⟩:Sn).add (eD p cf).g t,⟨nb,[],0,0⟩,[],ks,1,aL⟩,rfl,⟨Om,rfl,?_,rfl,rfl,zG⟩,vE.sub⟩;obtain⟨ps,ev,mr,hk⟩:∃ ps ev mr,(eD p cf).k={ fl cf with ps:=ps,ev:=ev,mr:=mr }:=(xn (p:=p) (c:=cf) (by rw[df];exact hm)).eC.2.2;have HE:ct p (eD p cf):=ct.new (by rw[df];exact hm);have hfd:aw (eD p cf).k=aL:=by
  obtain⟨l,jA,j8⟩:=BD HE.wc.lu;rw[aw,j8];rw[hk]at jA;have vF:l∈List.replicate cf.n.toNat (List.replicate cf.aL.toNat 0):=jA;rw[(List.mem_replicate.1 vF).2,kJ,df];rfl
 have b6:∀ k∈ks.map (·.1),k=ld:=λk hk=>by
  obtain⟨y,hy,rfl⟩:=cR.1 hk;exact zG y hy
 exact { wf:=HE,gs:=by rw[Om];exact fE,front:=hfd.symm,gk:=λy hy=>(by cases hy),J:=by simp,most:=by rw[hk,df];rfl,workers:=by rw[hk,df];rfl,ks:=by dsimp only;omega,room:=⟨by rw[hk,df];simp only[Sn.add,fl];omega,by simp only[Sn.add];omega⟩,n:=⟨a7 _,Nat.zero_le _,Nat.zero_le _⟩,inv:=⟨t,by
  refine⟨?_,λx hx=>?_,λx hx _=>?_,λy hy=>(by cases hy),λk hk=>?_⟩
  ·rw[Nk (λk hk=>by rw[b6 k hk];rfl)];exact lE _
  ·rw[iK.1 hx];exact⟨rfl,HE.qf a6⟩
  ·rw[iK.1 hx];exact⟨rfl,rfl⟩
  ·rw[b6 k hk];exact⟨Int.le_refl _,λh=>(by cases h)⟩⟩ }
end
end
end Go.Proofs.YteoldcfapaiobaaGreat
