/- quintainref21.Player. -/
import Derived.Test.YteoldcfapaiobaaGreatF12RefC
import Derived.Test.YteoldcfapaiobaaGreatF11Mul
import Derived.Test.YteoldcfapaiobaaGreatF09Core
namespace Go.Proofs.YteoldcfapaiobaaGreat
open Tryz
open List (length_range take_succ_cons drop_left take_zero foldl_cons nil_append map_cons mem_range drop_eq_nil_of_le getElem_map cons_append append_nil map_take map_drop foldl_append flatMap_cons)
open Go.RowKit
set_option linter.unusedVariables false
set_option linter.unusedSimpArgs false
set_option maxRecDepth 10000
set_option synthInstance.maxSize 4000
set_option synthInstance.maxHeartbeats 400000
section
structure ga where
 pb:Nat
 core:oj
 aq:Option Addr
 cO:Nat
 adT:Option Addr
 cT:Nat
 gs:Gs
abbrev eY (p:Pr)(B:ga)(g:Nat→Int):List Value:=[pt B.core.cb,.string p.title,.slice B.aq p.ops.length B.cO,.int .i64 B.gs.kind,.int .i64 B.gs.order,.slice B.adT B.gs.table.length B.cT]++ints .i32 32 g
theorem NT {w:World}{b:Nat}{p:Pr}{B:ga}{g:Nat→Int}(h:Rd w b 0 (eY p B g)):Rd w b 1 (bP p B.aq B.cO):=h.part 1 2
theorem abD {w:World}{b:Nat}{p:Pr}{B:ga}{g:Nat→Int}(h:Rd w b 0 (eY p B g)):Rd w b 3 (dp B.gs B.adT B.cT):=h.part 3 3
theorem Ck {w:World}{b:Nat}{p:Pr}{B:ga}{g:Nat→Int}(h:Rd w b 0 (eY p B g)):Rd w b 6 (ints .i32 32 g):=by
 have h1:=h.part 6 32
 rwa [show ((eY p B g).drop 6).take 32=ints .i32 32 g from by
  show (ints .i32 32 g).take 32=_;exact gg (by rw[dg];exact bf _)]at h1
theorem NU (p:Pr)(B:ga)(g:Nat→Int):(eY p B g).length=38:=by rw[eY,aI,dg];rfl
theorem abE (p:Pr)(B:ga)(g g':Nat→Int):cG (eY p B g) 6 (ints .i32 32 g')=eY p B g':=by
 rw[cG,dg,drop_eq_nil_of_le (by rw[NU];exact bf _),append_nil,eY,eY]
 congr 1
def b0 (W:World)(B:ga)(p:Pr)(s:Pl):SP:=λh=>cn [aa B.pb 51 (eY p B s.g),aZ B.core s.k,aA W p B.aq B.cO] h
section
variable {W w:World}{L R:List SP}{n c i cP cT:Nat}{ad adP adT:Option Addr}{B:ga}{x:UInt8}{p:Pr}{s:Pl}{bs tb:List UInt8}{k:Ks}{C:oj}{A:m1}
theorem b0.open (I:U W w (b0 W B p s::L)):U W w (aa B.pb 51 (eY p B s.g)::aZ B.core s.k::aA W p B.aq B.cO::L) :=
 I.open (M:=[_,_,_]) λ_ h=>h
theorem b0.fold (I:U W w L)(B:ga)(p:Pr)(s:Pl)[kk:fJ L [aa B.pb 51 (eY p B s.g),aZ B.core s.k,aA W p B.aq B.cO] R]:U W w (b0 W B p s::R) :=
 U.shut (M:=[_,_,_]) (I.perm kk.perm) λ_ h=>h
theorem G9 (I:U W w (bM C.lb C.lo C.cL k.ls::aa C.cb 72 (cX k C A)::L))(hk:WC k):Calls prog 19 #[pt C.cb] w λr w'=>r=.returned (.int .i64 (aw k))∧U W w' (bM C.lb C.lo C.cL k.ls::aa C.cb 72 (cX k C A)::L):=by
 have hn:=hk.n;have fb:=hk.ls;refine EN func19 ntmps19 rfl rfl λa E=>?_;refine RN 7 E I λa E=>?_;obtain⟨xs,ba,I⟩:=bM.open I;have ca:xs.length=k.ls.length:=by rw[← ba,fZ]
 rw[← ca]at E;refine CL 0 E I (B5 (xs:=xs) I (by omega) (by omega) (λw' hw=>U.pg hw)) λa w E I=>?_;refine RT 1 E I ?_;exact⟨by rw[ba];rfl,bM.close I ba⟩
theorem Ha (I:U W w (b0 W B p s::L))(hw:WP p s)(a6:dk p)(aH:p.title.size≤1000000000):Calls prog 66 #[pt B.pb] w λr w'=>r=.returned (.tuple #[])∧U W w' (b0 W B p (ez p s)::L):=by
 refine EN func66 ntmps66 rfl rfl λa E=>?_;refine RN 0 E I λa E=>?_;refine aQ (λμ a w=>∃ (i:Nat),(μ=aw s.k-s.k.mr.length-i∧i≤aw s.k-s.k.mr.length)∧Fr a 60 [(0,pt B.pb)]∧U W w (b0 W B p (iD p i s)::L)) (aw s.k-s.k.mr.length) (⟨0,⟨rfl,by omega⟩,E.ab [0],I⟩) ?_;clear E I;rintro μ a w ⟨i,⟨rfl,hi⟩,E,I⟩;obtain⟨kr,fb,mE⟩:=hw.q0 i hi;have eP:iD p (i+1) s=ob p (iD p i s):=FT p i s;have DM:=hw.low;have wu:aw (iD p i s).k=aw s.k:=by rw[aw,fb];rfl
 generalize GF:iD p i s=si at I kr fb mE eP wu;replace I:=b0.open I;have bD:=kr.wc.lu;have ib:si.k.ls.length≤8:=by rw[kr.wc.ls];exact kr.wc.n.2
 have q9:0<si.k.ls.length:=by rw[kr.wc.ls];have:=kr.wc.n;omega
 have aan:aw si.k≤1000:=fG kr.wc.nF kr.wc.lV;obtain⟨A,I⟩:=aZ.open (I.pick (aZ B.core si.k));refine aX 2 (λw0 w'=>Rd w' B.pb 0 (eY p B si.g)∧Rd w' B.core.cb 0 (cX si.k B.core A)) [11,12] [0,1,2,8,9,10,3003,4,5,3006,7,1011,1012,13] E I λa w E I hH=>?_;have hC:=hH.at w ⟨I.ai (b:=B.pb),I.ai (b:=B.core.cb)⟩;refine RH 6 E I hH hC λa E=>?_;refine QH E (λw hc=>ae E (hc.1 0 _ rfl)) hC λa E=>?_;refine RH 2 E I hH hC λa E=>?_;refine QH E (λw hc=>ae E (hc.2 16 _ rfl)) hC λa E=>?_;refine RH 1 E I hH hC λa E=>?_;refine SS E (ae E (hC.1 0 _ rfl)) λa E=>?_;refine RH 0 E I hH hC λa E=>?_;refine CL 0 E I (G9 ((I.pick (aa B.core.cb 72 (cX si.k B.core A))).pick (bM B.core.lb B.core.lo B.core.cL si.k.ls)) kr.wc) λa w E I=>?_;replace hC:=hH.at w ⟨I.ai (b:=B.pb),I.ai (b:=B.core.cb)⟩;refine RH 1 E I hH hC λa E=>?_;refine IF 0 E I (λaj a E=>?_) λaj a E=>?_
 ·
  have qK:si.k.mr.length<aU si.k.ls:=by
   have:aU si.k.ls=aw si.k:=rfl;omega
  have aao:si.k.mr.length<aw si.k:=qK;refine RN 11 E I λa E=>?_;obtain⟨xs,ba,I⟩:=bM.open (I.pick (bM B.core.lb B.core.lo B.core.cL si.k.ls));have ca:xs.length=si.k.ls.length:=by rw[← ba,fZ]
  have eT:=nC si.k.ls si.k.mr.length;refine aX 0 (λw0 w'=>Rd w' B.pb 0 (eY p B si.g)∧Rd w' B.core.cb 0 (cX si.k B.core A)) [8,13,14,15,16,18] [0,1,2,3,5,6,7,9,10,11,12,17,3004,3008,1013,1014,1015,1016,1018,1019,20,21,22,23,24,1025] E I λa w E I hH=>?_;have hC:=hH.at w ⟨I.ai (b:=B.pb),I.ai (b:=B.core.cb)⟩;refine RH 12 E I hH hC λa E=>?_;refine QH E (λw hc=>bT E underlying45 rfl Ty.t45 (NT hc.1)) hC λa E=>?_;refine QH E (λw hc=>bT E underlying49 rfl Ty.t49 (Ck hc.1)) hC λa E=>?_;refine RH 0 E I hH hC λa E=>?_;refine SS E (ae E (hC.1 0 _ rfl)) λa E=>?_;refine RH 2 E I hH hC λa E=>?_;refine SS E (ae E (hC.2 10 _ rfl)) λa E=>?_;rw[← ca]at E;refine RH 0 E I hH hC λa E=>?_;refine aY 0 E I (GM (xs:=xs) (f:=si.k.mr.length) I (by omega) (by omega) (λw' hw=>U.pg hw) (by rw[ba];exact qK)) λiR jm a w E I=>?_;replace hC:=hH.at w ⟨I.ai (b:=B.pb),I.ai (b:=B.core.cb)⟩;rw[ba]at E I;refine RH 0 E I hH hC λa E=>?_;refine bj 0 E I (EV (b:=bJ si.k.ls si.k.mr.length) (fr:=si.k.mr.length) (I.pick (aA W p B.aq B.cO)) a6 aH (kr.qc a6) (by omega) (by omega) (λw' hw=>(hw.pick (Sl 5 1 iR (bJ si.k.ls si.k.mr.length).length jm (bc (bJ si.k.ls si.k.mr.length)))).cv iR _ rfl rfl)) λnst a w E ⟨p5,I⟩=>?_;refine RN 5 E I λa E=>?_;refine rq E rfl I Ty.t49 uy (by rw[dg,NU];decide) λa w E I=>?_;rw[abE]at I;refine RN 0 E I λa E=>?_;replace I:=bM.close (I.sub (M:=Sl 65 1 (some ⟨B.core.lb,B.core.lo,none⟩) si.k.ls.length B.core.cL (xs.map aL)::ah a7 xs::aa B.pb 51 (eY p B (e8 p si.k.mr.length (bJ si.k.ls si.k.mr.length) si.g))::aA W p B.aq B.cO::aa B.core.cb 72 (cX si.k B.core A)::aa B.core.hb 3 (fc si.k.ps)::aa B.core.dX 3 (eX si.k.ps)::aa B.core.wb 313 (rows ff si.k.ps)::aa B.core.xb 4 (fe si.k.ps)::Sl 100 1 A.ck si.k.mr.length A.cM (c3 si.k.mr)::Sl 102 3 A.adE si.k.ev.length A.cE (rows bW si.k.ev)::L)) ba;replace I:=aZ.fold I B.core si.k A;refine aX 0 (λw0 w'=>Rd w' B.pb 0 (eY p B (e8 p si.k.mr.length (bJ si.k.ls si.k.mr.length) si.g))) [7,8] [0,1,2,4,5,6,3003,1007,1008,1009] E I λa w E I hH=>?_;have hC:=hH.at w (I.ai (b:=B.pb));refine RH 6 E I hH hC λa E=>?_;refine QH E (λw hc=>ae E (hc 0 _ rfl)) hC λa E=>?_;refine RH 0 E I hH hC λa E=>?_;refine SS E (bT E underlying49 rfl Ty.t49 (Ck hC)) λa E=>?_;refine RH 0 E I hH hC λa E=>?_;refine CL 0 E I (Ze I) λa w E I=>?_;replace hC:=hH.at w (I.ai (b:=B.pb));refine RH 0 E I hH hC λa E=>?_;refine CL 0 E I (abh (I.pick (aZ B.core si.k)) kr.wc (by omega) (yL _)) λa w E I=>?_;refine RN 0 E I λa E=>?_;exact⟨aw s.k-s.k.mr.length-(i+1),by omega,i+1,⟨rfl,by omega⟩,E.ab [0],by
   rw[eP];show U W w (b0 W B p ⟨lU si.k (gJ (gu (e8 p si.k.mr.length (bJ si.k.ls si.k.mr.length) si.g))),e8 p si.k.mr.length (bJ si.k.ls si.k.mr.length) si.g⟩::L);exact (b0.fold I B p ⟨lU si.k (gJ (gu (e8 p si.k.mr.length (bJ si.k.ls si.k.mr.length) si.g))),e8 p si.k.mr.length (bJ si.k.ls si.k.mr.length) si.g⟩).sub⟩
 refine RT 0 E I ?_;obtain rfl:i=aw s.k-s.k.mr.length:=by
  have:aU si.k.ls=aw si.k:=rfl;omega
 refine⟨rfl,?_⟩;rw[ez,GF];exact (b0.fold (aZ.fold I B.core si.k A) B p si).sub
theorem abF (I:U W w (b0 W B p s::L))(hw:cu p s)(a6:dk p)(aH:p.title.size≤1000000000):Calls prog 71 #[pt B.pb,.int .u8 (x.toNat:Nat)] w λr w'=>r=.returned (.int .i64 (dK p x s).1)∧U W w' (b0 W B p (dK p x s).2::L):=by
 have h1:=vd x s.k;have lO:=hw.toWP.more (hw.wc.al x) (hw.held.al x) h1.1 h1.2;replace I:=b0.open I;refine EN func71 ntmps71 rfl rfl λa E=>?_;refine CL 8 E I (abj (x:=x) (I.pick (aZ B.core s.k)) hw.wc) λa w E I=>?_;refine RN 1 E I λa E=>?_;replace I:=b0.fold I B p ⟨(c1 x s.k).2,s.g⟩;refine CL 2 E I (Ha I lO a6 aH) λa w E I=>?_;refine RT 3 E I ?_;exact⟨rfl,I⟩
theorem abG (I:U W w (b0 W B p s::L))(hw:cu p s)(a6:dk p)(aH:p.title.size≤1000000000)(hb:bs.length≤65536)(hc:bs.length≤c)(hp:∀ w',U W w' L→aW w' ad bs.length bs) :
   Calls prog 110 #[pt B.pb,.slice ad bs.length c] w λr w'=>r=.returned (.int .i64 (dB p bs s).1)∧U W w' (b0 W B p (dB p bs s).2::L):=by
 have h1:=sh bs s.k;have lO:=hw.toWP.more (hw.wc.recv bs).1 ((hw.wc.recv bs).2 hw.held) h1.1 h1.2;replace I:=b0.open I;refine EN func110 ntmps110 rfl rfl λa E=>?_;refine CL 8 E I (abB (bs:=bs) (ad:=ad) (c:=c) (I.pick (aZ B.core s.k)) hw.wc hw.held hb hc (λw' df=>hp w' df.tail.tail)) λa w E I=>?_;refine RN 1 E I λa E=>?_;replace I:=b0.fold I B p ⟨(dm bs s.k).2,s.g⟩;refine CL 2 E I (Ha I lO a6 aH) λa w E I=>?_;refine RT 3 E I ?_;exact⟨rfl,I⟩
theorem NV (I:U W w (b0 W B p s::L))(hw:cu p s):Calls prog 77 #[pt B.pb] w λr w'=>∃ ad c,r=.returned (.tuple #[.slice ad 128 c,.int .i64 (lX s).2])∧U W w' (Sl 5 1 ad 128 c (bc (lX s).1)::b0 W B p s::L):=by
 replace I:=b0.open I;refine EN func77 ntmps77 rfl rfl λa E=>?_;refine aX 4 (λw0 w'=>Rd w' B.pb 0 (eY p B s.g)) [4,8] [0,1,2,5,6,7,3003,3008,1004,1009,10,11] E I λa w E I hH=>?_;have hC:=hH.at w (I.ai (b:=B.pb));refine RH 6 E I hH hC λa E=>?_;refine QH E (λw hc=>bT E underlying49 rfl Ty.t49 (Ck hc)) hC λa E=>?_;refine QH E (λw hc=>ae E (hc 0 _ rfl)) hC λa E=>?_;refine RH 0 E I hH hC λa E=>?_;refine aY 0 E I (u6 I) λad c a w E I=>?_;replace hC:=hH.at w (I.ai (b:=B.pb));refine RH 0 E I hH hC λa E=>?_;refine CL 0 E I (G1 (I.pick (aZ B.core s.k)) hw.wc) λa w E I=>?_;refine RN 2 E I λa E=>?_;refine RT 0 E I ?_;exact⟨ad,c,rfl,(b0.fold I B p s).sub (M:=Sl 5 1 ad 128 c (bc (gu s.g))::b0 W B p s::L)⟩
theorem Hb (I:U W w (bM C.lb C.lo C.cL k.ls::aa C.cb 72 (cX k C A)::L))(hk:WC k):Calls prog 20 #[pt C.cb] w λr w'=>r=.returned (.int .i64 (aG k))∧U W w' (bM C.lb C.lo C.cL k.ls::aa C.cb 72 (cX k C A)::L):=by
 have eB:k.me<k.ls.length:=by rw[hk.ls];exact hk.me
 refine EN func20 ntmps20 rfl rfl λa E=>?_;refine bS 3 [8] [0,1,2,4,5,6,7,3003,1008,9,10,1011,12,13] E I λa w E I hH hC=>?_;obtain⟨xs,ba,I⟩:=bM.open I;have ca:xs.length=k.ls.length:=by rw[← ba,fZ]
 obtain⟨m5,ol,y,zq,hy,pd,qj⟩:=(U.pg I).at (i:=k.me) (by omega);cases zq;have jl:aG k=y.2.2.length:=by
  show (k.ls.getD k.me []).length=_;rw[← ba,su hy]
 replace hH:=Hd.gD I;refine RH 11 E I hH hC λa E=>?_;refine SS E (ae E (pd)) λa E=>?_;rw[aL]at E;refine RH 2 E I hH hC λa E=>?_;refine RT 0 E I ?_;exact⟨by rw[jl],bM.close I ba⟩
theorem abH (I:U W w (b0 W B p s::L))(hw:cu p s)(a6:dk p)(aH:p.title.size≤1000000000)(fE:cY B.gs)(hT:aW W B.adT B.gs.table.length B.gs.table):Calls prog 78 #[pt B.pb] w λr w'=>∃ ad c,r=.returned (.tuple #[.slice ad 128 c,.int .i64 (fD p B.gs s).2])∧U W w' (Sl 5 1 ad 128 c (bc (fD p B.gs s).1)::b0 W B p s::L):=by
 have ib:s.k.ls.length≤8:=by rw[hw.wc.ls];exact hw.wc.n.2
 have q9:0<s.k.ls.length:=by rw[hw.wc.ls];have:=hw.wc.n;omega
 have gW:=hw.wc.lV;have fw:aw s.k≤aG s.k:=hw.wc.nF;replace I:=b0.open I;refine EN func78 ntmps78 rfl rfl λa E=>?_;refine aX 5 (λw0 w'=>Rd w' B.pb 0 (eY p B s.g)) [4,8] [0,1,2,5,6,7,3003,3008,1004,1009,10] E I λa w E I hH=>?_;have hC:=hH.at w (I.ai (b:=B.pb));refine RH 6 E I hH hC λa E=>?_;refine QH E (λw hc=>ae E (hc 0 _ rfl)) hC λa E=>?_;refine QH E (λw hc=>ae E (hc 0 _ rfl)) hC λa E=>?_;refine RH 0 E I hH hC λa E=>?_;refine CL 0 E I (sy (I.pick (aZ B.core s.k)) hw.wc) λa w E I=>?_;replace hC:=hH.at w (I.ai (b:=B.pb));refine RH 0 E I hH hC λa E=>?_;refine CL 0 E I (G1 I hw.wc) λa w E I=>?_;refine RN 1 E I λa E=>?_;refine IF 0 E I (λaj a E=>?_) λaj a E=>?_
 ·
  replace I:=b0.fold I B p s;refine aY 2 E I (NV I hw) λad c a w E I=>?_;refine RT 4 E I ?_;refine⟨ad,c,?_,?_⟩
  ·rw[fD,ak (by omega)]
  ·rw[fD,ak (by omega)];exact I
 refine RN 1 E I λa E=>?_;obtain⟨A,I⟩:=aZ.open (I.pick (aZ B.core s.k));refine aX 0 (λw0 w'=>Rd w' B.pb 0 (eY p B s.g)∧Rd w' B.core.cb 0 (cX s.k B.core A)) [7,11,12,16,17,18,19,23,27,28,29,31] [0,1,2,4,5,6,8,9,10,13,14,15,20,21,22,24,25,26,3003,3007,3011,3016,3017,3018,3019,3023,3027,2012,2028,2029,2030,1031,1032] E I λa w E I hH=>?_;have hC:=hH.at w ⟨I.ai (b:=B.pb),I.ai (b:=B.core.cb)⟩;refine RH 18 E I hH hC λa E=>?_;refine QH E (λw hc=>bT E underlying45 rfl Ty.t45 (NT hc.1)) hC λa E=>?_;refine QH E (λw hc=>bT E underlying49 rfl Ty.t49 (Ck hc.1)) hC λa E=>?_;refine QH E (λw hc=>ae E (hc.1 0 _ rfl)) hC λa E=>?_;refine QH E (λw hc=>ae E (hc.1 0 _ rfl)) hC λa E=>?_;refine RH 2 E I hH hC λa E=>?_;refine QH E (λw hc=>ae E (hc.2 10 _ rfl)) hC λa E=>?_;refine QH E (λw hc=>bT E underlying47 rfl Ty.t47 (abD hc.1)) hC λa E=>?_;refine QH E (λw hc=>ae E (hc.1 0 _ rfl)) hC λa E=>?_;refine RH 0 E I hH hC λa E=>?_;refine DN [(12,[2028,2029,2030,1031,1032]),(31,[1012,1028,1029,1030,1032])] (by kernel_rfl) rfl ⟨⟨_,rfl,?_⟩,⟨_,rfl,?_⟩,trivial⟩
 ·
  refine RH 0 E I hH hC λa E=>?_;refine CL 0 E I (G9 ((I.pick (aa B.core.cb 72 (cX s.k B.core A))).pick (bM B.core.lb B.core.lo B.core.cL s.k.ls)) hw.wc) λa w E I=>?_;replace hC:=hH.at w ⟨I.ai (b:=B.pb),I.ai (b:=B.core.cb)⟩;refine RH 0 E I hH hC λa E=>?_;refine DN [(28,[2029,2030,1031,1032]),(31,[1028,1029,1030,1032])] (by kernel_rfl) rfl ⟨⟨_,rfl,?_⟩,⟨_,rfl,?_⟩,trivial⟩
  ·
   refine RH 0 E I hH hC λa E=>?_;refine CL 0 E I (Hb ((I.pick (aa B.core.cb 72 (cX s.k B.core A))).pick (bM B.core.lb B.core.lo B.core.cL s.k.ls)) hw.wc) λa w E I=>?_;replace hC:=hH.at w ⟨I.ai (b:=B.pb),I.ai (b:=B.core.cb)⟩;refine RH 0 E I hH hC λa E=>?_;refine DN [(29,[2030,1031,1032]),(31,[1029,1030,1032])] (by kernel_rfl) rfl ⟨⟨_,rfl,?_⟩,⟨_,rfl,?_⟩,trivial⟩
   ·
    obtain⟨xs,ba,I⟩:=bM.open (I.pick (bM B.core.lb B.core.lo B.core.cL s.k.ls));have ca:xs.length=s.k.ls.length:=by rw[← ba,fZ]
    rw[← ca]at E;refine RH 0 E I hH hC λa E=>?_;refine j2 0 E I (B6 (xs:=xs) (b:=B.gs) (r:=0) (to:=aG s.k) (by decide) I fE (by omega) (by omega) (by rw[ba];exact hw.wc.nE) gW (λw' df=>U.pg df) (λw' df=>hT.gD df)) λfY gk X a w E ⟨⟨tQ,iy⟩,I⟩=>?_;replace hC:=hH.at w ⟨I.ai (b:=B.pb),I.ai (b:=B.core.cb)⟩;have mX:=iy rfl;subst mX;rw[xk,ba]at I;rw[ba]at E;have jB:(dv B.gs s.k.ls (aG s.k)).length=aG s.k-aU s.k.ls:=w5 _ _ _;have m0:∀ b∈dv B.gs s.k.ls (aG s.k),b.length≤1099511627776:=λb hb=>by
     rw[dv,cR]at hb;obtain⟨i,_,rfl⟩:=hb;rw[nC,jj,a8];omega
    obtain⟨ys,g6,jg,I⟩:=ch.open I;refine RH 0 E I hH hC λa E=>?_;refine DN [(30,[1031,1032]),(31,[1030,1032])] (by kernel_rfl) rfl ⟨⟨_,rfl,?_⟩,⟨_,rfl,?_⟩,trivial⟩
    ·
     refine RH 0 E I hH hC λa E=>?_;refine CL 0 E I (zw (P:=dv B.gs s.k.ls (aG s.k)) (zs:=ys) (fr:=aw s.k) (I.pick (aA W p B.aq B.cO)) jB a6 aH (hw.qc a6) ⟨by omega,m0⟩ g6 (by omega) (λw' df=>U.mF (df.sub (M:=Sl 22 1 fY (aG s.k-aU s.k.ls) gk (ys.map aL)::ah a7 ys::[])))) λa w E ⟨p5,I⟩=>?_;refine RN 0 E I λa E=>?_;refine e0 E rfl I Ty.t49 rfl λb4 a w E I ho=>?_;clear ho;replace hC:=hH.at w ⟨I.ai (b:=B.pb),I.ai (b:=B.core.cb)⟩;refine RH 0 E I hH hC λa E=>?_;refine SA 0 E I λa w E I=>?_;refine RN 0 E I λa E=>?_;replace I:=bM.close (I.sub (M:=Sl 65 1 (some ⟨B.core.lb,B.core.lo,none⟩) s.k.ls.length B.core.cL (xs.map aL)::ah a7 xs::aa b4 49 (ints .i32 32 (foldI p (aw s.k) s.g (dv B.gs s.k.ls (aG s.k))))::aa B.pb 51 (eY p B s.g)::aA W p B.aq B.cO::aa B.core.cb 72 (cX s.k B.core A)::aa B.core.hb 3 (fc s.k.ps)::aa B.core.dX 3 (eX s.k.ps)::aa B.core.wb 313 (rows ff s.k.ps)::aa B.core.xb 4 (fe s.k.ps)::Sl 100 1 A.ck s.k.mr.length A.cM (c3 s.k.mr)::Sl 102 3 A.adE s.k.ev.length A.cE (rows bW s.k.ev)::L)) ba;replace I:=aZ.fold I B.core s.k A;refine aX 1 (λw0 w'=>Rd w' b4 0 (ints .i32 32 (foldI p (aw s.k) s.g (dv B.gs s.k.ls (aG s.k))))∧Rd w' B.pb 0 (eY p B s.g)) [1,5] [2,3,4,3000,3005,1001,1006,7,8] E I λa w E I hH=>?_;have hC:=hH.at w ⟨I.ai (b:=b4),I.ai (b:=B.pb)⟩;refine RH 3 E I hH hC λa E=>?_;refine QH E (λw hc=>bT E underlying49 rfl Ty.t49 (hc.1)) hC λa E=>?_;refine QH E (λw hc=>ae E (hc.2 0 _ rfl)) hC λa E=>?_;refine RH 0 E I hH hC λa E=>?_;refine aY 0 E I (u6 I) λad2 c2 a w E I=>?_;replace hC:=hH.at w ⟨I.ai (b:=b4),I.ai (b:=B.pb)⟩;refine RH 0 E I hH hC λa E=>?_;refine CL 0 E I (sy (I.pick (aZ B.core s.k)) hw.wc) λa w E I=>?_;refine RN 2 E I λa E=>?_;refine RT 0 E I ?_;refine⟨ad2,c2,?_,?_⟩
     ·rw[fD,ag (by omega)]
     ·rw[fD,ag (by omega)];exact (b0.fold I B p s).sub (M:=Sl 5 1 ad2 128 c2 (bc (gu (foldI p (aw s.k) s.g (dv B.gs s.k.ls (aG s.k)))))::b0 W B p s::L)
    refine RH 0 E I hH hC λa E=>?_;refine e0 E rfl I Ty.t49 rfl λb4 a w E I ho=>?_;clear ho;replace hC:=hH.at w ⟨I.ai (b:=B.pb),I.ai (b:=B.core.cb)⟩;refine RH 0 E I hH hC λa E=>?_;refine CL 0 E I (zw (P:=dv B.gs s.k.ls (aG s.k)) (zs:=ys) (fr:=aw s.k) (I.pick (aA W p B.aq B.cO)) jB a6 aH (hw.qc a6) ⟨by omega,m0⟩ g6 (by omega) (λw' df=>U.mF (df.sub (M:=Sl 22 1 fY (aG s.k-aU s.k.ls) gk (ys.map aL)::ah a7 ys::[])))) λa w E ⟨p5,I⟩=>?_;refine SA 0 E I λa w E I=>?_;refine RN 0 E I λa E=>?_;replace I:=bM.close (I.sub (M:=Sl 65 1 (some ⟨B.core.lb,B.core.lo,none⟩) s.k.ls.length B.core.cL (xs.map aL)::ah a7 xs::aa b4 49 (ints .i32 32 (foldI p (aw s.k) s.g (dv B.gs s.k.ls (aG s.k))))::aa B.pb 51 (eY p B s.g)::aA W p B.aq B.cO::aa B.core.cb 72 (cX s.k B.core A)::aa B.core.hb 3 (fc s.k.ps)::aa B.core.dX 3 (eX s.k.ps)::aa B.core.wb 313 (rows ff s.k.ps)::aa B.core.xb 4 (fe s.k.ps)::Sl 100 1 A.ck s.k.mr.length A.cM (c3 s.k.mr)::Sl 102 3 A.adE s.k.ev.length A.cE (rows bW s.k.ev)::L)) ba;replace I:=aZ.fold I B.core s.k A;refine aX 1 (λw0 w'=>Rd w' b4 0 (ints .i32 32 (foldI p (aw s.k) s.g (dv B.gs s.k.ls (aG s.k))))∧Rd w' B.pb 0 (eY p B s.g)) [1,5] [2,3,4,3000,3005,1001,1006,7,8] E I λa w E I hH=>?_;have hC:=hH.at w ⟨I.ai (b:=b4),I.ai (b:=B.pb)⟩;refine RH 3 E I hH hC λa E=>?_;refine QH E (λw hc=>bT E underlying49 rfl Ty.t49 (hc.1)) hC λa E=>?_;refine QH E (λw hc=>ae E (hc.2 0 _ rfl)) hC λa E=>?_;refine RH 0 E I hH hC λa E=>?_;refine aY 0 E I (u6 I) λad2 c2 a w E I=>?_;replace hC:=hH.at w ⟨I.ai (b:=b4),I.ai (b:=B.pb)⟩;refine RH 0 E I hH hC λa E=>?_;refine CL 0 E I (sy (I.pick (aZ B.core s.k)) hw.wc) λa w E I=>?_;refine RN 2 E I λa E=>?_;refine RT 0 E I ?_;refine⟨ad2,c2,?_,?_⟩
    ·rw[fD,ag (by omega)]
    ·rw[fD,ag (by omega)];exact (b0.fold I B p s).sub (M:=Sl 5 1 ad2 128 c2 (bc (gu (foldI p (aw s.k) s.g (dv B.gs s.k.ls (aG s.k)))))::b0 W B p s::L)
   refine RH 0 E I hH hC λa E=>?_;refine e0 E rfl I Ty.t49 rfl λb4 a w E I ho=>?_;clear ho;replace hC:=hH.at w ⟨I.ai (b:=B.pb),I.ai (b:=B.core.cb)⟩;obtain⟨xs,ba,I⟩:=bM.open (I.pick (bM B.core.lb B.core.lo B.core.cL s.k.ls));have ca:xs.length=s.k.ls.length:=by rw[← ba,fZ]
   rw[← ca]at E;refine RH 0 E I hH hC λa E=>?_;refine j2 0 E I (B6 (xs:=xs) (b:=B.gs) (r:=0) (to:=aG s.k) (by decide) I fE (by omega) (by omega) (by rw[ba];exact hw.wc.nE) gW (λw' df=>U.pg df) (λw' df=>hT.gD df)) λfY gk X a w E ⟨⟨tQ,iy⟩,I⟩=>?_;replace hC:=hH.at w ⟨I.ai (b:=B.pb),I.ai (b:=B.core.cb)⟩;have mX:=iy rfl;subst mX;rw[xk,ba]at I;rw[ba]at E;have jB:(dv B.gs s.k.ls (aG s.k)).length=aG s.k-aU s.k.ls:=w5 _ _ _;have m0:∀ b∈dv B.gs s.k.ls (aG s.k),b.length≤1099511627776:=λb hb=>by
    rw[dv,cR]at hb;obtain⟨i,_,rfl⟩:=hb;rw[nC,jj,a8];omega
   obtain⟨ys,g6,jg,I⟩:=ch.open I;refine RH 0 E I hH hC λa E=>?_;refine CL 0 E I (zw (P:=dv B.gs s.k.ls (aG s.k)) (zs:=ys) (fr:=aw s.k) (I.pick (aA W p B.aq B.cO)) jB a6 aH (hw.qc a6) ⟨by omega,m0⟩ g6 (by omega) (λw' df=>U.mF (df.sub (M:=Sl 22 1 fY (aG s.k-aU s.k.ls) gk (ys.map aL)::ah a7 ys::[])))) λa w E ⟨p5,I⟩=>?_;refine SA 0 E I λa w E I=>?_;refine RN 0 E I λa E=>?_;replace I:=bM.close (I.sub (M:=Sl 65 1 (some ⟨B.core.lb,B.core.lo,none⟩) s.k.ls.length B.core.cL (xs.map aL)::ah a7 xs::aa b4 49 (ints .i32 32 (foldI p (aw s.k) s.g (dv B.gs s.k.ls (aG s.k))))::aa B.pb 51 (eY p B s.g)::aA W p B.aq B.cO::aa B.core.cb 72 (cX s.k B.core A)::aa B.core.hb 3 (fc s.k.ps)::aa B.core.dX 3 (eX s.k.ps)::aa B.core.wb 313 (rows ff s.k.ps)::aa B.core.xb 4 (fe s.k.ps)::Sl 100 1 A.ck s.k.mr.length A.cM (c3 s.k.mr)::Sl 102 3 A.adE s.k.ev.length A.cE (rows bW s.k.ev)::L)) ba;replace I:=aZ.fold I B.core s.k A;refine aX 1 (λw0 w'=>Rd w' b4 0 (ints .i32 32 (foldI p (aw s.k) s.g (dv B.gs s.k.ls (aG s.k))))∧Rd w' B.pb 0 (eY p B s.g)) [1,5] [2,3,4,3000,3005,1001,1006,7,8] E I λa w E I hH=>?_;have hC:=hH.at w ⟨I.ai (b:=b4),I.ai (b:=B.pb)⟩;refine RH 3 E I hH hC λa E=>?_;refine QH E (λw hc=>bT E underlying49 rfl Ty.t49 (hc.1)) hC λa E=>?_;refine QH E (λw hc=>ae E (hc.2 0 _ rfl)) hC λa E=>?_;refine RH 0 E I hH hC λa E=>?_;refine aY 0 E I (u6 I) λad2 c2 a w E I=>?_;replace hC:=hH.at w ⟨I.ai (b:=b4),I.ai (b:=B.pb)⟩;refine RH 0 E I hH hC λa E=>?_;refine CL 0 E I (sy (I.pick (aZ B.core s.k)) hw.wc) λa w E I=>?_;refine RN 2 E I λa E=>?_;refine RT 0 E I ?_;refine⟨ad2,c2,?_,?_⟩
   ·rw[fD,ag (by omega)]
   ·rw[fD,ag (by omega)];exact (b0.fold I B p s).sub (M:=Sl 5 1 ad2 128 c2 (bc (gu (foldI p (aw s.k) s.g (dv B.gs s.k.ls (aG s.k)))))::b0 W B p s::L)
  refine RH 0 E I hH hC λa E=>?_;refine e0 E rfl I Ty.t49 rfl λb4 a w E I ho=>?_;clear ho;replace hC:=hH.at w ⟨I.ai (b:=B.pb),I.ai (b:=B.core.cb)⟩;refine RH 0 E I hH hC λa E=>?_;refine CL 0 E I (Hb ((I.pick (aa B.core.cb 72 (cX s.k B.core A))).pick (bM B.core.lb B.core.lo B.core.cL s.k.ls)) hw.wc) λa w E I=>?_;replace hC:=hH.at w ⟨I.ai (b:=B.pb),I.ai (b:=B.core.cb)⟩;obtain⟨xs,ba,I⟩:=bM.open (I.pick (bM B.core.lb B.core.lo B.core.cL s.k.ls));have ca:xs.length=s.k.ls.length:=by rw[← ba,fZ]
  rw[← ca]at E;refine RH 0 E I hH hC λa E=>?_;refine j2 0 E I (B6 (xs:=xs) (b:=B.gs) (r:=0) (to:=aG s.k) (by decide) I fE (by omega) (by omega) (by rw[ba];exact hw.wc.nE) gW (λw' df=>U.pg df) (λw' df=>hT.gD df)) λfY gk X a w E ⟨⟨tQ,iy⟩,I⟩=>?_;replace hC:=hH.at w ⟨I.ai (b:=B.pb),I.ai (b:=B.core.cb)⟩;have mX:=iy rfl;subst mX;rw[xk,ba]at I;rw[ba]at E;have jB:(dv B.gs s.k.ls (aG s.k)).length=aG s.k-aU s.k.ls:=w5 _ _ _;have m0:∀ b∈dv B.gs s.k.ls (aG s.k),b.length≤1099511627776:=λb hb=>by
   rw[dv,cR]at hb;obtain⟨i,_,rfl⟩:=hb;rw[nC,jj,a8];omega
  obtain⟨ys,g6,jg,I⟩:=ch.open I;refine RH 0 E I hH hC λa E=>?_;refine CL 0 E I (zw (P:=dv B.gs s.k.ls (aG s.k)) (zs:=ys) (fr:=aw s.k) (I.pick (aA W p B.aq B.cO)) jB a6 aH (hw.qc a6) ⟨by omega,m0⟩ g6 (by omega) (λw' df=>U.mF (df.sub (M:=Sl 22 1 fY (aG s.k-aU s.k.ls) gk (ys.map aL)::ah a7 ys::[])))) λa w E ⟨p5,I⟩=>?_;refine SA 0 E I λa w E I=>?_;refine RN 0 E I λa E=>?_;replace I:=bM.close (I.sub (M:=Sl 65 1 (some ⟨B.core.lb,B.core.lo,none⟩) s.k.ls.length B.core.cL (xs.map aL)::ah a7 xs::aa b4 49 (ints .i32 32 (foldI p (aw s.k) s.g (dv B.gs s.k.ls (aG s.k))))::aa B.pb 51 (eY p B s.g)::aA W p B.aq B.cO::aa B.core.cb 72 (cX s.k B.core A)::aa B.core.hb 3 (fc s.k.ps)::aa B.core.dX 3 (eX s.k.ps)::aa B.core.wb 313 (rows ff s.k.ps)::aa B.core.xb 4 (fe s.k.ps)::Sl 100 1 A.ck s.k.mr.length A.cM (c3 s.k.mr)::Sl 102 3 A.adE s.k.ev.length A.cE (rows bW s.k.ev)::L)) ba;replace I:=aZ.fold I B.core s.k A;refine aX 1 (λw0 w'=>Rd w' b4 0 (ints .i32 32 (foldI p (aw s.k) s.g (dv B.gs s.k.ls (aG s.k))))∧Rd w' B.pb 0 (eY p B s.g)) [1,5] [2,3,4,3000,3005,1001,1006,7,8] E I λa w E I hH=>?_;have hC:=hH.at w ⟨I.ai (b:=b4),I.ai (b:=B.pb)⟩;refine RH 3 E I hH hC λa E=>?_;refine QH E (λw hc=>bT E underlying49 rfl Ty.t49 (hc.1)) hC λa E=>?_;refine QH E (λw hc=>ae E (hc.2 0 _ rfl)) hC λa E=>?_;refine RH 0 E I hH hC λa E=>?_;refine aY 0 E I (u6 I) λad2 c2 a w E I=>?_;replace hC:=hH.at w ⟨I.ai (b:=b4),I.ai (b:=B.pb)⟩;refine RH 0 E I hH hC λa E=>?_;refine CL 0 E I (sy (I.pick (aZ B.core s.k)) hw.wc) λa w E I=>?_;refine RN 2 E I λa E=>?_;refine RT 0 E I ?_;refine⟨ad2,c2,?_,?_⟩
  ·rw[fD,ag (by omega)]
  ·rw[fD,ag (by omega)];exact (b0.fold I B p s).sub (M:=Sl 5 1 ad2 128 c2 (bc (gu (foldI p (aw s.k) s.g (dv B.gs s.k.ls (aG s.k)))))::b0 W B p s::L)
 refine RH 0 E I hH hC λa E=>?_;refine e0 E rfl I Ty.t49 rfl λb4 a w E I ho=>?_;clear ho;replace hC:=hH.at w ⟨I.ai (b:=B.pb),I.ai (b:=B.core.cb)⟩;refine RH 0 E I hH hC λa E=>?_;refine CL 0 E I (G9 ((I.pick (aa B.core.cb 72 (cX s.k B.core A))).pick (bM B.core.lb B.core.lo B.core.cL s.k.ls)) hw.wc) λa w E I=>?_;replace hC:=hH.at w ⟨I.ai (b:=B.pb),I.ai (b:=B.core.cb)⟩;refine RH 0 E I hH hC λa E=>?_;refine CL 0 E I (Hb ((I.pick (aa B.core.cb 72 (cX s.k B.core A))).pick (bM B.core.lb B.core.lo B.core.cL s.k.ls)) hw.wc) λa w E I=>?_;replace hC:=hH.at w ⟨I.ai (b:=B.pb),I.ai (b:=B.core.cb)⟩;obtain⟨xs,ba,I⟩:=bM.open (I.pick (bM B.core.lb B.core.lo B.core.cL s.k.ls));have ca:xs.length=s.k.ls.length:=by rw[← ba,fZ]
 rw[← ca]at E;refine RH 0 E I hH hC λa E=>?_;refine j2 0 E I (B6 (xs:=xs) (b:=B.gs) (r:=0) (to:=aG s.k) (by decide) I fE (by omega) (by omega) (by rw[ba];exact hw.wc.nE) gW (λw' df=>U.pg df) (λw' df=>hT.gD df)) λfY gk X a w E ⟨⟨tQ,iy⟩,I⟩=>?_;replace hC:=hH.at w ⟨I.ai (b:=B.pb),I.ai (b:=B.core.cb)⟩;have mX:=iy rfl;subst mX;rw[xk,ba]at I;rw[ba]at E;have jB:(dv B.gs s.k.ls (aG s.k)).length=aG s.k-aU s.k.ls:=w5 _ _ _;have m0:∀ b∈dv B.gs s.k.ls (aG s.k),b.length≤1099511627776:=λb hb=>by
  rw[dv,cR]at hb;obtain⟨i,_,rfl⟩:=hb;rw[nC,jj,a8];omega
 obtain⟨ys,g6,jg,I⟩:=ch.open I;refine RH 0 E I hH hC λa E=>?_;refine CL 0 E I (zw (P:=dv B.gs s.k.ls (aG s.k)) (zs:=ys) (fr:=aw s.k) (I.pick (aA W p B.aq B.cO)) jB a6 aH (hw.qc a6) ⟨by omega,m0⟩ g6 (by omega) (λw' df=>U.mF (df.sub (M:=Sl 22 1 fY (aG s.k-aU s.k.ls) gk (ys.map aL)::ah a7 ys::[])))) λa w E ⟨p5,I⟩=>?_;refine SA 0 E I λa w E I=>?_;refine RN 0 E I λa E=>?_;replace I:=bM.close (I.sub (M:=Sl 65 1 (some ⟨B.core.lb,B.core.lo,none⟩) s.k.ls.length B.core.cL (xs.map aL)::ah a7 xs::aa b4 49 (ints .i32 32 (foldI p (aw s.k) s.g (dv B.gs s.k.ls (aG s.k))))::aa B.pb 51 (eY p B s.g)::aA W p B.aq B.cO::aa B.core.cb 72 (cX s.k B.core A)::aa B.core.hb 3 (fc s.k.ps)::aa B.core.dX 3 (eX s.k.ps)::aa B.core.wb 313 (rows ff s.k.ps)::aa B.core.xb 4 (fe s.k.ps)::Sl 100 1 A.ck s.k.mr.length A.cM (c3 s.k.mr)::Sl 102 3 A.adE s.k.ev.length A.cE (rows bW s.k.ev)::L)) ba;replace I:=aZ.fold I B.core s.k A;refine aX 1 (λw0 w'=>Rd w' b4 0 (ints .i32 32 (foldI p (aw s.k) s.g (dv B.gs s.k.ls (aG s.k))))∧Rd w' B.pb 0 (eY p B s.g)) [1,5] [2,3,4,3000,3005,1001,1006,7,8] E I λa w E I hH=>?_;have hC:=hH.at w ⟨I.ai (b:=b4),I.ai (b:=B.pb)⟩;refine RH 3 E I hH hC λa E=>?_;refine QH E (λw hc=>bT E underlying49 rfl Ty.t49 (hc.1)) hC λa E=>?_;refine QH E (λw hc=>ae E (hc.2 0 _ rfl)) hC λa E=>?_;refine RH 0 E I hH hC λa E=>?_;refine aY 0 E I (u6 I) λad2 c2 a w E I=>?_;replace hC:=hH.at w ⟨I.ai (b:=b4),I.ai (b:=B.pb)⟩;refine RH 0 E I hH hC λa E=>?_;refine CL 0 E I (sy (I.pick (aZ B.core s.k)) hw.wc) λa w E I=>?_;refine RN 2 E I λa E=>?_;refine RT 0 E I ?_;refine⟨ad2,c2,?_,?_⟩
 ·rw[fD,ag (by omega)]
 ·rw[fD,ag (by omega)];exact (b0.fold I B p s).sub (M:=Sl 5 1 ad2 128 c2 (bc (gu (foldI p (aw s.k) s.g (dv B.gs s.k.ls (aG s.k)))))::b0 W B p s::L)
theorem abI {n me aK br:Nat}{id bg order cw workers room:Int}(I:U W w (aA W p adP cP::L))(hm:eW ⟨n,me,id,aK,br,bg,order,cw,workers,room⟩)(a6:dk p)(aH:p.title.size≤1000000000) :
   Calls prog 46 #[.agg (bV ⟨n,me,id,aK,br,bg,order,cw,workers,room⟩).toArray,.agg (bP p adP cP).toArray,.slice adT tb.length cT] w λr w'=>∃ B:ga,r=.returned (pt B.pb)∧(B.gs=⟨bg,order,tb⟩∧B.adT=adT)∧U W w' (b0 W B p (eA p ⟨n,me,id,aK,br,bg,order,cw,workers,room⟩)::L):=by
 refine EN func46 ntmps46 rfl rfl λa E=>?_;refine BX 1 E I λb3 a w E I=>?_;change U W w (aa b3 28 (bV ⟨n,me,id,aK,br,bg,order,cw,workers,room⟩)::_) at I;refine BX 0 E I λb4 a w E I=>?_;change U W w (aa b4 45 [.string p.title,.slice adP p.ops.length cP]::_) at I;refine aX 2 (λw0 w'=>Rd w' b3 0 (bV ⟨n,me,id,aK,br,bg,order,cw,workers,room⟩)∧Rd w' b4 0 [.string p.title,.slice adP p.ops.length cP]) [1,2,4,6,8] [3,5,7,3000,3002,3004,3006,3008,1001,9,1010,11] E I λa w E I hH=>?_;have hC:=hH.at w ⟨I.ai (b:=b3),I.ai (b:=b4)⟩;refine RH 3 E I hH hC λa E=>?_;refine QH E (λw hc=>bT E underlying28 rfl Ty.t28 (hc.1)) hC λa E=>?_;refine QH E (λw hc=>bT E underlying45 rfl Ty.t45 (hc.2)) hC λa E=>?_;refine QH E (λw hc=>ae E (hc.1 5 _ rfl)) hC λa E=>?_;refine QH E (λw hc=>ae E (hc.1 6 _ rfl)) hC λa E=>?_;refine RH 1 E I hH hC λa E=>?_;refine bj 0 E I (abq I hm) λBc a w E I=>?_;replace hC:=hH.at w ⟨I.ai (b:=b3),I.ai (b:=b4)⟩;refine RH 1 E I hH hC λa E=>?_;refine xQ E rfl I rfl λtu a w E I ho=>?_;clear ho;change U W w (aa tu 51 (eY p ⟨tu,Bc,adP,cP,adT,cT,⟨bg,order,tb⟩⟩ o6)::_) at I;refine RN 1 E I λa E=>?_;replace I:=b0.fold I ⟨tu,Bc,adP,cP,adT,cT,⟨bg,order,tb⟩⟩ p ⟨fm ⟨n,me,id,aK,br,bg,order,cw,workers,room⟩,o6⟩;refine CL 2 E I (Ha I (xe hm) a6 aH) λa w E I=>?_;refine RT 3 E I ?_;have h9:U W w (b0 W ⟨tu,Bc,adP,cP,adT,cT,⟨bg,order,tb⟩⟩ p (eA p ⟨n,me,id,aK,br,bg,order,cw,workers,room⟩)::_):=I;exact⟨⟨tu,Bc,adP,cP,adT,cT,⟨bg,order,tb⟩⟩,rfl,⟨rfl,rfl⟩,h9.sub⟩
end
end
section
section
variable {W w:World}{L:List SP}{e:km}
theorem abJ (I:U W w L):Calls prog 79 #[.agg (bW e).toArray,.agg (bW e).toArray] w λr w'=>r=.returned (.bool true)∧U W w' L:=by
 refine EN func79 ntmps79 rfl rfl λa E=>?_;refine BX 1 E I λb2 a w E I=>?_;change U W w (aa b2 102 [.int .i64 e.1,.int .i64 e.2.1,.int .i64 e.2.2]::_) at I;refine BX 0 E I λb3 a w E I=>?_;change U W w (aa b3 102 [.int .i64 e.1,.int .i64 e.2.1,.int .i64 e.2.2]::_) at I;refine RN 8 E I λa E=>?_;rw[dh (by omega)]at E;refine RN 7 E I λa E=>?_;rw[dh (by omega)]at E;refine RT 7 E I ?_;exact⟨by simp,I.sub⟩
end
end
section
theorem NW {k:Ks}(h:WC k):(bt k).1.length≤1000:=by
 have hn:=h.n;have hl:∀ k:Ks,(bG k).length≤k.n:=λk=>by
  rw[bG];exact fG (pO _ _) (by rw[length_range];exact bf _)
 unfold bt;split
 ·simp
 ·simp only;split
  ·simp
  ·rw[a8];have:=hl { k with now:=k.now+1 };have h2:({ k with now:=k.now+1 }:Ks).n=k.n:=rfl;omega
theorem NX {k:Ks}(h:WC k):(cy k).1.length≤1000:=by
 have hn:=h.n;unfold cy;split
 ·simp
 ·rw[a8,bG];have h2:=pO (λi=>decide (i≠k.me)) (List.range k.n);rw[length_range]at h2;show ((List.range k.n).filter (·≠k.me)).length≤1000;omega
theorem abK (p:Pr)(x:UInt8){s:Pl}(h:cu p s):(dK p x s).2.k.now=s.k.now:=by
 have he:=vd x s.k;have h1:=(L5 (h.toWP.more (h.wc.al x) (h.held.al x) he.1 he.2)).2.2.2.2.2.1;rw[dK,h1];show (c1 x s.k).2.now=_;by_cases h0:(c1 x s.k).1=0
 ·obtain⟨_,_,_,h4⟩:=vb h0;rw[h4]
 ·rw[vc h0]
theorem abL (k:Ks)(q:Pk):(fX k q).now=k.now:=by
 unfold fX;split
 ·rfl
 ·obtain⟨ps,ev,h9,_⟩:=w7 { k with ls:=k.ls.set q.aV.toNat (du (k.ls.getD q.aV.toNat []) q.first.toNat q.al),ps:=k.ps.set q.aV.toNat (fW k.now (aG k) q (au k q.aV.toNat)) };rw[h9]
theorem abM (p:Pr)(bs:List UInt8){s:Pl}(h:cu p s):(dB p bs s).2.k.now=s.k.now:=by
 have he:=sh bs s.k;have h1:=(L5 (h.toWP.more (h.wc.recv bs).1 ((h.wc.recv bs).2 h.held) he.1 he.2)).2.2.2.2.2.1;rw[dB,h1];show (dm bs s.k).2.now=_;by_cases h0:(dm bs s.k).1=0
 ·obtain⟨q,_,_,_,_,_,h6⟩:=BG h0;rw[h6,abL]
 ·rw[w9 h0]
theorem abN (k:Ks):(bt k).2.now≤k.now+1:=by
 rcases xd k with h1 | ⟨hc,h1 | ⟨i,hi,h1⟩⟩ <;> rw[h1]
 ·exact gX _
 ·exact bf _
 ·exact bf _
theorem abO (k:Ks):(cy k).2.now=k.now:=by
 unfold cy;split <;> rfl
structure Cl (W:World)(t:TypeId)(ad:Addr)(vo vp vq vr vt vu vv vw:FuncId)(p:Pr)(gs:Gs)(J:Nat→Pl→SP):Prop where
 Hc : pG prog t "Press" vo
 cP:hQ prog vo=true
 He : pG prog t "Receive" vp
 Hf:hQ prog vp=true
 Hg : pG prog t "Tick" vq
 cT:hQ prog vq=true
 Hh : pG prog t "Quit" vr
 Hi:hQ prog vr=true
 Hj : pG prog t "Events" vt
 cE:hQ prog vt=true
 Cm : pG prog t "Confirmed" vu
 Cn:hQ prog vu=true
 Hk : pG prog t "Display" vv
 Hl:hQ prog vv=true
 Hm : pG prog t "Closed" vw
 Hn:hQ prog vw=true
 al:∀ (w:World) (L:List SP) (i:Nat) (s:Pl) (x:UInt8),i≤1000000→cu p s→U W w (J i s::L)→Calls prog vo (List.toArray [.pointer (some ad),.int .u8 (x.toNat:Nat)]) w λr w'=>r=.returned (.int .i64 (dK p x s).1)∧U W w' (J (i+1) (dK p x s).2::L)
 recv:∀ (w:World) (L:List SP) (i:Nat) (s:Pl) (bs:List UInt8) (a:Option Addr) (c:Nat),i≤1000000→cu p s→bs.length≤65536→bs.length≤c→(∀ w',U W w' L→aW w' a bs.length bs)→U W w (J i s::L)→Calls prog vp (List.toArray [.pointer (some ad),.slice a bs.length c]) w λr w'=>r=.returned (.int .i64 (dB p bs s).1)∧U W w' (J (i+1) (dB p bs s).2::L)
 tick:∀ (w:World) (L:List SP) (i:Nat) (s:Pl),i≤1000000→cu p s→s.k.now≤1000000→U W w (J i s::L)→Calls prog vq (List.toArray [.pointer (some ad)]) w λr w'=>∃ a c,r=.returned (.slice a (bt s.k).1.length c)∧U W w' (cg 124 a (bt s.k).1.length c (bt s.k).1::J (i+1) ⟨(bt s.k).2,s.g⟩::L)
 o5:∀ (w:World) (L:List SP) (i:Nat) (s:Pl),i≤1000000→cu p s→U W w (J i s::L)→Calls prog vr (List.toArray [.pointer (some ad)]) w λr w'=>∃ a c,r=.returned (.slice a (cy s.k).1.length c)∧U W w' (cg 124 a (cy s.k).1.length c (cy s.k).1::J (i+1) ⟨(cy s.k).2,s.g⟩::L)
 events:∀ (w:World) (L:List SP) (i:Nat) (s:Pl),i≤1000000→cu p s→U W w (J i s::L)→Calls prog vt (List.toArray [.pointer (some ad)]) w λr w'=>∃ a c,r=.returned (.slice a s.k.ev.length c)∧U W w' (Sl 135 1 a s.k.ev.length c (s.k.ev.map cA)::J (i+1) ⟨{ s.k with ev:=[] },s.g⟩::L)
 Co:∀ (w:World) (L:List SP) (i:Nat) (s:Pl),i≤1000000→cu p s→U W w (J i s::L)→Calls prog vu (List.toArray [.pointer (some ad)]) w λr w'=>∃ a c,r=.returned (.tuple #[.slice a 128 c,.int .i64 (lX s).2])∧U W w' (Sl 5 1 a 128 c (bc (lX s).1)::J i s::L)
 Ho:∀ (w:World) (L:List SP) (i:Nat) (s:Pl),i≤1000000→cu p s→U W w (J i s::L)→Calls prog vv (List.toArray [.pointer (some ad)]) w λr w'=>∃ a c,r=.returned (.tuple #[.slice a 128 c,.int .i64 (fD p gs s).2])∧U W w' (Sl 5 1 a 128 c (bc (fD p gs s).1)::J i s::L)
 closed:∀ (w:World) (L:List SP) (i:Nat) (s:Pl),i≤1000000→cu p s→U W w (J i s::L)→Calls prog vw (List.toArray [.pointer (some ad)]) w λr w'=>r=.returned (.bool s.k.cl)∧U W w' (J i s::L)
section
variable {W w:World}{L:List SP}{i:Nat}{t:TypeId}{ad:Addr}{vo vp vq vr vt vu vv vw:FuncId}{p:Pr}{gs:Gs}{J:Nat→Pl→SP}{B:ga}{s:Pl}{b:Bool}
theorem abP (M:Cl W t ad vo vp vq vr vt vu vv vw p gs J)(hi:i≤1000000)(I:U W w (J i s::b0 W B p s::L))(hw:cu p s)(a6:dk p)(aH:p.title.size≤1000000000)(fE:cY B.gs)(hbg:B.gs=gs)(hT:aW W B.adT B.gs.table.length B.gs.table) :
   Calls prog 53 #[.iface t (.pointer (some ad)),pt B.pb] w λe w'=>e=.returned (.bool true)∧U W w' (J i s::b0 W B p s::L):=by
 subst hbg;refine EN func53 ntmps53 rfl rfl λa E=>?_;refine RN 4 E I λa E=>?_;refine jN E rfl M.Cm M.Cn rfl (M.Co _ _ i s hi hw I) (by rfl) ?_;clear E I;rintro e w ⟨cH,eu,rfl,I⟩;refine⟨_,rfl,λa E=>?_⟩;refine aY 7 E I (NV (I.pick (b0 W B p s)) hw) λdq c2 a w E I=>?_;refine RN 7 E I λa E=>?_;refine jN E rfl M.Hk M.Hl rfl (M.Ho _ _ i s hi hw (I.pick (J i s))) (by rfl) ?_;clear E I;rintro e w ⟨a3,dI,rfl,I⟩;refine⟨_,rfl,λa E=>?_⟩;refine aY 7 E I (abH (I.pick (b0 W B p s)) hw a6 aH fE hT) λa4 hV a w E I=>?_;refine RN 5 E I λa E=>?_;have cp:(lX s).1.length=128:=u0 _;have mN:(fD p B.gs s).1.length=128:=by
  rw[fD];split
  ·exact u0 _
  ·exact u0 _
 replace I:=I.sub (M:=Sl 5 1 a4 128 hV (bc (fD p B.gs s).1)::Sl 5 1 a3 128 dI (bc (fD p B.gs s).1)::Sl 5 1 dq 128 c2 (bc (lX s).1)::Sl 5 1 cH 128 eu (bc (lX s).1)::b0 W B p s::J i s::L);obtain⟨A,I⟩:∃ A,U W w (Sl 5 1 a4 128 hV (bc (fD p B.gs s).1)::Sl 5 1 a3 128 dI (bc (fD p B.gs s).1)::Sl 5 1 dq 128 c2 (bc (lX s).1)::Sl 5 1 cH 128 eu (bc (lX s).1)::aa B.core.cb 72 (cX s.k B.core A)::bM B.core.lb B.core.lo B.core.cL s.k.ls::aa B.core.hb 3 (fc s.k.ps)::aa B.core.dX 3 (eX s.k.ps)::aa B.core.wb 313 (rows ff s.k.ps)::aa B.core.xb 4 (fe s.k.ps)::Sl 100 1 A.ck s.k.mr.length A.cM (c3 s.k.mr)::Sl 102 3 A.adE s.k.ev.length A.cE (rows bW s.k.ev)::aa B.pb 51 (eY p B s.g)::aA W p B.aq B.cO::J i s::L):=by
  obtain⟨A,h⟩:=aZ.open ((b0.open (I.pick (b0 W B p s))).pick (aZ B.core s.k));exact⟨A,h.sub⟩
 refine aX 1 (λw0 w'=>((aW w' cH 128 (lX s).1∧aW w' dq 128 (lX s).1)∧aW w' a3 128 (fD p B.gs s).1∧aW w' a4 128 (fD p B.gs s).1)∧Rd w' B.pb 0 (eY p B s.g)∧Rd w' B.core.cb 0 (cX s.k B.core A)) [7,19,24] [0,1,2,3,4,6,3005,1007,8,9,10,11,12,13,14,15,16,18,3017,1019,20,21,22,23,25,26,27,3028,29,30,3031,1024,32,33,34] E I λa w E I hH=>?_;have hC:=hH.at w ⟨⟨⟨I.cv cH _ rfl cp,I.cv dq _ rfl cp⟩,I.cv a3 _ rfl mN,I.cv a4 _ rfl mN⟩,I.ai (b:=B.pb),I.ai (b:=B.core.cb)⟩;refine RH 4 E I hH hC λa E=>?_;rw[dh (by omega)]at E;refine RH 2 E I hH hC λa E=>?_;refine QH E (λw hc=>lK E underlying22 underlying5 underlying9 (hc.1.1.1)) hC λa E=>?_;refine RH 0 E I hH hC λa E=>?_;refine bm E (bQ E rfl (s:=36)) (lK E underlying22 underlying5 underlying9 (hC.1.1.2)) rfl λa E=>?_;refine RH 0 E I hH hC λa E=>?_;refine QP E (λw=>sQ E) λa E=>?_;rw[qF,beq_self_eq_true]at E;refine RH 2 E I hH hC λa E=>?_;replace E:=E.ei 43;refine RH 5 E I hH hC λa E=>?_;rw[dh (by omega)]at E;refine RH 2 E I hH hC λa E=>?_;refine QH E (λw hc=>lK E underlying22 underlying5 underlying9 (hc.1.2.1)) hC λa E=>?_;refine RH 0 E I hH hC λa E=>?_;refine bm E (bQ E rfl (s:=48)) (lK E underlying22 underlying5 underlying9 (hC.1.2.2)) rfl λa E=>?_;refine RH 0 E I hH hC λa E=>?_;refine QP E (λw=>sQ E) λa E=>?_;rw[qF,beq_self_eq_true]at E;refine RH 2 E I hH hC λa E=>?_;replace E:=E.ei 55;refine RH 4 E I hH hC λa E=>?_;refine QH E (λw hc=>ae E (hc.2.1 0 _ rfl)) hC λa E=>?_;refine RH 2 E I hH hC λa E=>?_;refine QH E (λw hc=>ae E (hc.2.2 18 _ rfl)) hC λa E=>?_;refine RH 0 E I hH hC λa E=>?_;refine jN E (bQ E rfl (s:=55)) M.Hm M.Hn rfl (M.closed _ _ i s hi hw (I.pick (J i s))) (by rfl) ?_;clear E I;rintro e w ⟨rfl,I⟩;refine⟨_,rfl,λa E=>?_⟩;replace hC:=hH.at w ⟨⟨⟨I.cv cH _ rfl cp,I.cv dq _ rfl cp⟩,I.cv a3 _ rfl mN,I.cv a4 _ rfl mN⟩,I.ai (b:=B.pb),I.ai (b:=B.core.cb)⟩;refine RH 3 E I hH hC λa E=>?_;refine RT 0 E I ?_;refine⟨by simp,?_⟩;exact (b0.fold (aZ.fold I B.core s.k A) B p s).sub (M:=J i s::b0 W B p s::L)
set_option maxHeartbeats 4000000 in
end
end
section
structure Wd where
 ps:List Pl
 net:List Ml
 ev:List (List km)
structure fN where
 fn:Int
 a:Int
 b:Int
 n:Int
def Cp:Pl:=⟨fm ⟨0,0,0,0,0,0,0,0,0,0⟩,o6⟩
def an (v:Wd)(i:Nat):Pl:=v.ps.getD i Cp
def dP (b:Int):UInt8:=UInt8.ofNat (b%256).toNat
theorem NY (b:Int):((dP b).toNat:Int)=b%256:=by
 have h1:=Int.emod_nonneg b (show (256:Int)≠0 by decide);have h2:=Int.emod_lt_of_pos b (show (0:Int)<256 by decide);rw[dP,UInt8.toNat_ofNat',kY (by omega)];omega
def ph (net:List Ml)(m:Ml):List Ml:=if net.length<300 then net++[m] else net
def eC (net l:List Ml):List Ml:=l.foldl ph net
theorem NZ (net:List Ml){l:List Ml}{i:Nat}(h:i<l.length):eC net (l.take (i+1))=ph (eC net (l.take i)) l[i]:=by
 rw[eC,← List.take_append_getElem h,foldl_append];rfl
theorem Hq:∀ {l net:List Ml} {m:Ml},m∈eC net l→m∈net∨m∈l
 | [],net,m,h=>.inl h
 | x::l,net,m,h=>by
  rcases Hq (l:=l) (net:=ph net x) h with h | h
  ·rw[ph]at h;split at h
   ·rcases eS.1 h with h | h
    ·exact .inl h
    ·exact .inr (by rw[iH.1 h];exact gY)
   ·exact .inl h
  ·exact .inr (gP _ h)
theorem Hr:∀ {l net:List Ml},net.length≤300→(eC net l).length≤300
 | [],net,h=>h
 | x::l,net,h=>Hr (l:=l) (net:=ph net x) (by
  rw[ph];split
  ·rw[aI,jD];omega
  ·exact h)
noncomputable def gM (p:Pr)(s:fN)(v:Wd):Int×Wd :=
 if s.n<0∨(v.net.length:Int)≤s.n then (3,v) else
 if s.fn=6 then (if s.a<0∨((v.net.getD s.n.toNat (0,0,[])).2.2.length:Int)≤s.a then (3,v) else
  (0,{ v with net:=v.net.set s.n.toNat ((v.net.getD s.n.toNat (0,0,[])).1,(v.net.getD s.n.toNat (0,0,[])).2.1,(v.net.getD s.n.toNat (0,0,[])).2.2.set s.a.toNat ((v.net.getD s.n.toNat (0,0,[])).2.2.getD s.a.toNat 0 ^^^ dP s.b)) }))
 else if s.fn=4 then (0,{ v with net:=v.net.eraseIdx s.n.toNat })
 else ((dB p (v.net.getD s.n.toNat (0,0,[])).2.2 (an v (v.net.getD s.n.toNat (0,0,[])).2.1)).1,
  { v with ps:=v.ps.set (v.net.getD s.n.toNat (0,0,[])).2.1 (dB p (v.net.getD s.n.toNat (0,0,[])).2.2 (an v (v.net.getD s.n.toNat (0,0,[])).2.1)).2,net:=if s.fn=5 then v.net else v.net.eraseIdx s.n.toNat })
def gz (p:Pr)(s:fN)(v:Wd):Int×Wd :=
 if s.a<0∨(v.ps.length:Int)≤s.a then (7,v) else
 if s.fn=1 then ((dK p (dP s.b) (an v s.a.toNat)).1,{ v with ps:=v.ps.set s.a.toNat (dK p (dP s.b) (an v s.a.toNat)).2 })
 else if s.fn=2 then (0,{ v with ps:=v.ps.set s.a.toNat ⟨(bt (an v s.a.toNat).k).2,(an v s.a.toNat).g⟩,net:=eC v.net (bt (an v s.a.toNat).k).1 })
 else if s.fn=8 then (0,{ v with ps:=v.ps.set s.a.toNat ⟨(cy (an v s.a.toNat).k).2,(an v s.a.toNat).g⟩,net:=eC v.net (cy (an v s.a.toNat).k).1 })
 else (0,v)
noncomputable def bu (p:Pr)(s:fN)(v:Wd):Int×Wd:=if s.fn<1∨8<s.fn then (1,v) else if 3≤s.fn∧s.fn≤6 then gM p s v else gz p s v
def Cq (i:Nat)(v:Wd):Wd:={ v with ps:=v.ps.set i ⟨{ (an v i).k with ev:=[] },(an v i).g⟩,ev:=v.ev.set i (v.ev.getD i []++(an v i).k.ev) }
def cz (v:Wd):Nat→Wd
 | 0=>v
 | i+1=>Cq i (cz v i)
def lz (v:Wd):Wd:=cz v v.ps.length
noncomputable def bO (p:Pr)(s:fN)(v:Wd):Wd:=if s.fn=7 then v else lz (bu p s v).2
structure bL (p:Pr)(cf:Cf)(c:Nat)(v:Wd):Prop where
 may:eW cf
 n:v.ps.length=cf.n.toNat
 ev:v.ev.length=v.ps.length
 pl:∀ i,i<v.ps.length→cu p (an v i)∧fl (an v i).k={ cf with me:=i }∧(an v i).k.now≤c
 net:v.net.length≤300∧∀ m∈v.net,m.2.1<v.ps.length∧m.2.2.length≤1000
 kT:∀ e∈v.ev,e.length≤9*c∧∀ x∈e,tH x
section
variable {p:Pr}{cf:Cf}{c i j:Nat}{v:Wd}{s:fN}{q:Pl}
theorem rf (h:i<v.ps.length)(net:List Ml)(ev:List (List km)):an ⟨v.ps.set i q,net,ev⟩ j=if i=j then q else an v j:=by
 rw[an,an,bl,bl];show ((v.ps.set i q)[j]?).getD Cp=_;rw[jZ];split
 ·rfl
 ·rfl
theorem bL.len (h:bL p cf c v):2≤v.ps.length∧v.ps.length≤8:=by
 have h1:=h.n;have h2:=h.may.1.1;unfold fB at h2;omega
theorem bL.put (h:bL p cf c v)(hi:i<v.ps.length)(hw:cu p q)(hc:fl q.k=fl (an v i).k)(hn:q.k.now≤c+1){net:List Ml}(hl:net.length≤300)(hm:∀ m∈net,m.2.1<v.ps.length∧m.2.2.length≤1000) :
   bL p cf (c+1) { v with ps:=v.ps.set i q,net:=net }:=by
 refine⟨h.may,by show (v.ps.set i q).length=_;rw[bw];exact h.n,by show v.ev.length=(v.ps.set i q).length;rw[bw];exact h.ev,λj hj=>?_,⟨hl,?_⟩,λe he=>⟨by have:=(h.kT e he).1;omega,(h.kT e he).2⟩⟩
 ·have lG:j<v.ps.length:=by have:j<(v.ps.set i q).length:=hj;rwa [bw]at this
  rw[rf (v:=v) hi];split
  ·rename_i e;subst e;exact⟨hw,hc.trans (h.pl _ hi).2.1,hn⟩
  ·exact⟨(h.pl j lG).1,(h.pl j lG).2.1,by have:=(h.pl j lG).2.2;omega⟩
 ·intro m wA;show m.2.1<(v.ps.set i q).length∧_;rw[bw];exact hm m wA
theorem bL.more (h:bL p cf c v){d:Nat}(hd:c≤d):bL p cf d v :=
 ⟨h.may,h.n,h.ev,λi hi=>⟨(h.pl i hi).1,(h.pl i hi).2.1,fG (h.pl i hi).2.2 hd⟩,h.net,λe he=>⟨by have:=(h.kT e he).1;omega,(h.kT e he).2⟩⟩
theorem N0 {k:Ks}(h:WC k):∀ m∈(bt k).1,m.2.1<k.n∧m.2.2.length≤1000:=by
 intro m hm;unfold bt at hm;split at hm
 ·cases hm
 ·simp only at hm;split at hm
  ·cases hm
  ·obtain⟨i,hi,rfl⟩:=cR.1 hm;have h1:=(List.mem_filter.1 hi).1;rw[mem_range]at h1;exact⟨h1,fG (L6 _) (by decide)⟩
theorem N1 {k:Ks}(h:WC k):∀ m∈(cy k).1,m.2.1<k.n∧m.2.2.length≤1000:=by
 intro m hm;unfold cy at hm;split at hm
 ·cases hm
 ·obtain⟨i,hi,rfl⟩:=cR.1 hm;have h1:=(List.mem_filter.1 hi).1;rw[mem_range]at h1;exact⟨h1,fG (L6 _) (by decide)⟩
theorem bL.kn (h:bL p cf c v)(hi:i<v.ps.length):(an v i).k.n=v.ps.length:=by
 have h1:=(h.pl i hi).2.1;have h2:(fl (an v i).k).n=cf.n:=by rw[h1]
 have h3:((an v i).k.n:Int)=cf.n:=h2;have:=h.n;have h4:=h.may.1.1;unfold fB at h4;omega
theorem bL.N2 (h:bL p cf c v){l:List Ml}(hl:∀ m∈l,m.2.1<v.ps.length∧m.2.2.length≤1000):(eC v.net l).length≤300∧∀ m∈eC v.net l,m.2.1<v.ps.length∧m.2.2.length≤1000 :=
 ⟨Hr h.net.1,λm hm=>(Hq hm).elim (h.net.2 m) (hl m)⟩
theorem bL.al (h:bL p cf c v)(hi:i<v.ps.length)(b:UInt8):bL p cf (c+1) { v with ps:=v.ps.set i (dK p b (an v i)).2 } :=
 h.put hi (l3.al (h.pl i hi).1 b).wf (l3.al (h.pl i hi).1 b).cf (by have:=(h.pl i hi).2.2;rw[abK p b (h.pl i hi).1];omega) h.net.1 h.net.2
theorem bL.recv (h:bL p cf c v)(hi:i<v.ps.length)(bs:List UInt8){net:List Ml}(hl:net.length≤300)(hm:∀ m∈net,m.2.1<v.ps.length∧m.2.2.length≤1000):bL p cf (c+1) { v with ps:=v.ps.set i (dB p bs (an v i)).2,net:=net } :=
 h.put hi (l3.recv (h.pl i hi).1 bs).wf (l3.recv (h.pl i hi).1 bs).cf (by have:=(h.pl i hi).2.2;rw[abM p bs (h.pl i hi).1];omega) hl hm
theorem bL.tick (h:bL p cf c v)(hi:i<v.ps.length):bL p cf (c+1) { v with ps:=v.ps.set i ⟨(bt (an v i).k).2,(an v i).g⟩,net:=eC v.net (bt (an v i).k).1 }:=by
 have h1:=h.N2 (l:=(bt (an v i).k).1) λm hm=>by have:=N0 (h.pl i hi).1.wc m hm;rwa [h.kn hi]at this
 exact h.put hi (h.pl i hi).1.tick (GV _) (by have:=(h.pl i hi).2.2;have:=abN (an v i).k;show (bt (an v i).k).2.now≤_;omega) h1.1 h1.2
theorem bL.o5 (h:bL p cf c v)(hi:i<v.ps.length):bL p cf (c+1) { v with ps:=v.ps.set i ⟨(cy (an v i).k).2,(an v i).g⟩,net:=eC v.net (cy (an v i).k).1 }:=by
 have h1:=h.N2 (l:=(cy (an v i).k).1) λm hm=>by have:=N1 (h.pl i hi).1.wc m hm;rwa [h.kn hi]at this
 exact h.put hi (h.pl i hi).1.o5 (GW _) (by have:=(h.pl i hi).2.2;have:=abO (an v i).k;show (cy (an v i).k).2.now≤_;omega) h1.1 h1.2
theorem bL.one (h:bL p cf c v):bL p cf (c+1) (gz p s v).2:=by
 unfold gz;split
 ·exact h.more (gX _)
 ·have hi:s.a.toNat<v.ps.length:=by omega
  split
  ·exact h.al hi _
  ·split
   ·exact h.tick hi
   ·split
    ·exact h.o5 hi
    ·exact h.more (gX _)
theorem bL.Hs (h:bL p cf c v){j:Nat}(hj:j<v.net.length):(v.net.getD j (0,0,[])).2.1<v.ps.length∧(v.net.getD j (0,0,[])).2.2.length≤1000:=by
 rw[bl,aD hj];exact h.net.2 _ (iZ hj)
theorem bL.erase (h:bL p cf c v)(j:Nat):(v.net.eraseIdx j).length≤300∧∀ m∈v.net.eraseIdx j,m.2.1<v.ps.length∧m.2.2.length≤1000 :=
 ⟨fG (List.length_eraseIdx_le _ _) h.net.1,λm hm=>h.net.2 m (List.mem_of_mem_eraseIdx hm)⟩
theorem bL.N3 (h:bL p cf c v){net:List Ml}(hl:net.length≤300)(hm:∀ m∈net,m.2.1<v.ps.length∧m.2.2.length≤1000):bL p cf (c+1) { v with net:=net } :=
 { h.more (gX c) with net:=⟨hl,hm⟩ }
theorem bL.zx (h:bL p cf c v):bL p cf (c+1) (gM p s v).2:=by
 unfold gM;split
 ·exact h.more (gX _)
 ·rename_i hr;have hj:s.n.toNat<v.net.length:=by omega
  have hx:=h.Hs hj;split
  ·split
   ·exact h.more (gX _)
   ·refine h.N3 (by rw[bw];exact h.net.1) λm hm=>?_;rcases rI hm with h1 | rfl
    ·exact h.net.2 m h1
    ·exact⟨hx.1,by show (List.set _ _ _).length≤_;rw[bw];exact hx.2⟩
  ·split
   ·exact h.N3 (h.erase _).1 (h.erase _).2
   ·refine h.recv hx.1 _ ?_ ?_ <;> split
    ·exact h.net.1
    ·exact (h.erase _).1
    ·exact h.net.2
    ·exact (h.erase _).2
theorem bL.step (h:bL p cf c v):bL p cf (c+1) (bu p s v).2:=by
 unfold bu;split
 ·exact h.more (gX _)
 ·split
  ·exact h.zx
  ·exact h.one
theorem rh (v:Wd):∀ i,(cz v i).ps.length=v.ps.length∧(cz v i).net=v.net∧(cz v i).ev.length=v.ev.length
 | 0=>⟨rfl,rfl,rfl⟩
 | i+1=>by
  obtain⟨h1,h2,h3⟩:=rh v i;exact⟨by show (List.set _ _ _).length=_;rw[bw,h1],h2,by show (List.set _ _ _).length=_;rw[bw,h3]⟩
theorem zy (v:Wd):∀ {i j:Nat},i≤v.ps.length→an (cz v i) j=if j<i then ⟨{ (an v j).k with ev:=[] },(an v j).g⟩ else an v j
 | 0,j,_=>by rw[ag (Nat.not_lt_zero _)];rfl
 | i+1,j,h=>by
  have h1:=zy v (i:=i) (j:=i) (by omega);rw[ag (Cc _)]at h1;show an ⟨(cz v i).ps.set i _,_,_⟩ j=_;rw[rf (v:=cz v i) (by rw[(rh v i).1];omega),h1,zy v (i:=i) (j:=j) (by omega)];by_cases h2:i=j
  ·subst h2;rw[ak rfl,ak (by omega)]
  ·rw[ag h2];by_cases h3:j<i
   ·rw[ak h3,ak (by omega)]
   ·rw[ag h3,ag (by omega)]
theorem Ht (v:Wd)(hl:v.ev.length=v.ps.length):∀ {i j:Nat},i≤v.ps.length→(cz v i).ev.getD j []=if j<i then v.ev.getD j []++(an v j).k.ev else v.ev.getD j []
 | 0,j,_=>by rw[ag (Nat.not_lt_zero _)];rfl
 | i+1,j,h=>by
  have h1:=zy v (i:=i) (j:=i) (by omega);rw[ag (Cc _)]at h1;have h4:=Ht v hl (i:=i) (j:=i) (by omega);rw[ag (Cc _)]at h4;show ((cz v i).ev.set i ((cz v i).ev.getD i []++(an (cz v i) i).k.ev)).getD j []=_;rw[h1,h4,bl,jZ];by_cases h2:i=j
  ·subst h2;rw[ak rfl,ak (by rw[(rh v i).2.2,hl];omega),ak (by omega)];rfl
  ·rw[ag h2,← bl,Ht v hl (i:=i) (j:=j) (by omega)];by_cases h3:j<i
   ·rw[ak h3,ak (by omega)]
   ·rw[ag h3,ag (by omega)]
theorem abQ {α:Type}{l:List α}{x d:α}(h:x∈l):∃ i,i<l.length∧l.getD i d=x:=by
 obtain⟨i,hi,rfl⟩:=yZ h;exact⟨i,hi,by rw[bl,aD hi];rfl⟩
theorem Cr {α:Type}{l:List α}{d:α}{i:Nat}(h:i<l.length):l.getD i d∈l:=by
 rw[bl,aD h];exact iZ _
theorem bL.cz (h:bL p cf c v){i:Nat}(hi:i≤v.ps.length):bL p cf (c+1) (cz v i):=by
 obtain⟨h1,h2,h3⟩:=rh v i;refine⟨h.may,by rw[h1];exact h.n,by rw[h1,h3];exact h.ev,λj hj=>?_,by rw[h1,h2];exact h.net,λe he=>?_⟩
 ·rw[h1]at hj;obtain⟨cH,dq,a3⟩:=h.pl j hj;rw[zy v hi];split
  ·exact⟨cH.told,dq,by show (an v j).k.now≤_;omega⟩
  ·exact⟨cH,dq,by omega⟩
 ·obtain⟨j,hj,rfl⟩:=abQ (d:=[]) he;rw[h3]at hj;rw[Ht v h.ev hi];have h4:=h.kT _ (Cr (d:=[]) hj);have h5:=(h.pl j (by rw[← h.ev];exact hj)).1.wc;split
  ·refine⟨by have:=h5.kT;rw[aI];omega,λx hx=>?_⟩;rcases eS.1 hx with hx | hx
   ·exact h4.2 x hx
   ·exact h5.bx x hx
  ·exact⟨by omega,h4.2⟩
theorem bL.drain (h:bL p cf c v):bL p cf (c+1) (lz v):=h.cz (bf _)
theorem bL.go (h:bL p cf c v):bL p cf (c+2) (bO p s v):=by
 unfold bO;split
 ·exact h.more (by omega)
 ·exact h.step.drain
end
end
section
structure c4 where
 frm:Int
 to:Int
 ad:Option Addr
 c:Nat
 bs:List UInt8
abbrev c4.cells (m:c4):List Value:=[.int .i64 m.frm,.int .i64 m.to,.slice m.ad m.bs.length m.c]
def iS (ms:List c4):List Value:=ms.flatMap c4.cells
def c4.own (m:c4):SP:=Sl 5 1 m.ad m.bs.length m.c (bc m.bs)
def fO (ms:List c4):SP:=λh=>cn (ms.map c4.own) h
theorem Cs (l m:List c4):iS (l++m)=iS l++iS m:=by simp[iS]
theorem N4 (l:List c4)(i:Nat):(iS l).drop (i*3)=iS (l.drop i):=by
 induction i generalizing l with
 | zero=>simp
 | succ i ih =>
  cases l with
  | nil=>simp[iS]
  | cons x l =>
   rw[show (i+1)*3=i*3+3 from by omega];simp only[iS,flatMap_cons,List.drop_succ_cons,c4.cells] at *;rw[← ih l];simp
theorem abR (l:List c4)(i:Nat):(iS l).take (i*3)=iS (l.take i):=by
 induction i generalizing l with
 | zero=>simp[iS]
 | succ i ih =>
  cases l with
  | nil=>simp[iS]
  | cons x l =>
   rw[show (i+1)*3=i*3+3 from by omega];simp only[iS,flatMap_cons,take_succ_cons,c4.cells] at *;rw[← ih l];simp
theorem abS (l:List c4)(i:Nat)(h:i<l.length):((iS l).drop (i*3)).take 3=l[i].cells:=by
 rw[N4,kF h];simp only[iS,flatMap_cons,c4.cells,cons_append,nil_append,take_succ_cons,take_zero]
theorem fO.nil {W w:World}{L:List SP}(I:U W w L):U W w (fO []::L) :=
 ⟨I.below,let ⟨h,p,q⟩:=I.sat;⟨h,p,λ_=>none,h,λ_=>.inl rfl,λ_ _ e=>(by cases e),Hp.Sub.refl _,trivial,q⟩⟩
theorem fO.out {W w:World}{L:List SP}{a b:List c4}{m:c4}(I:U W w (fO (a++m::b)::L)):U W w (m.own::fO (a++b)::L):=by
 have h1:=I.open (M:=(a++m::b).map c4.own) (λ_ x=>x);have h2:((a++m::b).map c4.own++L).Perm (m.own::((a++b).map c4.own++L)):=by
  rw[← cons_append,← map_cons];exact ((nQ (a:=m) (l₁:=a) (l₂:=b)).map c4.own).append_right L
 have h3:=h1.perm h2;have h4:=h3.perm (List.perm_append_comm (l₁:=[m.own]) (l₂:=(a++b).map c4.own++L));have h5:U W w ((a++b).map c4.own++(L++[m.own])):=by simpa using h4
 have h6:=U.shut (A:=fO (a++b)) h5 (λ_ x=>x);exact h6.perm (List.Perm.trans (List.perm_append_comm (l₁:=fO (a++b)::L) (l₂:=[m.own])) (lD _))
theorem fO.N5 {W w:World}{L:List SP}{a b:List c4}{m:c4}(I:U W w (m.own::fO (a++b)::L)):U W w (fO (a++m::b)::L):=by
 have h1:U W w (fO (a++b)::([m.own]++L)):=I.perm (cZ _ _ _);have h2:=h1.open (M:=(a++b).map c4.own) (λ_ x=>x);refine U.shut (M:=(a++m::b).map c4.own) (h2.perm ?_) (λ_ x=>x);have h3:((a++b).map c4.own++([m.own]++L)).Perm (m.own::((a++b).map c4.own++L)):=by
  have:=nQ (a:=m.own) (l₁:=(a++b).map c4.own) (l₂:=L);simpa using this
 refine h3.trans ?_;rw[← cons_append,← map_cons];exact (((nQ (a:=m) (l₁:=a) (l₂:=b)).map c4.own).symm).append_right L
theorem fO.rd {W w:World}{L R:List SP}{xs:List c4}(I:U W w L)[k:qv L (fO xs) R](i:Nat)(h:i<xs.length):aW w xs[i].ad xs[i].bs.length xs[i].bs:=by
 have h1:=I.pick (fO xs);rw[show xs=xs.take i++xs[i]::xs.drop (i+1) from by rw[← kF h,jY]]at h1;have h2:=fO.out h1;refine⟨rfl,λe=>?_,λx hx hp=>?_⟩
 ·rcases lH xs[i].bs.length with h0 | h0
  ·exact h0
  ·obtain⟨b,off,e2,_⟩:=U.bU (L:=xs[i].own::_) (e:=5) (sz:=1) (n:=xs[i].bs.length) (c:=xs[i].c) (cs:=bc xs[i].bs) (k:=⟨lD _⟩) h2 xs[i].ad h0;rw[e]at e2;cases e2
 ·obtain⟨b,off,e2,hr⟩:=U.bU (L:=xs[i].own::_) (e:=5) (sz:=1) (n:=xs[i].bs.length) (c:=xs[i].c) (cs:=bc xs[i].bs) (k:=⟨lD _⟩) h2 xs[i].ad hp;exact⟨b,off,by rw[hx]at e2;cases e2;rfl,hr⟩
abbrev pj:=Int×Int×List UInt8
def c4.m (x:c4):pj:=(x.frm,x.to,x.bs)
def bK (q:Nat)(ms:List pj):SP:=λh=>∃ i:(Option Addr×Nat)×List c4,(i.2.map c4.m=ms∧ms.length≤300∧∀ x∈i.2,x.bs.length≤1000) ∧
 cn [aa q 110 [.slice i.1.1 i.2.length i.1.2],Sl 124 3 i.1.1 i.2.length i.1.2 (iS i.2),fO i.2] h
theorem bK.open {W w:World}{L:List SP}{q:Nat}{ms:List pj}(I:U W w (bK q ms::L)) :
   ∃ ad c xs,ms=xs.map c4.m∧(xs.length≤300∧∀ x∈xs,x.bs.length≤1000)∧U W w (aa q 110 [.slice ad xs.length c]::Sl 124 3 ad xs.length c (iS xs)::fO xs::L):=by
 obtain⟨i,⟨h1,h2,h3⟩,h⟩:=I.jL (B:=λi:(Option Addr×Nat)×List c4=>cn [aa q 110 [.slice i.1.1 i.2.length i.1.2],Sl 124 3 i.1.1 i.2.length i.1.2 (iS i.2),fO i.2]) (λ_ h=>h);exact⟨i.1.1,i.1.2,i.2,h1.symm,⟨by rw[← h1]at h2;simpa using h2,h3⟩,h.open (λ_ x=>x)⟩
theorem bK.shut {W w:World}{L R R2 R3:List SP}{q n c:Nat}{ad:Option Addr}{cs:List Value}{xs:List c4}{ms:List pj}(I:U W w L)[k:fI L q 110 [.slice ad n c] R][k2:fQ R ad n c 124 3 cs R2][k3:qv R2 (fO xs) R3]
   (hn:n=xs.length) (hc:cs=iS xs) (hm:ms=xs.map c4.m) (h3:xs.length≤300) (h4:∀ x∈xs,x.bs.length≤1000):U W w (bK q ms::R3):=by
 subst hn;subst hc;subst hm;have h1:=(I.perm k.perm).perm (kx _ (k2.perm.trans (kx _ k3.perm)));exact U.shut (M:=[_,_,_]) h1 λ_ x=>⟨((ad,c),xs),⟨rfl,by simpa using h3,h4⟩,x⟩
theorem Hu {w:World}{b off:Nat}{xs:List c4}(h:Rd w b off (iS xs))(k:Nat)(hk:k<xs.length) :
   Rd w b (off+k*3) xs[k].cells∧w.cell? ⟨b,off+k*3,none⟩=some (.int .i64 xs[k].frm)∧w.cell? ⟨b,off+k*3+1,none⟩=some (.int .i64 xs[k].to)∧w.cell? ⟨b,off+k*3+2,none⟩=some (.slice xs[k].ad xs[k].bs.length xs[k].c):=by
 have hr:=h.part (k*3) 3;rw[abS xs k hk]at hr;exact⟨hr,hr 0 _ rfl,hr 1 _ rfl,hr 2 _ rfl⟩
theorem abT {W w:World}{L:List SP}{c:Nat}(I:U W w L) :
   Calls prog 95 #[.slice none 0 c] w λe w'=>e=.returned (.slice none 0 0)∧U W w' L:=by
 refine EN func95 ntmps95 rfl rfl λa E=>?_;refine RN 6 E I λa E=>?_;replace E:=E.ei 4;refine RT 3 E I ?_;exact⟨rfl,I⟩
theorem abU {W w:World}{L:List SP}{x:Addr}{c:Nat}(I:U W w L) :
   Calls prog 95 #[.slice (some x) 0 c] w λe w'=>∃ av,e=.returned (.slice av 0 0)∧U W w' (Sl 5 1 av 0 0 []::L):=by
 refine EN func95 ntmps95 rfl rfl λa E=>?_;refine RN 6 E I λa E=>?_;replace E:=E.aM 4;refine RN 2 E I λa E=>?_;refine ux E rfl I underlying22 Ty.t5 rfl λb5 a w E I ho=>?_;clear ho;refine RN 1 E I λa E=>?_;refine Dn E rfl underlying22 Ty.t5 rfl (bf _) λa E=>?_;refine RT 1 E I ?_;exact⟨_,rfl,I⟩
theorem abV {W w:World}{L:List SP}{b off c:Nat}{bs:List UInt8}(I:U W w L)(hr:Rd w b off (bc bs))(h0:0<bs.length)(hl:bs.length≤140737488355328) :
   Calls prog 95 #[.slice (some ⟨b,off,none⟩) bs.length c] w λe w'=>∃ av c',e=.returned (.slice av bs.length c')∧U W w' (Sl 5 1 av bs.length c' (bc bs)::L):=by
 refine EN func95 ntmps95 rfl rfl λa E=>?_;refine RN 6 E I λa E=>?_;replace E:=E.aM 4;refine RN 2 E I λa E=>?_;refine ux E rfl I underlying22 Ty.t5 rfl λb5 a w E I ho=>?_;replace hr:=ho.rd hr;clear ho;refine RN 1 E I λa E=>?_;refine cQ E rfl I underlying22 Ty.t5 rfl rfl hr (by rw[dy,fU]) (ep bs) h0 (by decide) (by omega) λsZ rH a w E I=>?_;refine RT 1 E I ?_;rw[eE] at *;exact⟨_,_,rfl,I⟩
theorem abW {W w:World}{L:List SP}{ad:Option Addr}{n c:Nat}{bs:List UInt8}(I:U W w L)(hr:aW w ad n bs)(hl:n≤140737488355328) :
   Calls prog 95 #[.slice ad n c] w λe w'=>∃ av c',e=.returned (.slice av n c')∧U W w' (Sl 5 1 av n c' (bc bs)::L):=by
 obtain⟨rfl,h2,h3⟩:=hr;cases ad with
 | none =>
  have h0:=h2 rfl;obtain rfl:=g4 h0;exact (abT I).mono λe w' ⟨h,I⟩=>⟨none,0,h,I.bN _ _ _⟩
 | some x =>
  rcases lH bs.length with h0 | h0
  ·obtain rfl:=g4 h0;exact (abU I).mono λe w' ⟨av,h,I⟩=>⟨av,0,h,I⟩
  ·obtain⟨b,off,rfl,hr⟩:=h3 x rfl h0;exact abV I hr h0 hl
theorem N6 {W w:World}{L:List SP}{ad:Option Addr}{n c:Nat}{f t:Int}{bs:List UInt8}(I:U W w L)(hr:∀ w',U W w' L→aW w' ad n bs)(hl:n≤140737488355328) :
   Calls prog 76 #[.agg #[.int .i64 f,.int .i64 t,.slice ad n c]] w λe w'=>∃ av c',e=.returned (.agg #[.int .i64 f,.int .i64 t,.slice av n c'])∧U W w' (Sl 5 1 av n c' (bc bs)::L):=by
 refine EN func76 ntmps76 rfl rfl λa E=>?_;refine BX 1 E I λb1 a w E I=>?_;refine AL 0 E I λb2 a w E I=>?_;refine aY 3 E I (abW I (hr _ I.sub) hl) λav c' a w E I=>?_;refine ST 1 E I (λa w E I=>?_);refine SA 2 E I λa w E I=>?_;refine RT 0 E I ?_;exact⟨_,_,rfl,I.sub⟩
theorem N7 {W w:World}{L R:List SP}{q e:Nat}{s:Option Addr}{n c:Nat}(I:U W w L) [fI L q e [.slice s n c] R] :
   Calls prog 23 #[pt q] w λe w'=>e=.returned (.int .i64 n)∧U W w' L:=by
 refine EN func23 ntmps23 rfl rfl λa E=>?_;refine RN 6 E I λa E=>?_;replace E:=E.aM 4;refine RT 8 E I ?_;exact⟨rfl,I⟩
theorem N8 {W w:World}{L:List SP}{q:Nat}{ms:List pj}(I:U W w (bK q ms::L)) :
   Calls prog 23 #[pt q] w λe w'=>e=.returned (.int .i64 ms.length)∧U W w' (bK q ms::L):=by
 obtain⟨ad,c,xs,rfl,hx,I⟩:=bK.open I;refine (N7 (q:=q) I).mono λe w' ⟨h,I⟩=>⟨by rw[h];simp,bK.shut (q:=q) (ad:=ad) (xs:=xs) I rfl rfl rfl hx.1 hx.2⟩
theorem Ct {W w:World}{L R:List SP}{q e:Nat}{s:Option Addr}{n c:Nat}{i:Int}(I:U W w L) [fI L q e [.slice s n c] R] :
   Calls prog 75 #[pt q,.int .i64 i] w λe w'=>e=.returned (.bool (decide (0≤i)&&decide (i<n)))∧U W w' L:=by
 refine EN func75 ntmps75 rfl rfl λa E=>?_;refine BY 6 E I (λbA a E=>?_) λbA a E=>?_
 ·
  refine CL 2 E I (N7 (q:=q) I) λa w E I=>?_;refine RT 3 E I ?_;exact⟨by rw[dh (p:=0≤i) (by omega),Bool.true_and],I⟩
 refine RT 6 E I ?_;exact⟨by rw[bo (p:=0≤i) (by omega),Bool.false_and],I⟩
theorem abX {W w:World}{L:List SP}(I:U W w L) :
   Calls prog 42 #[] w λe w'=>∃ q,e=.returned (pt q)∧U W w' (bK q []::L):=by
 refine EN func42 ntmps42 rfl rfl λa E=>?_;refine BX 4 E I λb2 a w E I=>?_;refine RT 1 E I ?_;exact⟨_,rfl,by
  have h1:=(fO.nil (I.bN 124 3 none));exact (bK.shut (q:=b2) (xs:=[]) (ms:=[]) h1 rfl rfl rfl (by simp) (by simp)).sub⟩
theorem N9 {p q r vs:List Value}{o:Nat}(ho:o=p.length)(h:q.length=vs.length):cG (p++q++r) o vs=p++vs++r:=by
 subst ho;have e1:(p++q++r).take p.length=p:=by rw[dx,List.take_left]
 have e2:(p++q++r).drop (p.length+vs.length)=r:=by rw[← h,show p.length+q.length=(p++q).length from by simp,drop_left]
 rw[cG,e1,e2]
theorem abY {pre cs post:List Value}{n i:Nat}(hl:cs.length=n*3)(hi:i<n) :
   ∃ v,v.length=3∧cG (pre++cs++post) (pre.length+i*3) (cs.drop ((i+1)*3))=(pre++(cs.take (i*3)++cs.drop ((i+1)*3)))++v++post:=by
 refine⟨(cs.drop (i*3)).drop ((n-1-i)*3),by rw[c5,c5];omega,?_⟩;have uO:cs=cs.take (i*3)++((cs.drop (i*3)).take ((n-1-i)*3)++(cs.drop (i*3)).drop ((n-1-i)*3)):=by rw[jY,jY]
 have e:pre++cs++post=(pre++cs.take (i*3))++(cs.drop (i*3)).take ((n-1-i)*3)++((cs.drop (i*3)).drop ((n-1-i)*3)++post):=by
  conv=>lhs;rw[uO]
  simp only[dx]
 rw[e,N9 (by rw[aI,et];omega) (by rw[et,c5,c5];omega)];simp only[dx]
theorem abZ {W w:World}{L:List SP}{ad:Option Addr}{c n i:Nat}{cs:List Value}(I:U W w (Sl 124 3 ad n c cs::L))(hi:i<n)(hn:n≤140737488355328)(fS:∀ v∈cs,v.oneCell'=true) :
   Calls prog 103 #[.slice ad n c,.int .i64 i,.int .i64 ((i+1:Nat):Int)] w λe w'=>e=.returned (.slice ad (n-1) c)∧U W w' (Sl 124 3 ad (n-1) c (cs.take (i*3)++cs.drop ((i+1)*3))::L):=by
 have aj:=(I.sl ad);obtain⟨b,pre,post,⟨h1,h2,rfl,h4⟩,gF⟩:=I.l4 (by omega);replace I:=gF;clear gF;have ow:∃ qG,ft (some ⟨b,pre.length,none⟩) (i+1) c 3=some ⟨b,qG,none⟩∧∀ w,U W w (aa b 124 (pre++cs++post)::L)→Rd w b qG (cs.drop ((i+1)*3)):=by
  by_cases Oa:c=i+1
  ·refine⟨pre.length,by simp[ft,Oa],λw _=>?_⟩;rw[List.drop_of_length_le (by omega)];intro j v hj;simp at hj
  ·refine⟨pre.length+(i+1)*3,pB Oa,λw I=>?_⟩;intro j v hj;have hlt:=(a2.1 hj).1;rw[c5]at hlt;rw[I.cell,dx,pA (by omega),show pre.length+(i+1)*3+j-pre.length=(i+1)*3+j from by omega,mA (by omega)];rw[qs]at hj;exact hj
 obtain⟨qG,zu,ow⟩:=ow;refine EN func103 ntmps103 rfl rfl λa E=>?_;refine RN 8 E I λa E=>?_;refine SS E (Rc E underlying108 Ty.t124 (by omega) (by omega) (by omega)) λa E=>?_;refine RN 5 E I λa E=>?_;rw[show decide ((i:Int)=((i+1:Nat):Int))=false from bo (by omega)]at E;replace E:=E.aM 16;refine bS 6 [] [0,1,2,3,4,5,1006,7] E I λa w E I hH hC=>?_;refine RH 6 E I hH hC λa E=>?_;rw[zu,pB (by omega:c≠0)]at E;refine Rg E rfl I underlying108 Ty.t124 rfl (ow _ I) (by simp;omega) (λv hv=>fS v (List.mem_of_mem_drop hv)) (by omega) (by simp;omega) λa w E I=>?_;obtain⟨v,hv,Ff⟩:=abY (pre:=pre) (post:=post) (n:=n) (i:=i) h1 hi;rw[show pre.length+0*3+(i-0)*3=pre.length+i*3 from by omega,Ff]at I;rw[show i-0+(n-(i+1))=n-1 from by omega,show pre.length+0*3=pre.length from by omega]at E;have hP:(pre++(cs.take (i*3)++cs.drop ((i+1)*3))).length=pre.length+(n-1)*3:=by
  simp only[aI,et,c5];omega
 refine RN 1 E I λa E=>?_;refine RN 6 E I λa E=>?_;rw[pB (by omega)]at E;have hle:pre.length+(n-1)*3+(n-(n-1))*3≤(pre++(cs.take (i*3)++cs.drop ((i+1)*3))++v++post).length:=by
  rw[aI,aI,hP,hv];omega
 refine IP E rfl I underlying108 Ty.t124 rfl rfl hle λa w E I=>?_;refine RT 3 E I ?_;refine⟨rfl,?_⟩;generalize hz:(Builtin.zeroCells (Value.cells (.agg #[.int .i64 0,.int .i64 0,.slice none 0 0])) (n-(n-1))).toList=zs at I;have iI:zs.length=(n-(n-1))*3:=by rw[← hz];exact xR 0 (a1:=0) rfl _
 rw[N9 hP.symm (by rw[hv,iI];omega)]at I;rw[dx _ zs post]at I;exact U.iX I (by rw[aI]at hP;omega) (by omega) (by rw[aI,iI];omega)
def qm (ms:List pj)(n:Nat):Bool:=decide (ms.length<300)&&decide (n≤1000)
theorem ab0 {W w:World}{L:List SP}{q:Nat}{ms:List pj}{ad:Option Addr}{n c:Nat}{f t:Int}{bs:List UInt8}(I:U W w (bK q ms::L))(hr:∀ w',U W w' L→aW w' ad n bs) :
   Calls prog 100 #[pt q,.agg #[.int .i64 f,.int .i64 t,.slice ad n c]] w λe w'=>e=.returned (.bool (qm ms n))∧U W w' (bK q (if qm ms n then ms++[(f,t,bs)] else ms)::L):=by
 have oM:=(hr _ I.tail).1;subst oM;obtain⟨lT,eu,xs,rfl,hx,I⟩:=bK.open I;refine EN func100 ntmps100 rfl rfl λa E=>?_;refine BX 1 E I λb3 a w E I=>?_;refine RN 6 E I λa E=>?_;replace E:=E.aM 7;refine BY 8 E I (λl8 a E=>?_) λl8 a E=>?_
 ·
  have hm:qm (xs.map c4.m) bs.length=false:=by simp only[qm,a8,Bool.and_eq_false_iff,rR];left;omega
  refine RT 8 E I ?_;exact⟨by rw[hm],by rw[hm,ag (by decide)];exact (bK.shut (q:=q) (ad:=lT) (xs:=xs) I rfl rfl rfl hx.1 hx.2).sub⟩
 refine IF 5 E I (λaj a E=>?_) λaj a E=>?_
 ·
  have hm:qm (xs.map c4.m) bs.length=false:=by simp only[qm,a8,Bool.and_eq_false_iff,rR];right;omega
  refine RT 2 E I ?_;exact⟨by rw[hm],by rw[hm,ag (by decide)];exact (bK.shut (q:=q) (ad:=lT) (xs:=xs) I rfl rfl rfl hx.1 hx.2).sub⟩
 have hm:qm (xs.map c4.m) bs.length=true:=by simp only[qm,a8,fq,oA];omega
 refine aX 1 (λw0 w'=>w'.cell? ⟨q,0,none⟩=some (.slice lT xs.length eu)) [5,6,7] [0,1,2,3,3004,1005,1006,1007,1008,9,10,1011] E I λa w E I hH=>?_;have hC:=hH.at w (I.bz rfl);refine RH 4 E I hH hC λa E=>?_;refine QH E (λw hc=>ae E (hc)) hC λa E=>?_;refine RH 1 E I hH hC λa E=>?_;refine aY 0 E I (N6 I (λw' h=>hr w' h.sub) (by omega)) λav c' a w E I=>?_;replace hC:=hH.at w (I.bz rfl);refine RH 0 E I hH hC λa E=>?_;refine cr E rfl I underlying108 Ty.t124 rfl rfl rfl rfl (by decide) (by decide) λI7 a w E I ho=>?_;clear ho;replace hC:=hH.at w (I.bz rfl);refine RH 0 E I hH hC λa E=>?_;refine cQ E rfl I underlying108 Ty.t124 rfl rfl I.ai rfl (by simp[Value.oneCell']) (by decide) (by decide) (by omega) λL9 Ma a w E I=>?_;refine ST 2 E I (λa w E I=>?_);refine RT 2 E I ?_;refine⟨by rw[hm],?_⟩;rw[hm,ak rfl];have h3:=(I.pick (fO xs)).pick (Sl 5 1 av bs.length c' (bc bs));have h4:=fO.N5 (a:=xs) (b:=[]) (m:=⟨f,t,av,c',bs⟩) (by rw[append_nil];exact h3);refine (bK.shut (q:=q) (xs:=xs++[⟨f,t,av,c',bs⟩]) (ms:=xs.map c4.m++[(f,t,bs)]) h4 (by simp) (by rw[Cs];rfl) (by simp[c4.m]) (by simp;omega) ?_).sub;intro x dj;rcases eS.1 dj with h | h
 ·exact hx.2 x h
 ·obtain rfl:=iH.1 h;exact Int.ofNat_le.1 aj
theorem ab1 {W w:World}{L:List SP}{q:Nat}{ms:List pj}{i:Int}(I:U W w (bK q ms::L))(hi:(decide (0≤i)&&decide (i<ms.length))=false) :
   Calls prog 52 #[pt q,.int .i64 i] w λe w'=>e=.returned (.tuple #[.agg #[.int .i64 0,.int .i64 0,.slice none 0 0],.bool false])∧U W w' (bK q ms::L):=by
 obtain⟨lT,eu,xs,rfl,hx,I⟩:=bK.open I;rw[a8]at hi;refine EN func52 ntmps52 rfl rfl λa E=>?_;refine AL 1 E I λb4 a w E I=>?_;refine CL 5 E I (Ct (q:=q) I) λa w E I=>?_;rw[hi]at E;refine RN 1 E I λa E=>?_;replace E:=E.ei 9;refine SA 3 E I λa w E I=>?_;refine RT 1 E I ?_;exact⟨rfl,(bK.shut (q:=q) (ad:=lT) (xs:=xs) I rfl rfl rfl hx.1 hx.2).sub⟩
theorem Hv {i n:Nat}(h:i<n):(decide (0≤(i:Int))&&decide ((i:Int)<(n:Int)))=true:=by
 simp;omega
theorem ab2 {W w:World}{L:List SP}{q:Nat}{ms:List pj}{i:Nat}(I:U W w (bK q ms::L))(hi:i<ms.length) :
   Calls prog 52 #[pt q,.int .i64 i] w λe w'=>∃ ad c,e=.returned (.tuple #[.agg #[.int .i64 ms[i].1,.int .i64 ms[i].2.1,.slice ad ms[i].2.2.length c],.bool true])∧U W w' (Sl 5 1 ad ms[i].2.2.length c (bc ms[i].2.2)::bK q ms::L):=by
 obtain⟨lT,eu,xs,rfl,hx,I⟩:=bK.open I;have dL:i<xs.length:=by simpa using hi
 simp only[getElem_map,c4.m];refine EN func52 ntmps52 rfl rfl λa E=>?_;refine AL 1 E I λb4 a w E I=>?_;refine CL 5 E I (Ct (q:=q) I) λa w E I=>?_;rw[Hv dL]at E;refine RN 1 E I λa E=>?_;replace E:=E.aM 9;refine RN 2 E I λa E=>?_;obtain⟨b',dG,rfl,c7⟩:=I.bU lT (by omega);have gS:=Hu c7 i dL;refine RN 6 E I λa E=>?_;refine SS E (bT E underlying124 rfl Ty.t124 (gS.1)) λa E=>?_;refine aY 0 E I (N6 I (λw' h=>fO.rd h i dL) (by have:=hx.2 xs[i] (iZ dL);omega)) λav c' a w E I=>?_;refine SA 0 E I λa w E I=>?_;refine RT 1 E I ?_;exact⟨_,_,rfl,(bK.shut (q:=q) (ad:=some ⟨b',dG,none⟩) (xs:=xs) I rfl rfl rfl hx.1 hx.2).sub⟩
theorem ab3 (xs:List c4):∀ v∈iS xs,v.oneCell'=true:=by
 intro v hv;simp only[iS,List.mem_flatMap,c4.cells]at hv;obtain⟨x,_,hx⟩:=hv;simp at hx;rcases hx with rfl | rfl | rfl <;> rfl
theorem ab4 {W w:World}{L:List SP}{q:Nat}{ms:List pj}{i:Nat}(I:U W w (bK q ms::L))(hi:i<ms.length) :
   Calls prog 63 #[pt q,.int .i64 i] w λe w'=>e=.returned (.bool true)∧U W w' (bK q (ms.eraseIdx i)::L):=by
 obtain⟨lT,eu,xs,rfl,hx,I⟩:=bK.open I;have dL:i<xs.length:=by simpa using hi
 refine EN func63 ntmps63 rfl rfl λa E=>?_;refine CL 6 E I (Ct (q:=q) I) λa w E I=>?_;rw[Hv dL]at E;refine RN 1 E I λa E=>?_;replace E:=E.aM 8;refine CL 10 E I (abZ (I.pick (Sl 124 3 lT xs.length eu (iS xs))) dL (by omega) (ab3 xs)) λa w E I=>?_;refine ST 2 E I (λa w E I=>?_);refine RT 2 E I ?_;refine⟨rfl,?_⟩;have h1:=I.pick (fO xs);have h0:xs=xs.take i++xs[i]::xs.drop (i+1):=by rw[← kF dL,jY]
 have h2:=h1;rw[show fO xs=fO (xs.take i++xs[i]::xs.drop (i+1)) from by rw[← h0]]at h2;have h3:=(fO.out h2).tail;rw[N4,abR,← Cs,← sT]at h3;exact (bK.shut (q:=q) (ad:=lT) (xs:=xs.eraseIdx i) (ms:=(xs.map c4.m).eraseIdx i) h3 (by rw[List.length_eraseIdx];simp[dL]) rfl (by simp only[sT,cW,map_take,map_drop]) (by rw[List.length_eraseIdx];simp[dL];omega) (λx h=>hx.2 x (List.mem_of_mem_eraseIdx h))).sub
theorem Ob (bs:List UInt8)(i:Nat)(x:UInt8):(bc bs).set i (.int .u8 (x.toNat:Int))=bc (bs.set i x):=by
 simp[bc,jy]
theorem zA {p q r:List Value}{i:Nat}{v:Value}(h:i<q.length):(p++q++r).set (p.length+i) v=p++q.set i v++r:=by
 rw[dx,uu _ _ (by omega),show p.length+i-p.length=i from by omega,sN _ _ h,dx]
theorem ab5 {W w:World}{L:List SP}{q:Nat}{ms:List pj}{i:Nat}{aT:Int}{x:UInt8}(I:U W w (bK q ms::L))(hi:i<ms.length) :
   Calls prog 64 #[pt q,.int .i64 i,.int .i64 aT,.int .u8 (x.toNat:Int)] w λe w' =>
    e=.returned (.bool (decide (0≤aT)&&decide (aT<ms[i].2.2.length)))∧U W w' (bK q (if decide (0≤aT)&&decide (aT<ms[i].2.2.length) then ms.set i (ms[i].1,ms[i].2.1,ms[i].2.2.set aT.toNat (ms[i].2.2.getD aT.toNat 0 ^^^ x)) else ms)::L):=by
 obtain⟨lT,eu,xs,rfl,hx,I⟩:=bK.open I;have dL:i<xs.length:=by simpa using hi
 simp only[getElem_map,c4.m];obtain⟨b',dG,rfl,c7⟩:=I.bU lT (by omega);clear c7;refine EN func64 ntmps64 rfl rfl λa E=>?_;refine CL 6 E I (Ct (q:=q) I) λa w E I=>?_;rw[Hv dL]at E;refine RN 2 E I λa E=>?_;replace E:=E.aM 13;refine BY 4 E I (λfj a E=>?_) λfj a E=>?_
 ·
  have hm:(decide (0≤aT)&&decide (aT<xs[i].bs.length))=false:=by rw[bo (by omega),Bool.false_and]
  refine RN 4 E I λa E=>?_;have gS:=Hu (I.cK b' dG (by omega)) i dL;refine RT 11 E I ?_;exact⟨by rw[hm],by rw[hm,ag (by decide)];exact (bK.shut (q:=q) (ad:=some ⟨b',dG,none⟩) (xs:=xs) I rfl rfl rfl hx.1 hx.2).sub⟩
 refine RN 4 E I λa E=>?_;have gS:=Hu (I.cK b' dG (by omega)) i dL;refine RN 4 E I λa E=>?_;refine bm E (bQ E rfl (s:=17)) (ae E (gS.2.2.2)) rfl λa E=>?_;refine IF 3 E I (λaj a E=>?_) λaj a E=>?_
 ·
  have hm:(decide (0≤aT)&&decide (aT<xs[i].bs.length))=false:=by rw[bo (p:=aT<xs[i].bs.length) (by omega),Bool.and_false]
  refine RT 2 E I ?_;exact⟨by rw[hm],by rw[hm,ag (by decide)];exact (bK.shut (q:=q) (ad:=some ⟨b',dG,none⟩) (xs:=xs) I rfl rfl rfl hx.1 hx.2).sub⟩
 have hm:(decide (0≤aT)&&decide (aT<xs[i].bs.length))=true:=by simp;omega
 obtain⟨A,rfl⟩:∃ A:Nat,aT=A:=⟨aT.toNat,by omega⟩;have hA:A<xs[i].bs.length:=by omega
 rw[hm,ak rfl,c6];have h1:=I.pick (fO xs);have h0:xs=xs.take i++xs[i]::xs.drop (i+1):=by rw[← kF dL,jY]
 rw[show fO xs=fO (xs.take i++xs[i]::xs.drop (i+1)) from by rw[← h0]]at h1;replace I:=fO.out h1;clear h1;obtain⟨xa,uR⟩:∃ xa,xs[i].ad=xa:=⟨_,rfl⟩;have h2:=I;rw[show xs[i].own=Sl 5 1 xa xs[i].bs.length xs[i].c (bc xs[i].bs) from by rw[← uR];rfl]at h2;have cp:=(h2.sl xa).2;obtain⟨bb,pre,post,⟨h3,h4,h5,h6⟩,gF⟩:=h2.l4 (by omega);rw[h5]at uR;replace I:=gF;clear gF h2;rw[uR]at gS;have hb:(pre++bc xs[i].bs++post)[pre.length+A]?=some (.int .u8 (xs[i].bs[A].toNat:Int)):=by
  rw[dx,pA (by omega),show pre.length+A-pre.length=A from by omega,mA (by rw[dy];exact hA)];simp[bc,hA]
 refine RN 8 E I λa E=>?_;refine SS E (ae E (gS.2.2.2)) λa E=>?_;refine RN 2 E I λa E=>?_;refine SS E (ae E (I.bz hb)) λa E=>?_;refine ST 3 E I (λa w E I=>?_) (hlt:=(by simp only[aI,dy];omega));refine RT 2 E I ?_;refine⟨rfl,?_⟩;rw[zA (by rw[dy];exact hA),Ob]at I;have h7:=U.iX (n:=xs[i].bs.length) (c:=xs[i].c) (sz:=1) (I.jX bb) (by rw[dy,bw,fU]) h4 h6;obtain⟨m',pn⟩:∃ m':c4,m'=⟨xs[i].frm,xs[i].to,xs[i].ad,xs[i].c,xs[i].bs.set A (xs[i].bs[A] ^^^ x)⟩:=⟨_,rfl⟩;have Hw:m'.own=Sl 5 1 (some ⟨bb,pre.length,none⟩) xs[i].bs.length xs[i].c (bc (xs[i].bs.set A (xs[i].bs[A] ^^^ x))):=by
  rw[pn,c4.own];simp only[bw,uR]
 rw[← Hw]at h7;have h8:=fO.N5 (a:=xs.take i) (b:=xs.drop (i+1)) (m:=m') ((h7.pick (fO (xs.take i++xs.drop (i+1)))).pick m'.own);have vX:xs.set i m'=xs.take i++m'::xs.drop (i+1):=by rw[rp,ak dL]
 rw[← vX]at h8;refine (bK.shut (q:=q) (ad:=some ⟨b',dG,none⟩) (xs:=xs.set i m') (ms:=(xs.map c4.m).set i (xs[i].frm,xs[i].to,xs[i].bs.set A (xs[i].bs.getD A 0 ^^^ x))) h8 (by rw[bw]) ?_ ?_ (by rw[bw];exact hx.1) ?_).sub
 ·rw[vX]
  conv=>lhs;rw[h0]
  rw[Cs,Cs]
  congr 1
  simp only[iS,flatMap_cons]
  congr 1
  rw[pn,c4.cells,c4.cells];simp only[bw]
 ·rw[jy,pn,c4.m,bl,aD hA,Option.getD_some]
 ·intro y hy;rcases rI hy with h | h
  ·exact hx.2 y h
  ·rw[h,pn];simp only[bw];exact hx.2 _ (iZ dL)
end
section
theorem ab6 {l:List Br}{frm:Int}{P:List (List UInt8)}(b:Br)(h:0<(l.foldl (im frm P) b).done)(hb:b.done=0) :
   l.foldl (im frm P) b∈l∧(l.foldl (im frm P) b).done≤P.length∧pN ((l.foldl (im frm P) b).al.take (l.foldl (im frm P) b).done) P=true:=by
 have key:∀ (l:List Br) (b:Br),(l.foldl (im frm P) b=b)∨(l.foldl (im frm P) b∈l∧(l.foldl (im frm P) b).done≤P.length∧pN ((l.foldl (im frm P) b).al.take (l.foldl (im frm P) b).done) P=true):=by
  intro l
  induction l with
  | nil=>intro b;exact .inl rfl
  | cons y l ih =>
   intro b;rw[foldl_cons];rcases ih (im frm P b y) with h | ⟨h1,h2,h3⟩
   ·rw[h];unfold im;split
    ·rename_i hc;exact .inr ⟨gY ..,hc.2.2.1,hc.2.2.2⟩
    ·exact .inl rfl
   ·exact .inr ⟨gP _ h1,h2,h3⟩
 rcases key l b with h1 | h1
 ·rw[h1,hb]at h;omega
 ·exact h1
theorem ab7 {u P:List (List UInt8)}(hl:u.length≤P.length)(h:pN u P=true):u=P.take u.length:=by
 have h1:=XY.1 h;rw[Nat.min_eq_left hl,k4]at h1;exact h1
theorem Oc (p:Pr):∀ (a b:List (List UInt8)) (fr:Int) (g:Nat→Int),foldI p fr g (a++b)=foldI p (fr+(a.length:Nat)) (foldI p fr g a) b
 | [],b,fr,g=>by simp[foldI]
 | x::a,b,fr,g=>by
  rw[cons_append,foldI,Oc p a b,foldI,eR]
  congr 1;omega
theorem iK.drop {w:World}{ad:Option Addr}{zs:List ec}{d c:Nat}(h:iK w ad zs)(hc:zs.length≤c):iK w (ft ad d c 1) (zs.drop d):=by
 refine⟨λh0=>?_,λx hx=>h.2 x (List.mem_of_mem_drop hx)⟩;rw[c5]at h0;obtain⟨b,o,rfl,hr⟩:=h.1 (by omega);refine⟨b,o+d*1,pB (by omega),λj v hj=>?_⟩;rw[map_drop,qs]at hj;have:=hr _ v hj;rw[fU,Nat.add_assoc];exact this
theorem Od {w:World}{b nk base front:Nat}{p:Pr}{M:jG}(h:Rd w b 0 (dU p M nk base front)):Rd w b 1 (bP p M.aq M.cO):=h.part 1 2
theorem ab8 {p:Pr}{f:Nat}{g:Nat→Int}{P:List (List UInt8)}{d:Nat}(hd:d≤P.length):foldI p ((f+d:Nat):Int) (foldI p (f:Int) g (P.take d)) (P.drop d)=foldI p (f:Int) g P:=by
 have h1:=Oc p (P.take d) (P.drop d) (f:Int) g;rw[jY,et,Nat.min_eq_left hd]at h1;rw[h1];rfl
section
variable {W w:World}{L:List SP}{n c i N tq sq r base front:Nat}{ad:Option Addr}{M:jG}{B:jo}{p:Pr}{s:Pl}{m:Mu}{A:Sn}{T:Tr}{t:Nat→Nat}{px:aC}
set_option maxHeartbeats 1000000 in
theorem ab9 (I:U W w (aE W M p m::L))(h:MI p M N m)(a6:dk p)(aH:p.title.size≤1000000000):Calls prog 265 #[pt M.mb] w λr w'=>∃ ad c,r=.returned (.tuple #[.slice ad 128 c,.int .i64 (fD p M.B.gs m.s).2])∧U W w' (Sl 5 1 ad 128 c (bc (fD p M.B.gs m.s).1)::aE W M p m::L):=by
 have hw:=h.wf;have bD:=hw.wc.lu;have ib:m.s.k.ls.length≤8:=by rw[hw.wc.ls];exact hw.wc.n.2
 have gW:=hw.wc.lV;have jU:aU m.s.k.ls≤aG m.s.k:=hw.wc.nF;have fE:=h.gs;have fw:=h.front;obtain⟨t,hI⟩:=h.inv;obtain⟨i,px,hW,lh⟩:=hI.mH (gY ..);have tp:=(hI.base px (bH hW) lh).1;have lj:=Tree.wt ((aE.open I).tree M.tq);clear h;obtain⟨s,A,T,J,ks,base,front⟩:=m;simp only at hw bD ib gW jU fw hI hW lh tp lj;subst fw;refine EN func265 ntmps265 rfl rfl λa E=>?_;refine CL 5 E I (BW I) λa w E I=>?_;replace I:=aP.open ((aE.open I).pick (aP W M.B p s));dsimp only at I;refine CL 0 E I (tI (I.pick (az M.B.core s.k)) hw.wc) λa w E I=>?_;refine RN 1 E I λa E=>?_;replace I:=aP.fold I M.B p s;refine aX 2 (λw0 w'=>Rd w' M.mb 0 (dU p M ks.length base (aw s.k))) [8,9,10] [0,1,2,3,4,5,7,3006,1008,1009,1010,11,12,13,14,15,16,17,1018,19,20] E I λa w E I hH=>?_;have hC:=hH.at w (I.ai (b:=M.mb));refine RH 3 E I hH hC λa E=>?_;replace E:=E.aM 15;refine RH 4 E I hH hC λa E=>?_;refine QH E (λw hc=>ae E (hc 8 _ rfl)) hC λa E=>?_;replace I:=aE.fold I M p ⟨s,A,T,J,ks,base,aw s.k⟩;refine RH 0 E I hH hC λa E=>?_;refine CL 0 E I (BW I) λa w E I=>?_;replace hC:=hH.at w ((aE.open I).ai (b:=M.mb));replace I:=aP.open ((aE.open I).pick (aP W M.B p s));dsimp only at I;refine RH 0 E I hH hC λa E=>?_;refine CL 0 E I (o9 (I.pick (az M.B.core s.k))) λa w E I=>?_;replace hC:=hH.at w (I.ai (b:=M.mb));obtain⟨D,I,hD⟩:=az.qu I;refine RH 0 E I hH hC λa E=>?_;refine CL 0 E I (se I bD ib) λa w E I=>?_;replace hC:=hH.at w (I.ai (b:=M.mb));refine RH 1 E I hH hC λa E=>?_;rw[show decide (((aw s.k:Nat):Int)≠((aU s.k.ls:Nat):Int))=false from Kc]at E;refine RH 2 E I hH hC λa E=>?_;replace E:=E.aM 26;refine RH 4 E I hH hC λa E=>?_;refine bm E (bQ E rfl (s:=26)) (ae E (hC 8 _ rfl)) rfl λa E=>?_;refine RH 2 E I hH hC λa E=>?_;replace I:=aE.fold (aP.fold (hD _ _ I) M.B p s) M p ⟨s,A,T,J,ks,base,aw s.k⟩;refine IF 0 E I (λaj a E=>?_) λaj a E=>?_
 ·
  refine CL 2 E I (tS I) λa w E I=>?_;replace I:=aE.open I;dsimp only at I;refine aY 0 E I (M3 (I.pick (aP W M.B p s)) hw a6 aH fE) λad c a w E I=>?_;refine RT 4 E I ?_;exact⟨ad,c,rfl,(aE.fold I M p ⟨s,A,T,J,ks,base,aw s.k⟩).sub⟩
 have hhf:aw s.k<aG s.k:=by omega
 refine RN 1 E I λa E=>?_;replace I:=aE.open I;dsimp only at I;refine aX 0 (λw0 w'=>Rd w' M.mb 0 (dU p M ks.length base (aw s.k))) [1,2] [0,3,4,5,8,3006,1001,1002,1007,1009,10] E I λa w E I hH=>?_;have hC:=hH.at w (I.ai (b:=M.mb));refine RH 5 E I hH hC λa E=>?_;refine QH E (λw hc=>ae E (hc 0 _ rfl)) hC λa E=>?_;replace I:=aE.fold I M p ⟨s,A,T,J,ks,base,aw s.k⟩;refine RH 0 E I hH hC λa E=>?_;refine CL 0 E I (BW I) λa w E I=>?_;replace hC:=hH.at w ((aE.open I).ai (b:=M.mb));replace I:=aP.open ((aE.open I).pick (aP W M.B p s));dsimp only at I;refine RH 0 E I hH hC λa E=>?_;refine CL 0 E I (o9 (I.pick (az M.B.core s.k))) λa w E I=>?_;replace hC:=hH.at w (I.ai (b:=M.mb));replace I:=aP.fold I M.B p s;refine RH 0 E I hH hC λa E=>?_;refine CL 0 E I (Nb (I.pick (aP W M.B p s))) λa w E I=>?_;replace I:=aP.open (I.pick (aP W M.B p s));obtain⟨D,I,hD⟩:=az.qu (I.pick (az M.B.core s.k));refine j2 0 E I (GC (r:=0) (to:=aG s.k) (.inl rfl) (by decide) I fE bD ib hw.wc.nE gW (λw' df=>(df.pick (Sl 5 1 M.B.adT M.B.gs.table.length M.B.cT (bc M.B.gs.table))).cv M.B.adT _ rfl rfl)) λfY gk X a w E ⟨⟨tQ,iy⟩,I⟩=>?_;have mX:=iy rfl;subst mX;rw[xk]at I;replace I:=I.sub (M:=Qu M.B.core.qb M.B.core.aB s.k.ls::D::ch fY (aG s.k-aU s.k.ls) gk (dv M.B.gs s.k.ls (aG s.k))::aa M.B.pb 192 (gy p M.B s.g)::aA W p M.B.aq M.B.cO::Sl 5 1 M.B.adT M.B.gs.table.length M.B.cT (bc M.B.gs.table)::aa M.mb 177 (dU p M ks.length base (aw s.k))::aA W p M.aq M.cO::Sl 179 1 M.dw ks.length M.dF (gV ks)::ah (fa p M.aq M.cO M.tq M.jq M.sq) ks::Tree M.tq M.sq T::ax M.sq M.r A::bI M.jq J::L);replace I:=aE.fold (aP.fold (hD _ _ I) M.B p s) M p ⟨s,A,T,J,ks,base,aw s.k⟩;have ig:(dv M.B.gs s.k.ls (aG s.k)).length=aG s.k-aU s.k.ls:=w5 _ _ _;have m0:∀ b∈dv M.B.gs s.k.ls (aG s.k),b.length≤1099511627776:=λb hb=>by
  rw[dv,cR]at hb;obtain⟨i,_,rfl⟩:=hb;rw[nC,jj,a8];omega
 have Oe:fD p M.B.gs s=(gu (foldI p (aw s.k) s.g (dv M.B.gs s.k.ls (aG s.k))),aG s.k):=by rw[fD,ag (by omega)]
 clear iy tQ;generalize dv M.B.gs s.k.ls (aG s.k)=P at I ig m0 Oe;rw[← ig]at E I;rw[Oe];have Cb:=(ch.le (I.pick (ch fY P.length gk P))).2;refine RN 1 E I λa E=>?_;refine RN 1 E I λa E=>?_;replace I:=aE.open I;dsimp only at I;refine RN 5 E I λa E=>?_;replace I:=aE.fold I M p ⟨s,A,T,J,ks,base,aw s.k⟩;refine CL 0 E I (GH I hW lh) λa w E I=>?_;refine AL 0 E I λcI a w E I=>?_;change U W w (aa cI 183 (ints .i32 32 (λ_=>0))::_) at I;refine SA 0 E I λa w E I=>?_;refine RN 1 E I λa E=>?_;refine cd (M:=λa w=>∃ (d:Nat) (g1:Nat→Int),(d≤P.length∧foldI p ((aw s.k+d:Nat):Int) g1 (P.drop d)=foldI p (aw s.k:Int) s.g P∧dR g1)∧Fr a 92 [(0,pt M.mb),(4,.int .i64 (aG s.k)),(5,.slice fY P.length gk),(6,pt cI),(7,.int .i64 d)]∧U W w (aa cI 183 (ints .i32 32 g1)::ch fY P.length gk P::aE W M p ⟨s,A,T,J,ks,base,aw s.k⟩::L)) ?_ ?_
 ·
  refine cd (M:=λa w=>∃ (b8:Nat) (iv:Option Addr) (cb:Nat),Fr a 92 [(0,pt M.mb),(4,.int .i64 (aG s.k)),(5,.slice fY P.length gk),(6,pt cI),(7,.int .i64 0),(8,pt b8),(9,.bool (decide (0<(T.fL (aw s.k:Int) P).done)))]∧U W w (aa b8 238 (cj (T.fL (aw s.k:Int) P) iv cb)::aa cI 183 (ints .i32 32 s.g)::ch fY P.length gk P::aE W M p ⟨s,A,T,J,ks,base,aw s.k⟩::L)) ?_ ?_
  ·
   refine RN 0 E I λa E=>?_;rw[tp]at I;replace I:=aE.open (I.pick (aE W M p ⟨s,A,T,J,ks,base,aw s.k⟩));dsimp only at I;refine aX 0 (λw0 w'=>Rd w' M.mb 0 (dU p M ks.length base (aw s.k))) [7,13] [0,1,2,4,5,6,8,3003,3007,2009,10,11,12,1013,1014,15] E I λa w E I hH=>?_;have hC:=hH.at w (I.ai (b:=M.mb));refine RH 7 E I hH hC λa E=>?_;refine QH E (λw hc=>ae E (hc 4 _ rfl)) hC λa E=>?_;refine QH E (λw hc=>ae E (hc 8 _ rfl)) hC λa E=>?_;refine RH 0 E I hH hC λa E=>?_;refine DN [(9,[10,11,12,1013,1014,15]),(13,[1009,10,11,12,1014,15])] (by kernel_rfl) rfl ⟨⟨_,rfl,?_⟩,⟨_,rfl,?_⟩,trivial⟩
   ·
    refine RH 0 E I hH hC λa E=>?_;refine aY 0 E I (JY (p:=P) (I.tree M.tq) (λw' h=>ch.rd (h.pick (ch fY P.length gk P))) Cb ⟨by omega,m0⟩) λiv cb a w E I=>?_;refine RN 3 E I λa E=>?_;refine e0 E rfl I Ty.t238 rfl λb8 a w E I ho=>?_;clear ho;replace hC:=hH.at w (I.ai (b:=M.mb));refine RH 0 E I hH hC λa E=>?_;refine SA 0 E I λa w E I=>?_;refine RN 1 E I λa E=>?_;exact⟨_,iv,cb,E.ab [0,4,5,6,7,8,9],(aE.fold I M p ⟨s,A,T,J,ks,base,aw s.k⟩).sub⟩
   refine RH 0 E I hH hC λa E=>?_;refine e0 E rfl I Ty.t238 rfl λb8 a w E I ho=>?_;clear ho;replace hC:=hH.at w (I.ai (b:=M.mb));refine RH 0 E I hH hC λa E=>?_;refine aY 0 E I (JY (p:=P) (I.tree M.tq) (λw' h=>ch.rd (h.pick (ch fY P.length gk P))) Cb ⟨by omega,m0⟩) λiv cb a w E I=>?_;refine SA 3 E I λa w E I=>?_;refine RN 1 E I λa E=>?_;exact⟨_,iv,cb,E.ab [0,4,5,6,7,8,9],(aE.fold I M p ⟨s,A,T,J,ks,base,aw s.k⟩).sub⟩
  clear E;(try clear I);rintro a w ⟨b8,iv,cb,E,I⟩;refine IF 2 E I (λao a E=>?_) λao a E=>?_
  ·
   obtain⟨qg,oM,Of⟩:=ab6 (l:=T.l) (frm:=(aw s.k:Int)) (P:=P) mJ (by simpa [Tr.fL] using ao) rfl;change T.fL (aw s.k:Int) P∈T.l at qg;obtain⟨j,pb,Hx,Og⟩:=hI.Ke qg;have aca:=(hI.gi _ qg).2 pb (bH Hx) Og;have acb:=(hI.ar pb (bH Hx)).2;refine aX 0 (λw0 w'=>Rd w' b8 0 (cj (T.fL (aw s.k:Int) P) iv cb)) [3,5,6] [0,1,4,3002,3005,1003,1006,7] E I λa w E I hH=>?_;have hC:=hH.at w (I.ai (b:=b8));refine RH 3 E I hH hC λa E=>?_;refine QH E (λw hc=>ae E (hc 4 _ rfl)) hC λa E=>?_;refine QH E (λw hc=>ae E (hc 3 _ rfl)) hC λa E=>?_;refine RH 0 E I hH hC λa E=>?_;refine CL 0 E I (GH (I.pick (aE W M p ⟨s,A,T,J,ks,base,aw s.k⟩)) Hx Og) λa w E I=>?_;replace hC:=hH.at w (I.ai (b:=b8));refine RH 0 E I hH hC λa E=>?_;refine SA 0 E I λa w E I=>?_;replace hC:=hH.at w (I.ai (b:=b8));refine RH 1 E I hH hC λa E=>?_;change (T.fL (aw s.k:Int) P).done≤P.length at oM;change pN ((T.fL (aw s.k:Int) P).al.take (T.fL (aw s.k:Int) P).done) P=true at Of;have dr:=(lj.ok _ qg).2.1;generalize T.fL (aw s.k:Int) P=bb at *;have e1:bb.al.take bb.done=P.take bb.done:=by
    have:=ab7 (u:=bb.al.take bb.done) (P:=P) (by rw[et];omega) Of
    rwa [et,Nat.min_eq_left dr]at this
   exact⟨bb.done,pb.g,⟨oM,by rw[aca,e1];exact ab8 oM,acb⟩,E.ab [0,4,5,6,7],I.sub⟩
  refine RN 0 E I λa E=>?_;exact⟨0,s.g,⟨Nat.zero_le _,rfl,hw.qc a6⟩,E.ab [0,4,5,6,7],I.sub⟩
 clear E;(try clear I);rintro a w ⟨d,g1,⟨mN,Ci,acd⟩,E,I⟩;refine RN 1 E I λa E=>?_;replace I:=aE.open (I.pick (aE W M p ⟨s,A,T,J,ks,base,aw s.k⟩));dsimp only at I;obtain⟨zs,cV,eQ,I⟩:=ch.open (I.pick (ch fY P.length gk P));have iI:zs.length=P.length:=by rw[← cV,a8]
 refine aX 0 (λw0 w'=>Rd w' M.mb 0 (dU p M ks.length base (aw s.k))∧Rd w' cI 0 (ints .i32 32 g1)) [4,8,10] [0,1,2,5,6,7,9,11,12,13,16,3003,3004,1008,1010,1014,1015,17,18] E I λa w E I hH=>?_;have hC:=hH.at w ⟨I.ai (b:=M.mb),I.ai (b:=cI)⟩;refine RH 10 E I hH hC λa E=>?_;rw[show P.length-d=(P.drop d).length from (c5 ..).symm]at E;refine RH 1 E I hH hC λa E=>?_;refine QH E (λw hc=>bT E underlying45 rfl Ty.t45 (Od hc.1)) hC λa E=>?_;refine QH E (λw hc=>bT E underlying183 rfl Ty.t183 (hc.2)) hC λa E=>?_;refine RH 0 E I hH hC λa E=>?_;refine SS E (ae E (hC.1 8 _ rfl)) λa E=>?_;refine RH 1 E I hH hC λa E=>?_;rw[show ((aw s.k:Nat):Int)+(d:Int)=((aw s.k+d:Nat):Int) from rfl]at E;refine CL 0 E I (Mz (P:=P.drop d) (zs:=zs.drop d) (fr:=((aw s.k+d:Nat):Int)) (I.pick (aA W p M.aq M.cO)) a6 aH acd ⟨by rw[c5];omega,λb hb=>m0 b (List.mem_of_mem_drop hb)⟩ ⟨by omega,by have:aw s.k≤1000:=fG jU gW;omega⟩ (by rw[map_drop,cV]) (λw' h=>(U.mF (h.sub (M:=Sl 22 1 fY P.length gk (zs.map aL)::ah a7 zs::[]))).drop (by omega))) λa w E I=>?_;refine aY 0 E I (yY I) λad2 c2 a w E I=>?_;refine RN 2 E I λa E=>?_;refine RT 0 E I ?_;rw[Ci]at I;exact⟨ad2,c2,rfl,(aE.fold I M p ⟨s,A,T,J,ks,base,aw s.k⟩).sub⟩
end
end
section
section
variable {W w:World}{L:List SP}{n c cP cT nb nw rm me aK br:Nat}{adP adT:Option Addr}{M:jG}{B:jo}{x:UInt8}{p:Pr}{s:Pl}{m:Mu}{tb:List UInt8}{cf:Cf}{y id bg order cw workers room:Int}
set_option maxHeartbeats 1000000 in
theorem ace (I:U W w (aA W p adP cP::L))(hm:eW ⟨n,me,id,aK,br,bg,order,nb,nw,rm⟩)(a6:dk p)(fE:cY ⟨bg,order,tb⟩)(aH:p.title.size≤1000000000)(dY:p.ops.length≤1000000000)(eM:tb.length≤1099511627776)(hT:∀ w',U W w' (aA W p adP cP::L)→aW w' adT tb.length tb) :
   Calls prog 59 #[.agg (bV ⟨n,me,id,aK,br,bg,order,nb,nw,rm⟩).toArray,.agg (bP p adP cP).toArray,.slice adT tb.length cT] w λr w'=>∃ (M:jG) (m:Mu),r=.returned (.tuple #[pt M.mb,.int .i64 0]) ∧
    (M.B.gs=⟨bg,order,tb⟩∧m.s=eA p ⟨n,me,id,aK,br,bg,order,nb,nw,rm⟩∧MI p M 1 m∧m.T.l=[]∧m.J=[]∧∀ k∈m.ks,k.1=ld)∧U W w' (aE W M p m::aA W p adP cP::L):=by
 obtain⟨cf,dc⟩:∃ cf:Cf,cf=⟨n,me,id,aK,br,bg,order,nb,nw,rm⟩:=⟨_,rfl⟩;have cC:=hm;simp only[eW,fB]at cC;obtain⟨⟨h1,h2,h3⟩,⟨h4,h5,h6,h7⟩,h8,h9,fh,lN⟩:=cC;rw[← dc];refine EN func59 ntmps59 rfl rfl λa E=>?_;refine BX 1 E I λb3 a w E I=>?_;change U W w (aa b3 28 (bV cf)::_) at I;refine BX 0 E I λb4 a w E I=>?_;change U W w (aa b4 45 (bP p adP cP)::_) at I;refine RN 6 E I λa E=>?_;rw[dc]at E;refine bj 0 E I (M5 (tb:=tb) (I.pick (aA W p adP cP)) hm a6 fE aH dY eM (λw' hw=>hT w' hw.sub)) λB a w E ⟨Oh,I⟩=>?_;rw[← dc]at I;refine RN 9 E I λa E=>?_;replace E:=E.aM 19;refine RN 2 E I λa E=>?_;replace I:=I.bN 114 4 none;rw[bP]at I;refine RN 2 E I λa E=>?_;refine g9 E rfl I underlying43 Ty.t114 rfl rfl (by decide) (λh0=>(I.pick (aA W p adP cP)).rQ adP h0) (by rw[jv Ee]) (Af J2 _) (by omega) λgw gx a w E I=>?_;rw[nil_append,eE]at I;rw[eE]at E;refine ST 1 E I (λa w E I=>?_);refine RN 1 E I λa E=>?_;replace I:=(I.pick (Sl 114 4 gw p.ops.length gx (rows dQ p.ops))).Eg;refine aX 0 (λw0 w'=>Rd w' b3 0 (bV cf)∧Rd w' b4 0 [.string p.title,.slice gw p.ops.length gx]) [3,4,5] [0,2,3001,1003,1004,1005,6,1007,8] E I λa w E I hH=>?_;have hC:=hH.at w ⟨I.ai (b:=b3),I.ai (b:=b4)⟩;refine RH 2 E I hH hC λa E=>?_;refine QH E (λw hc=>bT E underlying45 rfl Ty.t45 (hc.2)) hC λa E=>?_;refine RH 0 E I hH hC λa E=>?_;refine SS E (ae E (hC.1 9 _ rfl)) λa E=>?_;rw[show cf.room=(rm:Int) from by rw[dc]]at E;refine RH 0 E I hH hC λa E=>?_;refine aY 0 E I (Vx (n:=rm) I (by omega)) λsq r a w E I=>?_;replace hC:=hH.at w ⟨I.ai (b:=b3),I.ai (b:=b4)⟩;refine RH 0 E I hH hC λa E=>?_;refine bj 0 E I (Wg I) λjq a w E I=>?_;replace hC:=hH.at w ⟨I.ai (b:=b3),I.ai (b:=b4)⟩;refine RH 1 E I hH hC λa E=>?_;refine xQ E rfl I rfl λgL a w E I ho=>?_;clear ho;change U W w (aa gL 177 [pt B.pb,.string p.title,.slice gw p.ops.length gx,pt sq,.pointer none,pt jq,.slice none 0 0,.int .i64 0,.int .i64 0]::_) at I;refine RN 1 E I λa E=>?_;refine aX 1 (λw0 w'=>Rd w' b3 0 (bV cf)∧w'.cell? ⟨gL,3,none⟩=some (pt sq)) [6] [0,1,2,3,5,3004,1006,1007,8,9,1010] E I λa w E I hH=>?_;have hC:=hH.at w ⟨I.ai (b:=b3),(I.ai (b:=gL)) 3 _ rfl⟩;refine RH 5 E I hH hC λa E=>?_;refine QH E (λw hc=>ae E (hc.2)) hC λa E=>?_;refine RH 0 E I hH hC λa E=>?_;refine SS E (ae E (hC.1 7 _ rfl)) λa E=>?_;rw[show cf.cw=(nb:Int) from by rw[dc]]at E;refine RH 0 E I hH hC λa E=>?_;refine bj 0 E I (VH (m:=(nb:Int)) I) λtq a w E I=>?_;rw[show (min (max (nb:Int) 0) 8).toNat=nb from by omega]at I;refine ST 2 E I (λa w E I=>?_);refine RN 3 E I λa E=>?_;refine SS E (ae E ((I.ai (b:=b3)) 8 _ rfl)) λa E=>?_;rw[show cf.workers=(nw:Int) from by rw[dc]]at E;refine RN 1 E I λa E=>?_;refine aQ (λμ a w=>∃ (ks:List Kx) (dw:Option Addr) (dF:Nat),(μ=nw-ks.length∧ks.length≤nw∧(∀ k∈ks,k.1=ld))∧Fr a 93 [(3,pt b3),(8,pt B.pb),(10,pt gL),(44,.int .i64 nw),(45,.int .i64 ks.length)]∧U W w (aa gL 177 (dU p ⟨gL,B,sq,r,tq,jq,dw,dF,gw,gx⟩ ks.length 0 0)::Sl 179 1 dw ks.length dF (gV ks)::ah (fa p gw gx tq jq sq) ks::aa b3 28 (bV cf)::aP W B p (eA p cf)::aA W p gw gx::aA W p adP cP::Tree tq sq ⟨nb,[],0,0⟩::ax sq r ⟨0,4*rm,0,[]⟩::bI jq []::L)) (nw) (⟨[],none,0,⟨by simp,by simp,λk hk=>by cases hk⟩,E.ab [3,8,10,44,45],(show U W w (Sl 179 1 none ([]:List Kx).length 0 (gV [])::ah (fa p gw gx tq jq sq) []::aa gL 177 (dU p ⟨gL,B,sq,r,tq,jq,none,0,gw,gx⟩ ([]:List Kx).length 0 0)::_) from (I.iY (f:=fa p gw gx tq jq sq)).bN 179 1 none).sub⟩) ?_;clear E I;rintro μ a w ⟨ks,dw,dF,⟨rfl,dH,zB⟩,E,I⟩;refine IF 3 E I (λao a E=>?_) λao a E=>?_
 ·
  refine aX 1 (λw0 w'=>Rd w' gL 0 (dU p ⟨gL,B,sq,r,tq,jq,dw,dF,gw,gx⟩ ks.length 0 0)) [8,12,16,20,21,22] [0,1,2,3,5,6,7,9,10,11,13,14,15,17,18,19,3004,3008,3012,3016,1020,1021,1022,1023,24,25,1026] E I λa w E I hH=>?_;have hC:=hH.at w (I.ai (b:=gL));refine RH 16 E I hH hC λa E=>?_;refine QH E (λw hc=>ae E (hc 6 _ rfl)) hC λa E=>?_;refine QH E (λw hc=>bT E underlying45 rfl Ty.t45 (Od hc)) hC λa E=>?_;refine QH E (λw hc=>ae E (hc 4 _ rfl)) hC λa E=>?_;refine QH E (λw hc=>ae E (hc 5 _ rfl)) hC λa E=>?_;refine RH 0 E I hH hC λa E=>?_;refine SS E (ae E (hC 3 _ rfl)) λa E=>?_;refine RH 0 E I hH hC λa E=>?_;refine bj 0 E I (X2 I) λwb a w E I=>?_;replace hC:=hH.at w (I.ai (b:=gL));refine RH 0 E I hH hC λa E=>?_;refine cr E rfl I underlying175 Ty.t179 rfl rfl rfl rfl (by decide) (by decide) λb69 a w E I ho=>?_;clear ho;replace hC:=hH.at w (I.ai (b:=gL));refine RH 0 E I hH hC λa E=>?_;refine cQ E rfl I underlying175 Ty.t179 rfl rfl I.ai rfl (by simp[Value.oneCell']) (by decide) (by decide) (by omega) λvx vy a w E I=>?_;refine ST 2 E I (λa w E I=>?_);have pX:U W w (aa gL 177 (dU p ⟨gL,B,sq,r,tq,jq,vx,vy,gw,gx⟩ (ks++[(ld,wb)]).length 0 0)::Sl 179 1 vx (ks++[(ld,wb)]).length vy (gV (ks++[(ld,wb)]))::aa wb 247 (cx p gw gx tq jq sq ld)::ah (fa p gw gx tq jq sq) ks::aa b3 28 (bV cf)::aP W B p (eA p cf)::aA W p gw gx::aA W p adP cP::Tree tq sq ⟨nb,[],0,0⟩::ax sq r ⟨0,4*rm,0,[]⟩::bI jq []::L):=by
   have e1:(ks++[(ld,wb)]).length=ks.length+1:=by simp
   have e2:gV (ks++[(ld,wb)])=gV ks++[pt wb]:=by simp[gV]
   rw[e1,e2];change U W w (aa gL 177 (dU p ⟨gL,B,sq,r,tq,jq,vx,vy,gw,gx⟩ (ks.length+1) 0 0)::Sl 179 1 vx (ks.length+1) vy (gV ks++[pt wb])::_) at I;exact I.sub
  have Oi:=U.j0 (f:=fa p gw gx tq jq sq) (x:=(ld,wb)) (l:=ks) (pX.sub (M:=aa wb 247 (cx p gw gx tq jq sq ld)::ah (fa p gw gx tq jq sq) ks::aa gL 177 (dU p ⟨gL,B,sq,r,tq,jq,vx,vy,gw,gx⟩ (ks++[(ld,wb)]).length 0 0)::Sl 179 1 vx (ks++[(ld,wb)]).length vy (gV (ks++[(ld,wb)]))::aa b3 28 (bV cf)::aP W B p (eA p cf)::aA W p gw gx::aA W p adP cP::Tree tq sq ⟨nb,[],0,0⟩::ax sq r ⟨0,4*rm,0,[]⟩::bI jq []::L));replace I:=Oi;clear pX Oi;refine RN 2 E I λa E=>?_;have acf:(ks++[(ld,wb)]).length=ks.length+1:=by simp
  refine⟨nw-(ks.length+1),by omega,ks++[(ld,wb)],vx,vy,⟨by omega,by omega,λk hk=>?_⟩,?_,I.sub⟩
  ·rcases eS.1 hk with hk | hk
   ·exact zB k hk
   ·rw[iH.1 hk]
  ·rw[acf];exact E.ab [3,8,10,44,45]
 refine aX 1 (λw0 w'=>Rd w' gL 0 (dU p ⟨gL,B,sq,r,tq,jq,dw,dF,gw,gx⟩ ks.length 0 0)) [6] [0,1,2,3,5,3004,1006,1007,8,9,10,11,12,1013] E I λa w E I hH=>?_;have hC:=hH.at w (I.ai (b:=gL));refine RH 5 E I hH hC λa E=>?_;refine QH E (λw hc=>ae E (hc 3 _ rfl)) hC λa E=>?_;refine RH 0 E I hH hC λa E=>?_;refine CL 0 E I (Na (I.pick (aP W B p (eA p cf)))) λa w E I=>?_;replace hC:=hH.at w (I.ai (b:=gL));refine RH 0 E I hH hC λa E=>?_;refine bj 0 E I (JI (g:=(eA p cf).g) (I.store sq) (by simp[Sn.used,Vw];omega) (by simp)) λt a w E ⟨⟨ht1,GK⟩,I⟩=>?_;refine ST 5 E I (λa w E I=>?_);refine RN 3 E I λa E=>?_;refine SS E (ae E ((I.ai (b:=b3)) 3 _ rfl)) λa E=>?_;rw[show cf.aK=(aK:Int) from by rw[dc]]at E;refine ST 2 E I (λa w E I=>?_);change U W w (aa gL 177 (dU p ⟨gL,B,sq,r,tq,jq,dw,dF,gw,gx⟩ ks.length 1 aK)::_) at I;refine RT 4 E I ?_;obtain rfl:ks.length=nw:=by omega
 have vz:=aE.fold I ⟨gL,B,sq,r,tq,jq,dw,dF,gw,gx⟩ p ⟨eA p cf,(⟨0,4*rm,0,[]⟩:Sn).add (eA p cf).g t,⟨nb,[],0,0⟩,[],ks,1,aK⟩;refine⟨⟨gL,B,sq,r,tq,jq,dw,dF,gw,gx⟩,⟨eA p cf,(⟨0,4*rm,0,[]⟩:Sn).add (eA p cf).g t,⟨nb,[],0,0⟩,[],ks,1,aK⟩,rfl,⟨Oh,rfl,?_,rfl,rfl,zB⟩,vz.sub⟩;obtain⟨ps,ev,mr,hk⟩:∃ ps ev mr,(eA p cf).k={ fm cf with ps:=ps,ev:=ev,mr:=mr }:=(xe (p:=p) (c:=cf) (by rw[dc];exact hm)).ez.2.2;have Hy:cu p (eA p cf):=cu.new (by rw[dc];exact hm);have hfd:aw (eA p cf).k=aK:=by
  obtain⟨l,jf,j7⟩:=By Hy.wc.lu;rw[aw,j7];rw[hk]at jf;have xy:l∈List.replicate cf.n.toNat (List.replicate cf.aK.toNat 0):=jf;rw[(List.mem_replicate.1 xy).2,kH,dc];rfl
 have b6:∀ k∈ks.map (·.1),k=ld:=λk hk=>by
  obtain⟨y,hy,rfl⟩:=cR.1 hk;exact zB y hy
 exact { wf:=Hy,gs:=by rw[Oh];exact fE,front:=hfd.symm,gi:=λy hy=>(by cases hy),J:=by simp,most:=by rw[hk,dc];rfl,workers:=by rw[hk,dc];rfl,ks:=by dsimp only;omega,room:=⟨by rw[hk,dc];simp only[Sn.add,fm];omega,by simp only[Sn.add];omega⟩,n:=⟨bf _,Nat.zero_le _,Nat.zero_le _⟩,inv:=⟨t,by
  refine⟨?_,λx hx=>?_,λx hx _=>?_,λy hy=>(by cases hy),λk hk=>?_⟩
  ·rw[Nc (λk hk=>by rw[b6 k hk];rfl)];exact lD _
  ·rw[iH.1 hx];exact⟨rfl,Hy.qc a6⟩
  ·rw[iH.1 hx];exact⟨rfl,rfl⟩
  ·rw[b6 k hk];exact⟨Int.le_refl _,λh=>(by cases h)⟩⟩ }
end
end
end Go.Proofs.YteoldcfapaiobaaGreat
