/- quintainref21.Player. -/
import Derived.Test.YteoldcfapaiobaaGreatH13RefC
import Derived.Test.YteoldcfapaiobaaGreatH12Mul
import Derived.Test.YteoldcfapaiobaaGreatH10Core
namespace Go.Proofs.YteoldcfapaiobaaGreat
open Tryz
open List (length_range take_succ_cons drop_left take_zero foldl_cons nil_append map_cons mem_range drop_eq_nil_of_le getElem_map cons_append append_nil map_take map_drop mem_of_mem_eraseIdx foldl_append flatMap_cons)
open Go.RowKit
set_option linter.unusedVariables false
set_option linter.unusedSimpArgs false
set_option maxRecDepth 10000
set_option synthInstance.maxSize 4000
set_option synthInstance.maxHeartbeats 400000
section
structure gf where
 pb:Nat
 core:n4
 an:Option Addr
 cO:Nat
 adT:Option Addr
 cT:Nat
 gs:Gs
abbrev e4 (p:Pr)(B:gf)(g:Nat→Int):List Value:=[pt B.core.cb,.string p.title,.slice B.an p.ops.length B.cO,.int .i64 B.gs.kind,.int .i64 B.gs.order,.slice B.adT B.gs.table.length B.cT]++ints .i32 32 g
theorem N2 {w:World}{b:Nat}{p:Pr}{B:gf}{g:Nat→Int}(h:Rd w b 0 (e4 p B g)):Rd w b 1 (bx p B.an B.cO):=h.part 1 2
theorem abM {w:World}{b:Nat}{p:Pr}{B:gf}{g:Nat→Int}(h:Rd w b 0 (e4 p B g)):Rd w b 3 (dr B.gs B.adT B.cT):=h.part 3 3
theorem CA {w:World}{b:Nat}{p:Pr}{B:gf}{g:Nat→Int}(h:Rd w b 0 (e4 p B g)):Rd w b 6 (ints .i32 32 g):=by
 have h1:=h.part 6 32
 rwa [show ((e4 p B g).drop 6).take 32=ints .i32 32 g from by
  show (ints .i32 32 g).take 32=_;exact fO (by rw[di];exact bh _)]at h1
theorem N3 (p:Pr)(B:gf)(g:Nat→Int):(e4 p B g).length=38:=by rw[e4,aN,di];rfl
theorem abN (p:Pr)(B:gf)(g g':Nat→Int):cD (e4 p B g) 6 (ints .i32 32 g')=e4 p B g':=by
 rw[cD,di,drop_eq_nil_of_le (by rw[N3];exact bh _),append_nil,e4,e4]
 congr 1
def b9 (W:World)(B:gf)(p:Pr)(s:Pl):SP:=λh=>cp [aa B.pb 51 (e4 p B s.g),a2 B.core s.k,az W p B.an B.cO] h
section
variable {W w:World}{L R:List SP}{n c i cP cT:Nat}{ad adP adT:Option Addr}{B:gf}{x:UInt8}{p:Pr}{s:Pl}{bs tb:List UInt8}{k:Ks}{C:n4}{A:mY}
theorem b9.open (I:U W w (b9 W B p s::L)):U W w (aa B.pb 51 (e4 p B s.g)::a2 B.core s.k::az W p B.an B.cO::L) :=
 I.open (M:=[_,_,_]) λ_ h=>h
theorem b9.fold (I:U W w L)(B:gf)(p:Pr)(s:Pl)[kk:fN L [aa B.pb 51 (e4 p B s.g),a2 B.core s.k,az W p B.an B.cO] R]:U W w (b9 W B p s::R) :=
 U.shut (M:=[_,_,_]) (I.perm kk.perm) λ_ h=>h
theorem Hj (I:U W w (bP C.lb C.lo C.cL k.ls::aa C.cb 72 (cU k C A)::L))(hk:WC k):Calls prog 19 #[pt C.cb] w λr V=>r=.returned (.int .i64 (aw k))∧U W V (bP C.lb C.lo C.cL k.ls::aa C.cb 72 (cU k C A)::L):=by
 have hn:=hk.n;have eD:=hk.ls;refine EN func19 ntmps19 rfl rfl λa E=>?_;refine RN 7 E I λa E=>?_;obtain⟨xs,bd,I⟩:=bP.open I;have b0:xs.length=k.ls.length:=by rw[← bd,gn]
 rw[← b0]at E;refine CL 0 E I (Cm (xs:=xs) I (by omega) (by omega) (λV hw=>U.o9 hw)) λa w E I=>?_;refine RT 1 E I ?_;exact⟨by rw[bd];rfl,bP.close I bd⟩
theorem Hk (I:U W w (b9 W B p s::L))(hw:WP p s)(a7:dq p)(aE:p.title.size≤1000000000):Calls prog 66 #[pt B.pb] w λr V=>r=.returned (.tuple #[])∧U W V (b9 W B p (eL p s)::L):=by
 refine EN func66 ntmps66 rfl rfl λa E=>?_;refine RN 0 E I λa E=>?_;refine aQ (λμ a w=>∃ (i:Nat),(μ=aw s.k-s.k.mr.length-i∧i≤aw s.k-s.k.mr.length)∧Fr a 60 [(0,pt B.pb)]∧U W w (b9 W B p (iy p i s)::L)) (aw s.k-s.k.mr.length) (⟨0,⟨rfl,by omega⟩,E.ab [0],I⟩) ?_;clear E I;rintro μ a w ⟨i,⟨rfl,hi⟩,E,I⟩;obtain⟨kn,eD,mA⟩:=hw.qU i hi;have fl:iy p (i+1) s=n1 p (iy p i s):=F8 p i s;have D5:=hw.low;have wy:aw (iy p i s).k=aw s.k:=by rw[aw,eD];rfl
 generalize GP:iy p i s=si at I kn eD mA fl wy;replace I:=b9.open I;have bT:=kn.wc.lr;have iQ:si.k.ls.length≤8:=by rw[kn.wc.ls];exact kn.wc.n.2
 have xD:0<si.k.ls.length:=by rw[kn.wc.ls];have:=kn.wc.n;omega
 have aav:aw si.k≤1000:=gC kn.wc.ny kn.wc.lO;obtain⟨A,I⟩:=a2.open (I.pick (a2 B.core si.k));refine a1 2 (λw0 V=>Rd V B.pb 0 (e4 p B si.g)∧Rd V B.core.cb 0 (cU si.k B.core A)) [11,12] [0,1,2,8,9,10,3003,4,5,3006,7,1011,1012,13] E I λa w E I hH=>?_;have hC:=hH.at w ⟨I.ai (b:=B.pb),I.ai (b:=B.core.cb)⟩;refine RH 6 E I hH hC λa E=>?_;refine QH E (λw hc=>ae E (hc.1 0 _ rfl)) hC λa E=>?_;refine RH 2 E I hH hC λa E=>?_;refine QH E (λw hc=>ae E (hc.2 16 _ rfl)) hC λa E=>?_;refine RH 1 E I hH hC λa E=>?_;refine SS E (ae E (hC.1 0 _ rfl)) λa E=>?_;refine RH 0 E I hH hC λa E=>?_;refine CL 0 E I (Hj ((I.pick (aa B.core.cb 72 (cU si.k B.core A))).pick (bP B.core.lb B.core.lo B.core.cL si.k.ls)) kn.wc) λa w E I=>?_;replace hC:=hH.at w ⟨I.ai (b:=B.pb),I.ai (b:=B.core.cb)⟩;refine RH 1 E I hH hC λa E=>?_;refine IF 0 E I (λaj a E=>?_) λaj a E=>?_
 ·
  have qF:si.k.mr.length<aV si.k.ls:=by
   have:aV si.k.ls=aw si.k:=rfl;omega
  have aaw:si.k.mr.length<aw si.k:=qF;refine RN 11 E I λa E=>?_;obtain⟨xs,bd,I⟩:=bP.open (I.pick (bP B.core.lb B.core.lo B.core.cL si.k.ls));have b0:xs.length=si.k.ls.length:=by rw[← bd,gn]
  have ea:=nu si.k.ls si.k.mr.length;refine a1 0 (λw0 V=>Rd V B.pb 0 (e4 p B si.g)∧Rd V B.core.cb 0 (cU si.k B.core A)) [8,13,14,15,16,18] [0,1,2,3,5,6,7,9,10,11,12,17,3004,3008,1013,1014,1015,1016,1018,1019,20,21,22,23,24,1025] E I λa w E I hH=>?_;have hC:=hH.at w ⟨I.ai (b:=B.pb),I.ai (b:=B.core.cb)⟩;refine RH 12 E I hH hC λa E=>?_;refine QH E (λw hc=>bQ E underlying45 rfl Ty.t45 (N2 hc.1)) hC λa E=>?_;refine QH E (λw hc=>bQ E underlying49 rfl Ty.t49 (CA hc.1)) hC λa E=>?_;refine RH 0 E I hH hC λa E=>?_;refine SS E (ae E (hC.1 0 _ rfl)) λa E=>?_;refine RH 2 E I hH hC λa E=>?_;refine SS E (ae E (hC.2 10 _ rfl)) λa E=>?_;rw[← b0]at E;refine RH 0 E I hH hC λa E=>?_;refine aX 0 E I (GV (xs:=xs) (f:=si.k.mr.length) I (by omega) (by omega) (λV hw=>U.o9 hw) (by rw[bd];exact qF)) λiT jj a w E I=>?_;replace hC:=hH.at w ⟨I.ai (b:=B.pb),I.ai (b:=B.core.cb)⟩;rw[bd]at E I;refine RH 0 E I hH hC λa E=>?_;refine aW 0 E I (E9 (b:=bM si.k.ls si.k.mr.length) (fr:=si.k.mr.length) (I.pick (az W p B.an B.cO)) a7 aE (kn.p5 a7) (by omega) (by omega) (λV hw=>(hw.pick (Sl 5 1 iT (bM si.k.ls si.k.mr.length).length jj (bc (bM si.k.ls si.k.mr.length)))).cr iT _ rfl rfl)) λnst a w E ⟨pX,I⟩=>?_;refine RN 5 E I λa E=>?_;refine rj E rfl I Ty.t49 uy (by rw[di,N3];decide) λa w E I=>?_;rw[abN]at I;refine RN 0 E I λa E=>?_;replace I:=bP.close (I.sub (M:=Sl 65 1 (some ⟨B.core.lb,B.core.lo,none⟩) si.k.ls.length B.core.cL (xs.map aM)::ah ba xs::aa B.pb 51 (e4 p B (fa p si.k.mr.length (bM si.k.ls si.k.mr.length) si.g))::az W p B.an B.cO::aa B.core.cb 72 (cU si.k B.core A)::aa B.core.hb 3 (fe si.k.ps)::aa B.core.ec 3 (e0 si.k.ps)::aa B.core.wb 313 (rows fg si.k.ps)::aa B.core.xb 4 (ff si.k.ps)::Sl 100 1 A.ch si.k.mr.length A.cM (c0 si.k.mr)::Sl 102 3 A.adE si.k.ev.length A.cE (rows bZ si.k.ev)::L)) bd;replace I:=a2.fold I B.core si.k A;refine a1 0 (λw0 V=>Rd V B.pb 0 (e4 p B (fa p si.k.mr.length (bM si.k.ls si.k.mr.length) si.g))) [7,8] [0,1,2,4,5,6,3003,1007,1008,1009] E I λa w E I hH=>?_;have hC:=hH.at w (I.ai (b:=B.pb));refine RH 6 E I hH hC λa E=>?_;refine QH E (λw hc=>ae E (hc 0 _ rfl)) hC λa E=>?_;refine RH 0 E I hH hC λa E=>?_;refine SS E (bQ E underlying49 rfl Ty.t49 (CA hC)) λa E=>?_;refine RH 0 E I hH hC λa E=>?_;refine CL 0 E I (Zm I) λa w E I=>?_;replace hC:=hH.at w (I.ai (b:=B.pb));refine RH 0 E I hH hC λa E=>?_;refine CL 0 E I (abp (I.pick (a2 B.core si.k)) kn.wc (by omega) (Fg _)) λa w E I=>?_;refine RN 0 E I λa E=>?_;exact⟨aw s.k-s.k.mr.length-(i+1),by omega,i+1,⟨rfl,by omega⟩,E.ab [0],by
   rw[fl];show U W w (b9 W B p ⟨lN si.k (jB (gw (fa p si.k.mr.length (bM si.k.ls si.k.mr.length) si.g))),fa p si.k.mr.length (bM si.k.ls si.k.mr.length) si.g⟩::L);exact (b9.fold I B p ⟨lN si.k (jB (gw (fa p si.k.mr.length (bM si.k.ls si.k.mr.length) si.g))),fa p si.k.mr.length (bM si.k.ls si.k.mr.length) si.g⟩).sub⟩
 refine RT 0 E I ?_;obtain rfl:i=aw s.k-s.k.mr.length:=by
  have:aV si.k.ls=aw si.k:=rfl;omega
 refine⟨rfl,?_⟩;rw[eL,GP];exact (b9.fold (a2.fold I B.core si.k A) B p si).sub
theorem abO (I:U W w (b9 W B p s::L))(hw:cx p s)(a7:dq p)(aE:p.title.size≤1000000000):Calls prog 71 #[pt B.pb,.int .u8 (x.toNat:Nat)] w λr V=>r=.returned (.int .i64 (dK p x s).1)∧U W V (b9 W B p (dK p x s).2::L):=by
 have h1:=vf x s.k;have lI:=hw.toWP.more (hw.wc.al x) (hw.held.al x) h1.1 h1.2;replace I:=b9.open I;refine EN func71 ntmps71 rfl rfl λa E=>?_;refine CL 8 E I (abr (x:=x) (I.pick (a2 B.core s.k)) hw.wc) λa w E I=>?_;refine RN 1 E I λa E=>?_;replace I:=b9.fold I B p ⟨(cZ x s.k).2,s.g⟩;refine CL 2 E I (Hk I lI a7 aE) λa w E I=>?_;refine RT 3 E I ?_;exact⟨rfl,I⟩
theorem abP (I:U W w (b9 W B p s::L))(hw:cx p s)(a7:dq p)(aE:p.title.size≤1000000000)(hb:bs.length≤65536)(hc:bs.length≤c)(hp:∀ V,U W V L→aL V ad bs.length bs) :
   Calls prog 110 #[pt B.pb,.slice ad bs.length c] w λr V=>r=.returned (.int .i64 (dL p bs s).1)∧U W V (b9 W B p (dL p bs s).2::L):=by
 have h1:=sj bs s.k;have lI:=hw.toWP.more (hw.wc.recv bs).1 ((hw.wc.recv bs).2 hw.held) h1.1 h1.2;replace I:=b9.open I;refine EN func110 ntmps110 rfl rfl λa E=>?_;refine CL 8 E I (abJ (bs:=bs) (ad:=ad) (c:=c) (I.pick (a2 B.core s.k)) hw.wc hw.held hb hc (λV dg=>hp V dg.tail.tail)) λa w E I=>?_;refine RN 1 E I λa E=>?_;replace I:=b9.fold I B p ⟨(dC bs s.k).2,s.g⟩;refine CL 2 E I (Hk I lI a7 aE) λa w E I=>?_;refine RT 3 E I ?_;exact⟨rfl,I⟩
theorem N4 (I:U W w (b9 W B p s::L))(hw:cx p s):Calls prog 77 #[pt B.pb] w λr V=>∃ ad c,r=.returned (.tuple #[.slice ad 128 c,.int .i64 (lR s).2])∧U W V (Sl 5 1 ad 128 c (bc (lR s).1)::b9 W B p s::L):=by
 replace I:=b9.open I;refine EN func77 ntmps77 rfl rfl λa E=>?_;refine a1 4 (λw0 V=>Rd V B.pb 0 (e4 p B s.g)) [4,8] [0,1,2,5,6,7,3003,3008,1004,1009,10,11] E I λa w E I hH=>?_;have hC:=hH.at w (I.ai (b:=B.pb));refine RH 6 E I hH hC λa E=>?_;refine QH E (λw hc=>bQ E underlying49 rfl Ty.t49 (CA hc)) hC λa E=>?_;refine QH E (λw hc=>ae E (hc 0 _ rfl)) hC λa E=>?_;refine RH 0 E I hH hC λa E=>?_;refine aX 0 E I (u7 I) λad c a w E I=>?_;replace hC:=hH.at w (I.ai (b:=B.pb));refine RH 0 E I hH hC λa E=>?_;refine CL 0 E I (Ha (I.pick (a2 B.core s.k)) hw.wc) λa w E I=>?_;refine RN 2 E I λa E=>?_;refine RT 0 E I ?_;exact⟨ad,c,rfl,(b9.fold I B p s).sub (M:=Sl 5 1 ad 128 c (bc (gw s.g))::b9 W B p s::L)⟩
theorem Hl (I:U W w (bP C.lb C.lo C.cL k.ls::aa C.cb 72 (cU k C A)::L))(hk:WC k):Calls prog 20 #[pt C.cb] w λr V=>r=.returned (.int .i64 (aH k))∧U W V (bP C.lb C.lo C.cL k.ls::aa C.cb 72 (cU k C A)::L):=by
 have eo:k.me<k.ls.length:=by rw[hk.ls];exact hk.me
 refine EN func20 ntmps20 rfl rfl λa E=>?_;refine bW 3 [8] [0,1,2,4,5,6,7,3003,1008,9,10,1011,12,13] E I λa w E I hH hC=>?_;obtain⟨xs,bd,I⟩:=bP.open I;have b0:xs.length=k.ls.length:=by rw[← bd,gn]
 obtain⟨lz,ol,y,zE,hy,o8,lU⟩:=(U.o9 I).at (i:=k.me) (by omega);cases zE;have iS:aH k=y.2.2.length:=by
  show (k.ls.getD k.me []).length=_;rw[← bd,tS hy]
 replace hH:=Hd.fK I;refine RH 11 E I hH hC λa E=>?_;refine SS E (ae E (o8)) λa E=>?_;rw[aM]at E;refine RH 2 E I hH hC λa E=>?_;refine RT 0 E I ?_;exact⟨by rw[iS],bP.close I bd⟩
theorem abQ (I:U W w (b9 W B p s::L))(hw:cx p s)(a7:dq p)(aE:p.title.size≤1000000000)(fI:cY B.gs)(hT:aL W B.adT B.gs.table.length B.gs.table):Calls prog 78 #[pt B.pb] w λr V=>∃ ad c,r=.returned (.tuple #[.slice ad 128 c,.int .i64 (fH p B.gs s).2])∧U W V (Sl 5 1 ad 128 c (bc (fH p B.gs s).1)::b9 W B p s::L):=by
 have iQ:s.k.ls.length≤8:=by rw[hw.wc.ls];exact hw.wc.n.2
 have xD:0<s.k.ls.length:=by rw[hw.wc.ls];have:=hw.wc.n;omega
 have gS:=hw.wc.lO;have fA:aw s.k≤aH s.k:=hw.wc.ny;replace I:=b9.open I;refine EN func78 ntmps78 rfl rfl λa E=>?_;refine a1 5 (λw0 V=>Rd V B.pb 0 (e4 p B s.g)) [4,8] [0,1,2,5,6,7,3003,3008,1004,1009,10] E I λa w E I hH=>?_;have hC:=hH.at w (I.ai (b:=B.pb));refine RH 6 E I hH hC λa E=>?_;refine QH E (λw hc=>ae E (hc 0 _ rfl)) hC λa E=>?_;refine QH E (λw hc=>ae E (hc 0 _ rfl)) hC λa E=>?_;refine RH 0 E I hH hC λa E=>?_;refine CL 0 E I (sy (I.pick (a2 B.core s.k)) hw.wc) λa w E I=>?_;replace hC:=hH.at w (I.ai (b:=B.pb));refine RH 0 E I hH hC λa E=>?_;refine CL 0 E I (Ha I hw.wc) λa w E I=>?_;refine RN 1 E I λa E=>?_;refine IF 0 E I (λaj a E=>?_) λaj a E=>?_
 ·
  replace I:=b9.fold I B p s;refine aX 2 E I (N4 I hw) λad c a w E I=>?_;refine RT 4 E I ?_;refine⟨ad,c,?_,?_⟩
  ·rw[fH,ak (by omega)]
  ·rw[fH,ak (by omega)];exact I
 refine RN 1 E I λa E=>?_;obtain⟨A,I⟩:=a2.open (I.pick (a2 B.core s.k));refine a1 0 (λw0 V=>Rd V B.pb 0 (e4 p B s.g)∧Rd V B.core.cb 0 (cU s.k B.core A)) [7,11,12,16,17,18,19,23,27,28,29,31] [0,1,2,4,5,6,8,9,10,13,14,15,20,21,22,24,25,26,3003,3007,3011,3016,3017,3018,3019,3023,3027,2012,2028,2029,2030,1031,1032] E I λa w E I hH=>?_;have hC:=hH.at w ⟨I.ai (b:=B.pb),I.ai (b:=B.core.cb)⟩;refine RH 18 E I hH hC λa E=>?_;refine QH E (λw hc=>bQ E underlying45 rfl Ty.t45 (N2 hc.1)) hC λa E=>?_;refine QH E (λw hc=>bQ E underlying49 rfl Ty.t49 (CA hc.1)) hC λa E=>?_;refine QH E (λw hc=>ae E (hc.1 0 _ rfl)) hC λa E=>?_;refine QH E (λw hc=>ae E (hc.1 0 _ rfl)) hC λa E=>?_;refine RH 2 E I hH hC λa E=>?_;refine QH E (λw hc=>ae E (hc.2 10 _ rfl)) hC λa E=>?_;refine QH E (λw hc=>bQ E underlying47 rfl Ty.t47 (abM hc.1)) hC λa E=>?_;refine QH E (λw hc=>ae E (hc.1 0 _ rfl)) hC λa E=>?_;refine RH 0 E I hH hC λa E=>?_;refine DN [(12,[2028,2029,2030,1031,1032]),(31,[1012,1028,1029,1030,1032])] (by kernel_rfl) rfl ⟨⟨_,rfl,?_⟩,⟨_,rfl,?_⟩,trivial⟩
 ·
  refine RH 0 E I hH hC λa E=>?_;refine CL 0 E I (Hj ((I.pick (aa B.core.cb 72 (cU s.k B.core A))).pick (bP B.core.lb B.core.lo B.core.cL s.k.ls)) hw.wc) λa w E I=>?_;replace hC:=hH.at w ⟨I.ai (b:=B.pb),I.ai (b:=B.core.cb)⟩;refine RH 0 E I hH hC λa E=>?_;refine DN [(28,[2029,2030,1031,1032]),(31,[1028,1029,1030,1032])] (by kernel_rfl) rfl ⟨⟨_,rfl,?_⟩,⟨_,rfl,?_⟩,trivial⟩
  ·
   refine RH 0 E I hH hC λa E=>?_;refine CL 0 E I (Hl ((I.pick (aa B.core.cb 72 (cU s.k B.core A))).pick (bP B.core.lb B.core.lo B.core.cL s.k.ls)) hw.wc) λa w E I=>?_;replace hC:=hH.at w ⟨I.ai (b:=B.pb),I.ai (b:=B.core.cb)⟩;refine RH 0 E I hH hC λa E=>?_;refine DN [(29,[2030,1031,1032]),(31,[1029,1030,1032])] (by kernel_rfl) rfl ⟨⟨_,rfl,?_⟩,⟨_,rfl,?_⟩,trivial⟩
   ·
    obtain⟨xs,bd,I⟩:=bP.open (I.pick (bP B.core.lb B.core.lo B.core.cL s.k.ls));have b0:xs.length=s.k.ls.length:=by rw[← bd,gn]
    rw[← b0]at E;refine RH 0 E I hH hC λa E=>?_;refine j1 0 E I (Cn (xs:=xs) (b:=B.gs) (r:=0) (to:=aH s.k) (by decide) I fI (by omega) (by omega) (by rw[bd];exact hw.wc.nx) gS (λV dg=>U.o9 dg) (λV dg=>hT.fK dg)) λgd gm X a w E ⟨⟨tM,iu⟩,I⟩=>?_;replace hC:=hH.at w ⟨I.ai (b:=B.pb),I.ai (b:=B.core.cb)⟩;have mU:=iu rfl;subst mU;rw[xt,bd]at I;rw[bd]at E;have jA:(dx B.gs s.k.ls (aH s.k)).length=aH s.k-aV s.k.ls:=xe _ _ _;have mX:∀ b∈dx B.gs s.k.ls (aH s.k),b.length≤1099511627776:=λb hb=>by
     rw[dx,cV]at hb;obtain⟨i,_,rfl⟩:=hb;rw[nu,ji,bf];omega
    obtain⟨ys,ib,kE,I⟩:=cd.open I;refine RH 0 E I hH hC λa E=>?_;refine DN [(30,[1031,1032]),(31,[1030,1032])] (by kernel_rfl) rfl ⟨⟨_,rfl,?_⟩,⟨_,rfl,?_⟩,trivial⟩
    ·
     refine RH 0 E I hH hC λa E=>?_;refine CL 0 E I (zI (P:=dx B.gs s.k.ls (aH s.k)) (zs:=ys) (fr:=aw s.k) (I.pick (az W p B.an B.cO)) jA a7 aE (hw.p5 a7) ⟨by omega,mX⟩ ib (by omega) (λV dg=>U.mB (dg.sub (M:=Sl 22 1 gd (aH s.k-aV s.k.ls) gm (ys.map aM)::ah ba ys::[])))) λa w E ⟨pX,I⟩=>?_;refine RN 0 E I λa E=>?_;refine e5 E rfl I Ty.t49 rfl λb4 a w E I ho=>?_;clear ho;replace hC:=hH.at w ⟨I.ai (b:=B.pb),I.ai (b:=B.core.cb)⟩;refine RH 0 E I hH hC λa E=>?_;refine SA 0 E I λa w E I=>?_;refine RN 0 E I λa E=>?_;replace I:=bP.close (I.sub (M:=Sl 65 1 (some ⟨B.core.lb,B.core.lo,none⟩) s.k.ls.length B.core.cL (xs.map aM)::ah ba xs::aa b4 49 (ints .i32 32 (foldI p (aw s.k) s.g (dx B.gs s.k.ls (aH s.k))))::aa B.pb 51 (e4 p B s.g)::az W p B.an B.cO::aa B.core.cb 72 (cU s.k B.core A)::aa B.core.hb 3 (fe s.k.ps)::aa B.core.ec 3 (e0 s.k.ps)::aa B.core.wb 313 (rows fg s.k.ps)::aa B.core.xb 4 (ff s.k.ps)::Sl 100 1 A.ch s.k.mr.length A.cM (c0 s.k.mr)::Sl 102 3 A.adE s.k.ev.length A.cE (rows bZ s.k.ev)::L)) bd;replace I:=a2.fold I B.core s.k A;refine a1 1 (λw0 V=>Rd V b4 0 (ints .i32 32 (foldI p (aw s.k) s.g (dx B.gs s.k.ls (aH s.k))))∧Rd V B.pb 0 (e4 p B s.g)) [1,5] [2,3,4,3000,3005,1001,1006,7,8] E I λa w E I hH=>?_;have hC:=hH.at w ⟨I.ai (b:=b4),I.ai (b:=B.pb)⟩;refine RH 3 E I hH hC λa E=>?_;refine QH E (λw hc=>bQ E underlying49 rfl Ty.t49 (hc.1)) hC λa E=>?_;refine QH E (λw hc=>ae E (hc.2 0 _ rfl)) hC λa E=>?_;refine RH 0 E I hH hC λa E=>?_;refine aX 0 E I (u7 I) λad2 c2 a w E I=>?_;replace hC:=hH.at w ⟨I.ai (b:=b4),I.ai (b:=B.pb)⟩;refine RH 0 E I hH hC λa E=>?_;refine CL 0 E I (sy (I.pick (a2 B.core s.k)) hw.wc) λa w E I=>?_;refine RN 2 E I λa E=>?_;refine RT 0 E I ?_;refine⟨ad2,c2,?_,?_⟩
     ·rw[fH,ag (by omega)]
     ·rw[fH,ag (by omega)];exact (b9.fold I B p s).sub (M:=Sl 5 1 ad2 128 c2 (bc (gw (foldI p (aw s.k) s.g (dx B.gs s.k.ls (aH s.k)))))::b9 W B p s::L)
    refine RH 0 E I hH hC λa E=>?_;refine e5 E rfl I Ty.t49 rfl λb4 a w E I ho=>?_;clear ho;replace hC:=hH.at w ⟨I.ai (b:=B.pb),I.ai (b:=B.core.cb)⟩;refine RH 0 E I hH hC λa E=>?_;refine CL 0 E I (zI (P:=dx B.gs s.k.ls (aH s.k)) (zs:=ys) (fr:=aw s.k) (I.pick (az W p B.an B.cO)) jA a7 aE (hw.p5 a7) ⟨by omega,mX⟩ ib (by omega) (λV dg=>U.mB (dg.sub (M:=Sl 22 1 gd (aH s.k-aV s.k.ls) gm (ys.map aM)::ah ba ys::[])))) λa w E ⟨pX,I⟩=>?_;refine SA 0 E I λa w E I=>?_;refine RN 0 E I λa E=>?_;replace I:=bP.close (I.sub (M:=Sl 65 1 (some ⟨B.core.lb,B.core.lo,none⟩) s.k.ls.length B.core.cL (xs.map aM)::ah ba xs::aa b4 49 (ints .i32 32 (foldI p (aw s.k) s.g (dx B.gs s.k.ls (aH s.k))))::aa B.pb 51 (e4 p B s.g)::az W p B.an B.cO::aa B.core.cb 72 (cU s.k B.core A)::aa B.core.hb 3 (fe s.k.ps)::aa B.core.ec 3 (e0 s.k.ps)::aa B.core.wb 313 (rows fg s.k.ps)::aa B.core.xb 4 (ff s.k.ps)::Sl 100 1 A.ch s.k.mr.length A.cM (c0 s.k.mr)::Sl 102 3 A.adE s.k.ev.length A.cE (rows bZ s.k.ev)::L)) bd;replace I:=a2.fold I B.core s.k A;refine a1 1 (λw0 V=>Rd V b4 0 (ints .i32 32 (foldI p (aw s.k) s.g (dx B.gs s.k.ls (aH s.k))))∧Rd V B.pb 0 (e4 p B s.g)) [1,5] [2,3,4,3000,3005,1001,1006,7,8] E I λa w E I hH=>?_;have hC:=hH.at w ⟨I.ai (b:=b4),I.ai (b:=B.pb)⟩;refine RH 3 E I hH hC λa E=>?_;refine QH E (λw hc=>bQ E underlying49 rfl Ty.t49 (hc.1)) hC λa E=>?_;refine QH E (λw hc=>ae E (hc.2 0 _ rfl)) hC λa E=>?_;refine RH 0 E I hH hC λa E=>?_;refine aX 0 E I (u7 I) λad2 c2 a w E I=>?_;replace hC:=hH.at w ⟨I.ai (b:=b4),I.ai (b:=B.pb)⟩;refine RH 0 E I hH hC λa E=>?_;refine CL 0 E I (sy (I.pick (a2 B.core s.k)) hw.wc) λa w E I=>?_;refine RN 2 E I λa E=>?_;refine RT 0 E I ?_;refine⟨ad2,c2,?_,?_⟩
    ·rw[fH,ag (by omega)]
    ·rw[fH,ag (by omega)];exact (b9.fold I B p s).sub (M:=Sl 5 1 ad2 128 c2 (bc (gw (foldI p (aw s.k) s.g (dx B.gs s.k.ls (aH s.k)))))::b9 W B p s::L)
   refine RH 0 E I hH hC λa E=>?_;refine e5 E rfl I Ty.t49 rfl λb4 a w E I ho=>?_;clear ho;replace hC:=hH.at w ⟨I.ai (b:=B.pb),I.ai (b:=B.core.cb)⟩;obtain⟨xs,bd,I⟩:=bP.open (I.pick (bP B.core.lb B.core.lo B.core.cL s.k.ls));have b0:xs.length=s.k.ls.length:=by rw[← bd,gn]
   rw[← b0]at E;refine RH 0 E I hH hC λa E=>?_;refine j1 0 E I (Cn (xs:=xs) (b:=B.gs) (r:=0) (to:=aH s.k) (by decide) I fI (by omega) (by omega) (by rw[bd];exact hw.wc.nx) gS (λV dg=>U.o9 dg) (λV dg=>hT.fK dg)) λgd gm X a w E ⟨⟨tM,iu⟩,I⟩=>?_;replace hC:=hH.at w ⟨I.ai (b:=B.pb),I.ai (b:=B.core.cb)⟩;have mU:=iu rfl;subst mU;rw[xt,bd]at I;rw[bd]at E;have jA:(dx B.gs s.k.ls (aH s.k)).length=aH s.k-aV s.k.ls:=xe _ _ _;have mX:∀ b∈dx B.gs s.k.ls (aH s.k),b.length≤1099511627776:=λb hb=>by
    rw[dx,cV]at hb;obtain⟨i,_,rfl⟩:=hb;rw[nu,ji,bf];omega
   obtain⟨ys,ib,kE,I⟩:=cd.open I;refine RH 0 E I hH hC λa E=>?_;refine CL 0 E I (zI (P:=dx B.gs s.k.ls (aH s.k)) (zs:=ys) (fr:=aw s.k) (I.pick (az W p B.an B.cO)) jA a7 aE (hw.p5 a7) ⟨by omega,mX⟩ ib (by omega) (λV dg=>U.mB (dg.sub (M:=Sl 22 1 gd (aH s.k-aV s.k.ls) gm (ys.map aM)::ah ba ys::[])))) λa w E ⟨pX,I⟩=>?_;refine SA 0 E I λa w E I=>?_;refine RN 0 E I λa E=>?_;replace I:=bP.close (I.sub (M:=Sl 65 1 (some ⟨B.core.lb,B.core.lo,none⟩) s.k.ls.length B.core.cL (xs.map aM)::ah ba xs::aa b4 49 (ints .i32 32 (foldI p (aw s.k) s.g (dx B.gs s.k.ls (aH s.k))))::aa B.pb 51 (e4 p B s.g)::az W p B.an B.cO::aa B.core.cb 72 (cU s.k B.core A)::aa B.core.hb 3 (fe s.k.ps)::aa B.core.ec 3 (e0 s.k.ps)::aa B.core.wb 313 (rows fg s.k.ps)::aa B.core.xb 4 (ff s.k.ps)::Sl 100 1 A.ch s.k.mr.length A.cM (c0 s.k.mr)::Sl 102 3 A.adE s.k.ev.length A.cE (rows bZ s.k.ev)::L)) bd;replace I:=a2.fold I B.core s.k A;refine a1 1 (λw0 V=>Rd V b4 0 (ints .i32 32 (foldI p (aw s.k) s.g (dx B.gs s.k.ls (aH s.k))))∧Rd V B.pb 0 (e4 p B s.g)) [1,5] [2,3,4,3000,3005,1001,1006,7,8] E I λa w E I hH=>?_;have hC:=hH.at w ⟨I.ai (b:=b4),I.ai (b:=B.pb)⟩;refine RH 3 E I hH hC λa E=>?_;refine QH E (λw hc=>bQ E underlying49 rfl Ty.t49 (hc.1)) hC λa E=>?_;refine QH E (λw hc=>ae E (hc.2 0 _ rfl)) hC λa E=>?_;refine RH 0 E I hH hC λa E=>?_;refine aX 0 E I (u7 I) λad2 c2 a w E I=>?_;replace hC:=hH.at w ⟨I.ai (b:=b4),I.ai (b:=B.pb)⟩;refine RH 0 E I hH hC λa E=>?_;refine CL 0 E I (sy (I.pick (a2 B.core s.k)) hw.wc) λa w E I=>?_;refine RN 2 E I λa E=>?_;refine RT 0 E I ?_;refine⟨ad2,c2,?_,?_⟩
   ·rw[fH,ag (by omega)]
   ·rw[fH,ag (by omega)];exact (b9.fold I B p s).sub (M:=Sl 5 1 ad2 128 c2 (bc (gw (foldI p (aw s.k) s.g (dx B.gs s.k.ls (aH s.k)))))::b9 W B p s::L)
  refine RH 0 E I hH hC λa E=>?_;refine e5 E rfl I Ty.t49 rfl λb4 a w E I ho=>?_;clear ho;replace hC:=hH.at w ⟨I.ai (b:=B.pb),I.ai (b:=B.core.cb)⟩;refine RH 0 E I hH hC λa E=>?_;refine CL 0 E I (Hl ((I.pick (aa B.core.cb 72 (cU s.k B.core A))).pick (bP B.core.lb B.core.lo B.core.cL s.k.ls)) hw.wc) λa w E I=>?_;replace hC:=hH.at w ⟨I.ai (b:=B.pb),I.ai (b:=B.core.cb)⟩;obtain⟨xs,bd,I⟩:=bP.open (I.pick (bP B.core.lb B.core.lo B.core.cL s.k.ls));have b0:xs.length=s.k.ls.length:=by rw[← bd,gn]
  rw[← b0]at E;refine RH 0 E I hH hC λa E=>?_;refine j1 0 E I (Cn (xs:=xs) (b:=B.gs) (r:=0) (to:=aH s.k) (by decide) I fI (by omega) (by omega) (by rw[bd];exact hw.wc.nx) gS (λV dg=>U.o9 dg) (λV dg=>hT.fK dg)) λgd gm X a w E ⟨⟨tM,iu⟩,I⟩=>?_;replace hC:=hH.at w ⟨I.ai (b:=B.pb),I.ai (b:=B.core.cb)⟩;have mU:=iu rfl;subst mU;rw[xt,bd]at I;rw[bd]at E;have jA:(dx B.gs s.k.ls (aH s.k)).length=aH s.k-aV s.k.ls:=xe _ _ _;have mX:∀ b∈dx B.gs s.k.ls (aH s.k),b.length≤1099511627776:=λb hb=>by
   rw[dx,cV]at hb;obtain⟨i,_,rfl⟩:=hb;rw[nu,ji,bf];omega
  obtain⟨ys,ib,kE,I⟩:=cd.open I;refine RH 0 E I hH hC λa E=>?_;refine CL 0 E I (zI (P:=dx B.gs s.k.ls (aH s.k)) (zs:=ys) (fr:=aw s.k) (I.pick (az W p B.an B.cO)) jA a7 aE (hw.p5 a7) ⟨by omega,mX⟩ ib (by omega) (λV dg=>U.mB (dg.sub (M:=Sl 22 1 gd (aH s.k-aV s.k.ls) gm (ys.map aM)::ah ba ys::[])))) λa w E ⟨pX,I⟩=>?_;refine SA 0 E I λa w E I=>?_;refine RN 0 E I λa E=>?_;replace I:=bP.close (I.sub (M:=Sl 65 1 (some ⟨B.core.lb,B.core.lo,none⟩) s.k.ls.length B.core.cL (xs.map aM)::ah ba xs::aa b4 49 (ints .i32 32 (foldI p (aw s.k) s.g (dx B.gs s.k.ls (aH s.k))))::aa B.pb 51 (e4 p B s.g)::az W p B.an B.cO::aa B.core.cb 72 (cU s.k B.core A)::aa B.core.hb 3 (fe s.k.ps)::aa B.core.ec 3 (e0 s.k.ps)::aa B.core.wb 313 (rows fg s.k.ps)::aa B.core.xb 4 (ff s.k.ps)::Sl 100 1 A.ch s.k.mr.length A.cM (c0 s.k.mr)::Sl 102 3 A.adE s.k.ev.length A.cE (rows bZ s.k.ev)::L)) bd;replace I:=a2.fold I B.core s.k A;refine a1 1 (λw0 V=>Rd V b4 0 (ints .i32 32 (foldI p (aw s.k) s.g (dx B.gs s.k.ls (aH s.k))))∧Rd V B.pb 0 (e4 p B s.g)) [1,5] [2,3,4,3000,3005,1001,1006,7,8] E I λa w E I hH=>?_;have hC:=hH.at w ⟨I.ai (b:=b4),I.ai (b:=B.pb)⟩;refine RH 3 E I hH hC λa E=>?_;refine QH E (λw hc=>bQ E underlying49 rfl Ty.t49 (hc.1)) hC λa E=>?_;refine QH E (λw hc=>ae E (hc.2 0 _ rfl)) hC λa E=>?_;refine RH 0 E I hH hC λa E=>?_;refine aX 0 E I (u7 I) λad2 c2 a w E I=>?_;replace hC:=hH.at w ⟨I.ai (b:=b4),I.ai (b:=B.pb)⟩;refine RH 0 E I hH hC λa E=>?_;refine CL 0 E I (sy (I.pick (a2 B.core s.k)) hw.wc) λa w E I=>?_;refine RN 2 E I λa E=>?_;refine RT 0 E I ?_;refine⟨ad2,c2,?_,?_⟩
  ·rw[fH,ag (by omega)]
  ·rw[fH,ag (by omega)];exact (b9.fold I B p s).sub (M:=Sl 5 1 ad2 128 c2 (bc (gw (foldI p (aw s.k) s.g (dx B.gs s.k.ls (aH s.k)))))::b9 W B p s::L)
 refine RH 0 E I hH hC λa E=>?_;refine e5 E rfl I Ty.t49 rfl λb4 a w E I ho=>?_;clear ho;replace hC:=hH.at w ⟨I.ai (b:=B.pb),I.ai (b:=B.core.cb)⟩;refine RH 0 E I hH hC λa E=>?_;refine CL 0 E I (Hj ((I.pick (aa B.core.cb 72 (cU s.k B.core A))).pick (bP B.core.lb B.core.lo B.core.cL s.k.ls)) hw.wc) λa w E I=>?_;replace hC:=hH.at w ⟨I.ai (b:=B.pb),I.ai (b:=B.core.cb)⟩;refine RH 0 E I hH hC λa E=>?_;refine CL 0 E I (Hl ((I.pick (aa B.core.cb 72 (cU s.k B.core A))).pick (bP B.core.lb B.core.lo B.core.cL s.k.ls)) hw.wc) λa w E I=>?_;replace hC:=hH.at w ⟨I.ai (b:=B.pb),I.ai (b:=B.core.cb)⟩;obtain⟨xs,bd,I⟩:=bP.open (I.pick (bP B.core.lb B.core.lo B.core.cL s.k.ls));have b0:xs.length=s.k.ls.length:=by rw[← bd,gn]
 rw[← b0]at E;refine RH 0 E I hH hC λa E=>?_;refine j1 0 E I (Cn (xs:=xs) (b:=B.gs) (r:=0) (to:=aH s.k) (by decide) I fI (by omega) (by omega) (by rw[bd];exact hw.wc.nx) gS (λV dg=>U.o9 dg) (λV dg=>hT.fK dg)) λgd gm X a w E ⟨⟨tM,iu⟩,I⟩=>?_;replace hC:=hH.at w ⟨I.ai (b:=B.pb),I.ai (b:=B.core.cb)⟩;have mU:=iu rfl;subst mU;rw[xt,bd]at I;rw[bd]at E;have jA:(dx B.gs s.k.ls (aH s.k)).length=aH s.k-aV s.k.ls:=xe _ _ _;have mX:∀ b∈dx B.gs s.k.ls (aH s.k),b.length≤1099511627776:=λb hb=>by
  rw[dx,cV]at hb;obtain⟨i,_,rfl⟩:=hb;rw[nu,ji,bf];omega
 obtain⟨ys,ib,kE,I⟩:=cd.open I;refine RH 0 E I hH hC λa E=>?_;refine CL 0 E I (zI (P:=dx B.gs s.k.ls (aH s.k)) (zs:=ys) (fr:=aw s.k) (I.pick (az W p B.an B.cO)) jA a7 aE (hw.p5 a7) ⟨by omega,mX⟩ ib (by omega) (λV dg=>U.mB (dg.sub (M:=Sl 22 1 gd (aH s.k-aV s.k.ls) gm (ys.map aM)::ah ba ys::[])))) λa w E ⟨pX,I⟩=>?_;refine SA 0 E I λa w E I=>?_;refine RN 0 E I λa E=>?_;replace I:=bP.close (I.sub (M:=Sl 65 1 (some ⟨B.core.lb,B.core.lo,none⟩) s.k.ls.length B.core.cL (xs.map aM)::ah ba xs::aa b4 49 (ints .i32 32 (foldI p (aw s.k) s.g (dx B.gs s.k.ls (aH s.k))))::aa B.pb 51 (e4 p B s.g)::az W p B.an B.cO::aa B.core.cb 72 (cU s.k B.core A)::aa B.core.hb 3 (fe s.k.ps)::aa B.core.ec 3 (e0 s.k.ps)::aa B.core.wb 313 (rows fg s.k.ps)::aa B.core.xb 4 (ff s.k.ps)::Sl 100 1 A.ch s.k.mr.length A.cM (c0 s.k.mr)::Sl 102 3 A.adE s.k.ev.length A.cE (rows bZ s.k.ev)::L)) bd;replace I:=a2.fold I B.core s.k A;refine a1 1 (λw0 V=>Rd V b4 0 (ints .i32 32 (foldI p (aw s.k) s.g (dx B.gs s.k.ls (aH s.k))))∧Rd V B.pb 0 (e4 p B s.g)) [1,5] [2,3,4,3000,3005,1001,1006,7,8] E I λa w E I hH=>?_;have hC:=hH.at w ⟨I.ai (b:=b4),I.ai (b:=B.pb)⟩;refine RH 3 E I hH hC λa E=>?_;refine QH E (λw hc=>bQ E underlying49 rfl Ty.t49 (hc.1)) hC λa E=>?_;refine QH E (λw hc=>ae E (hc.2 0 _ rfl)) hC λa E=>?_;refine RH 0 E I hH hC λa E=>?_;refine aX 0 E I (u7 I) λad2 c2 a w E I=>?_;replace hC:=hH.at w ⟨I.ai (b:=b4),I.ai (b:=B.pb)⟩;refine RH 0 E I hH hC λa E=>?_;refine CL 0 E I (sy (I.pick (a2 B.core s.k)) hw.wc) λa w E I=>?_;refine RN 2 E I λa E=>?_;refine RT 0 E I ?_;refine⟨ad2,c2,?_,?_⟩
 ·rw[fH,ag (by omega)]
 ·rw[fH,ag (by omega)];exact (b9.fold I B p s).sub (M:=Sl 5 1 ad2 128 c2 (bc (gw (foldI p (aw s.k) s.g (dx B.gs s.k.ls (aH s.k)))))::b9 W B p s::L)
theorem abR {n me aJ bo:Nat}{id a8 order cw workers room:Int}(I:U W w (az W p adP cP::L))(hm:ft ⟨n,me,id,aJ,bo,a8,order,cw,workers,room⟩)(a7:dq p)(aE:p.title.size≤1000000000) :
   Calls prog 46 #[.agg (bV ⟨n,me,id,aJ,bo,a8,order,cw,workers,room⟩).toArray,.agg (bx p adP cP).toArray,.slice adT tb.length cT] w λr V=>∃ B:gf,r=.returned (pt B.pb)∧(B.gs=⟨a8,order,tb⟩∧B.adT=adT)∧U W V (b9 W B p (eM p ⟨n,me,id,aJ,bo,a8,order,cw,workers,room⟩)::L):=by
 refine EN func46 ntmps46 rfl rfl λa E=>?_;refine BX 1 E I λb3 a w E I=>?_;change U W w (aa b3 28 (bV ⟨n,me,id,aJ,bo,a8,order,cw,workers,room⟩)::_) at I;refine BX 0 E I λb4 a w E I=>?_;change U W w (aa b4 45 [.string p.title,.slice adP p.ops.length cP]::_) at I;refine a1 2 (λw0 V=>Rd V b3 0 (bV ⟨n,me,id,aJ,bo,a8,order,cw,workers,room⟩)∧Rd V b4 0 [.string p.title,.slice adP p.ops.length cP]) [1,2,4,6,8] [3,5,7,3000,3002,3004,3006,3008,1001,9,1010,11] E I λa w E I hH=>?_;have hC:=hH.at w ⟨I.ai (b:=b3),I.ai (b:=b4)⟩;refine RH 3 E I hH hC λa E=>?_;refine QH E (λw hc=>bQ E underlying28 rfl Ty.t28 (hc.1)) hC λa E=>?_;refine QH E (λw hc=>bQ E underlying45 rfl Ty.t45 (hc.2)) hC λa E=>?_;refine QH E (λw hc=>ae E (hc.1 5 _ rfl)) hC λa E=>?_;refine QH E (λw hc=>ae E (hc.1 6 _ rfl)) hC λa E=>?_;refine RH 1 E I hH hC λa E=>?_;refine aW 0 E I (abz I hm) λBc a w E I=>?_;replace hC:=hH.at w ⟨I.ai (b:=b3),I.ai (b:=b4)⟩;refine RH 1 E I hH hC λa E=>?_;refine x4 E rfl I rfl λtp a w E I ho=>?_;clear ho;change U W w (aa tp 51 (e4 p ⟨tp,Bc,adP,cP,adT,cT,⟨a8,order,tb⟩⟩ o0)::_) at I;refine RN 1 E I λa E=>?_;replace I:=b9.fold I ⟨tp,Bc,adP,cP,adT,cT,⟨a8,order,tb⟩⟩ p ⟨fv ⟨n,me,id,aJ,bo,a8,order,cw,workers,room⟩,o0⟩;refine CL 2 E I (Hk I (xk hm) a7 aE) λa w E I=>?_;refine RT 3 E I ?_;have h9:U W w (b9 W ⟨tp,Bc,adP,cP,adT,cT,⟨a8,order,tb⟩⟩ p (eM p ⟨n,me,id,aJ,bo,a8,order,cw,workers,room⟩)::_):=I;exact⟨⟨tp,Bc,adP,cP,adT,cT,⟨a8,order,tb⟩⟩,rfl,⟨rfl,rfl⟩,h9.sub⟩
end
end
section
section
variable {W w:World}{L:List SP}{e:kj}
theorem abS (I:U W w L):Calls prog 79 #[.agg (bZ e).toArray,.agg (bZ e).toArray] w λr V=>r=.returned (.bool true)∧U W V L:=by
 refine EN func79 ntmps79 rfl rfl λa E=>?_;refine BX 1 E I λb2 a w E I=>?_;change U W w (aa b2 102 [.int .i64 e.1,.int .i64 e.2.1,.int .i64 e.2.2]::_) at I;refine BX 0 E I λb3 a w E I=>?_;change U W w (aa b3 102 [.int .i64 e.1,.int .i64 e.2.1,.int .i64 e.2.2]::_) at I;refine RN 8 E I λa E=>?_;rw[dp (by omega)]at E;refine RN 7 E I λa E=>?_;rw[dp (by omega)]at E;refine RT 7 E I ?_;exact⟨by simp,I.sub⟩
end
end
section
theorem N5 {k:Ks}(h:WC k):(bq k).1.length≤1000:=by
 have hn:=h.n;have hl:∀ k:Ks,(bI k).length≤k.n:=λk=>by
  rw[bI];exact gC (qE _ _) (by rw[length_range];exact bh _)
 unfold bq;split
 ·simp
 ·simp only;split
  ·simp
  ·rw[bf];have:=hl { k with now:=k.now+1 };have h2:({ k with now:=k.now+1 }:Ks).n=k.n:=rfl;omega
theorem N6 {k:Ks}(h:WC k):(bF k).1.length≤1000:=by
 have hn:=h.n;unfold bF;split
 ·simp
 ·rw[bf,bI];have h2:=qE (λi=>decide (i≠k.me)) (List.range k.n);rw[length_range]at h2;show ((List.range k.n).filter (·≠k.me)).length≤1000;omega
theorem abT (p:Pr)(x:UInt8){s:Pl}(h:cx p s):(dK p x s).2.k.now=s.k.now:=by
 have he:=vf x s.k;have h1:=(Me (h.toWP.more (h.wc.al x) (h.held.al x) he.1 he.2)).2.2.2.2.2.1;rw[dK,h1];show (cZ x s.k).2.now=_;by_cases h0:(cZ x s.k).1=0
 ·obtain⟨_,_,_,h4⟩:=vc h0;rw[h4]
 ·rw[vd h0]
theorem abU (k:Ks)(q:Pk):(gb k q).now=k.now:=by
 unfold gb;split
 ·rfl
 ·obtain⟨ps,ev,h9,_⟩:=xg { k with ls:=k.ls.set q.aY.toNat (dw (k.ls.getD q.aY.toNat []) q.first.toNat q.al),ps:=k.ps.set q.aY.toNat (ga k.now (aH k) q (ar k q.aY.toNat)) };rw[h9]
theorem abV (p:Pr)(bs:List UInt8){s:Pl}(h:cx p s):(dL p bs s).2.k.now=s.k.now:=by
 have he:=sj bs s.k;have h1:=(Me (h.toWP.more (h.wc.recv bs).1 ((h.wc.recv bs).2 h.held) he.1 he.2)).2.2.2.2.2.1;rw[dL,h1];show (dC bs s.k).2.now=_;by_cases h0:(dC bs s.k).1=0
 ·obtain⟨q,_,_,_,_,_,h6⟩:=BV h0;rw[h6,abU]
 ·rw[xi h0]
theorem abW (k:Ks):(bq k).2.now≤k.now+1:=by
 rcases xj k with h1 | ⟨hc,h1 | ⟨i,hi,h1⟩⟩ <;> rw[h1]
 ·exact gT _
 ·exact bh _
 ·exact bh _
theorem abX (k:Ks):(bF k).2.now=k.now:=by
 unfold bF;split <;> rfl
structure CB (W:World)(t:TypeId)(ad:Addr)(vt vu vv vw vx vy vz vA:FuncId)(p:Pr)(gs:Gs)(J:Nat→Pl→SP):Prop where
 Hm : pz prog t "Press" vt
 cP:hE prog vt=true
 Hn : pz prog t "Receive" vu
 Ho:hE prog vu=true
 Hq : pz prog t "Tick" vv
 cT:hE prog vv=true
 Hr : pz prog t "Quit" vw
 Hs:hE prog vw=true
 Ht : pz prog t "Events" vx
 cE:hE prog vx=true
 CC : pz prog t "Confirmed" vy
 CD:hE prog vy=true
 Hu : pz prog t "Display" vz
 Hv:hE prog vz=true
 Hw : pz prog t "Closed" vA
 Hx:hE prog vA=true
 al:∀ (w:World) (L:List SP) (i:Nat) (s:Pl) (x:UInt8),i≤1000000→cx p s→U W w (J i s::L)→Calls prog vt (List.toArray [.pointer (some ad),.int .u8 (x.toNat:Nat)]) w λr V=>r=.returned (.int .i64 (dK p x s).1)∧U W V (J (i+1) (dK p x s).2::L)
 recv:∀ (w:World) (L:List SP) (i:Nat) (s:Pl) (bs:List UInt8) (a:Option Addr) (c:Nat),i≤1000000→cx p s→bs.length≤65536→bs.length≤c→(∀ V,U W V L→aL V a bs.length bs)→U W w (J i s::L)→Calls prog vu (List.toArray [.pointer (some ad),.slice a bs.length c]) w λr V=>r=.returned (.int .i64 (dL p bs s).1)∧U W V (J (i+1) (dL p bs s).2::L)
 tick:∀ (w:World) (L:List SP) (i:Nat) (s:Pl),i≤1000000→cx p s→s.k.now≤1000000→U W w (J i s::L)→Calls prog vv (List.toArray [.pointer (some ad)]) w λr V=>∃ a c,r=.returned (.slice a (bq s.k).1.length c)∧U W V (bU 124 a (bq s.k).1.length c (bq s.k).1::J (i+1) ⟨(bq s.k).2,s.g⟩::L)
 lP:∀ (w:World) (L:List SP) (i:Nat) (s:Pl),i≤1000000→cx p s→U W w (J i s::L)→Calls prog vw (List.toArray [.pointer (some ad)]) w λr V=>∃ a c,r=.returned (.slice a (bF s.k).1.length c)∧U W V (bU 124 a (bF s.k).1.length c (bF s.k).1::J (i+1) ⟨(bF s.k).2,s.g⟩::L)
 events:∀ (w:World) (L:List SP) (i:Nat) (s:Pl),i≤1000000→cx p s→U W w (J i s::L)→Calls prog vx (List.toArray [.pointer (some ad)]) w λr V=>∃ a c,r=.returned (.slice a s.k.ev.length c)∧U W V (Sl 135 1 a s.k.ev.length c (s.k.ev.map cz)::J (i+1) ⟨{ s.k with ev:=[] },s.g⟩::L)
 CE:∀ (w:World) (L:List SP) (i:Nat) (s:Pl),i≤1000000→cx p s→U W w (J i s::L)→Calls prog vy (List.toArray [.pointer (some ad)]) w λr V=>∃ a c,r=.returned (.tuple #[.slice a 128 c,.int .i64 (lR s).2])∧U W V (Sl 5 1 a 128 c (bc (lR s).1)::J i s::L)
 Hy:∀ (w:World) (L:List SP) (i:Nat) (s:Pl),i≤1000000→cx p s→U W w (J i s::L)→Calls prog vz (List.toArray [.pointer (some ad)]) w λr V=>∃ a c,r=.returned (.tuple #[.slice a 128 c,.int .i64 (fH p gs s).2])∧U W V (Sl 5 1 a 128 c (bc (fH p gs s).1)::J i s::L)
 closed:∀ (w:World) (L:List SP) (i:Nat) (s:Pl),i≤1000000→cx p s→U W w (J i s::L)→Calls prog vA (List.toArray [.pointer (some ad)]) w λr V=>r=.returned (.bool s.k.cl)∧U W V (J i s::L)
section
variable {W w:World}{L:List SP}{i:Nat}{t:TypeId}{ad:Addr}{vt vu vv vw vx vy vz vA:FuncId}{p:Pr}{gs:Gs}{J:Nat→Pl→SP}{B:gf}{s:Pl}{b:Bool}
theorem abY (M:CB W t ad vt vu vv vw vx vy vz vA p gs J)(hi:i≤1000000)(I:U W w (J i s::b9 W B p s::L))(hw:cx p s)(a7:dq p)(aE:p.title.size≤1000000000)(fI:cY B.gs)(hbg:B.gs=gs)(hT:aL W B.adT B.gs.table.length B.gs.table) :
   Calls prog 53 #[.iface t (.pointer (some ad)),pt B.pb] w λe V=>e=.returned (.bool true)∧U W V (J i s::b9 W B p s::L):=by
 subst hbg;refine EN func53 ntmps53 rfl rfl λa E=>?_;refine RN 4 E I λa E=>?_;refine jN E rfl M.CC M.CD rfl (M.CE _ _ i s hi hw I) (by rfl) ?_;clear E I;rintro e w ⟨df,dD,rfl,I⟩;refine⟨_,rfl,λa E=>?_⟩;refine aX 7 E I (N4 (I.pick (b9 W B p s)) hw) λdz c2 a w E I=>?_;refine RN 7 E I λa E=>?_;refine jN E rfl M.Hu M.Hv rfl (M.Hy _ _ i s hi hw (I.pick (J i s))) (by rfl) ?_;clear E I;rintro e w ⟨a3,db,rfl,I⟩;refine⟨_,rfl,λa E=>?_⟩;refine aX 7 E I (abQ (I.pick (b9 W B p s)) hw a7 aE fI hT) λa4 hO a w E I=>?_;refine RN 5 E I λa E=>?_;have cm:(lR s).1.length=128:=u0 _;have mL:(fH p B.gs s).1.length=128:=by
  rw[fH];split
  ·exact u0 _
  ·exact u0 _
 replace I:=I.sub (M:=Sl 5 1 a4 128 hO (bc (fH p B.gs s).1)::Sl 5 1 a3 128 db (bc (fH p B.gs s).1)::Sl 5 1 dz 128 c2 (bc (lR s).1)::Sl 5 1 df 128 dD (bc (lR s).1)::b9 W B p s::J i s::L);obtain⟨A,I⟩:∃ A,U W w (Sl 5 1 a4 128 hO (bc (fH p B.gs s).1)::Sl 5 1 a3 128 db (bc (fH p B.gs s).1)::Sl 5 1 dz 128 c2 (bc (lR s).1)::Sl 5 1 df 128 dD (bc (lR s).1)::aa B.core.cb 72 (cU s.k B.core A)::bP B.core.lb B.core.lo B.core.cL s.k.ls::aa B.core.hb 3 (fe s.k.ps)::aa B.core.ec 3 (e0 s.k.ps)::aa B.core.wb 313 (rows fg s.k.ps)::aa B.core.xb 4 (ff s.k.ps)::Sl 100 1 A.ch s.k.mr.length A.cM (c0 s.k.mr)::Sl 102 3 A.adE s.k.ev.length A.cE (rows bZ s.k.ev)::aa B.pb 51 (e4 p B s.g)::az W p B.an B.cO::J i s::L):=by
  obtain⟨A,h⟩:=a2.open ((b9.open (I.pick (b9 W B p s))).pick (a2 B.core s.k));exact⟨A,h.sub⟩
 refine a1 1 (λw0 V=>((aL V df 128 (lR s).1∧aL V dz 128 (lR s).1)∧aL V a3 128 (fH p B.gs s).1∧aL V a4 128 (fH p B.gs s).1)∧Rd V B.pb 0 (e4 p B s.g)∧Rd V B.core.cb 0 (cU s.k B.core A)) [7,19,24] [0,1,2,3,4,6,3005,1007,8,9,10,11,12,13,14,15,16,18,3017,1019,20,21,22,23,25,26,27,3028,29,30,3031,1024,32,33,34] E I λa w E I hH=>?_;have hC:=hH.at w ⟨⟨⟨I.cr df _ rfl cm,I.cr dz _ rfl cm⟩,I.cr a3 _ rfl mL,I.cr a4 _ rfl mL⟩,I.ai (b:=B.pb),I.ai (b:=B.core.cb)⟩;refine RH 4 E I hH hC λa E=>?_;rw[dp (by omega)]at E;refine RH 2 E I hH hC λa E=>?_;refine QH E (λw hc=>ky E underlying22 underlying5 underlying9 (hc.1.1.1)) hC λa E=>?_;refine RH 0 E I hH hC λa E=>?_;refine bu E (cu E rfl (s:=36)) (ky E underlying22 underlying5 underlying9 (hC.1.1.2)) rfl λa E=>?_;refine RH 0 E I hH hC λa E=>?_;refine QP E (λw=>sO E) λa E=>?_;rw[pC,beq_self_eq_true]at E;refine RH 2 E I hH hC λa E=>?_;replace E:=E.eG 43;refine RH 5 E I hH hC λa E=>?_;rw[dp (by omega)]at E;refine RH 2 E I hH hC λa E=>?_;refine QH E (λw hc=>ky E underlying22 underlying5 underlying9 (hc.1.2.1)) hC λa E=>?_;refine RH 0 E I hH hC λa E=>?_;refine bu E (cu E rfl (s:=48)) (ky E underlying22 underlying5 underlying9 (hC.1.2.2)) rfl λa E=>?_;refine RH 0 E I hH hC λa E=>?_;refine QP E (λw=>sO E) λa E=>?_;rw[pC,beq_self_eq_true]at E;refine RH 2 E I hH hC λa E=>?_;replace E:=E.eG 55;refine RH 4 E I hH hC λa E=>?_;refine QH E (λw hc=>ae E (hc.2.1 0 _ rfl)) hC λa E=>?_;refine RH 2 E I hH hC λa E=>?_;refine QH E (λw hc=>ae E (hc.2.2 18 _ rfl)) hC λa E=>?_;refine RH 0 E I hH hC λa E=>?_;refine jN E (cu E rfl (s:=55)) M.Hw M.Hx rfl (M.closed _ _ i s hi hw (I.pick (J i s))) (by rfl) ?_;clear E I;rintro e w ⟨rfl,I⟩;refine⟨_,rfl,λa E=>?_⟩;replace hC:=hH.at w ⟨⟨⟨I.cr df _ rfl cm,I.cr dz _ rfl cm⟩,I.cr a3 _ rfl mL,I.cr a4 _ rfl mL⟩,I.ai (b:=B.pb),I.ai (b:=B.core.cb)⟩;refine RH 3 E I hH hC λa E=>?_;refine RT 0 E I ?_;refine⟨by simp,?_⟩;exact (b9.fold (a2.fold I B.core s.k A) B p s).sub (M:=J i s::b9 W B p s::L)
set_option maxHeartbeats 4000000 in
end
end
section
structure Wd where
 ps:List Pl
 net:List Ml
 ev:List (List kj)
structure fB where
 fn:Int
 a:Int
 b:Int
 n:Int
def CF:Pl:=⟨fv ⟨0,0,0,0,0,0,0,0,0,0⟩,o0⟩
def aq (v:Wd)(i:Nat):Pl:=v.ps.getD i CF
def gg (b:Int):UInt8:=UInt8.ofNat (b%256).toNat
theorem abZ (b:Int):((gg b).toNat:Int)=b%256:=by
 have h1:=Int.emod_nonneg b (show (256:Int)≠0 by decide);have h2:=Int.emod_lt_of_pos b (show (0:Int)<256 by decide);rw[gg,UInt8.toNat_ofNat',kX (by omega)];omega
def pa (net:List Ml)(m:Ml):List Ml:=if net.length<300 then net++[m] else net
def ez (net l:List Ml):List Ml:=l.foldl pa net
theorem N7 (net:List Ml){l:List Ml}{i:Nat}(h:i<l.length):ez net (l.take (i+1))=pa (ez net (l.take i)) l[i]:=by
 rw[ez,← List.take_append_getElem h,foldl_append];rfl
theorem CG:∀ {l net:List Ml} {m:Ml},m∈ez net l→m∈net∨m∈l
 | [],net,m,h=>.inl h
 | x::l,net,m,h=>by
  rcases CG (l:=l) (net:=pa net x) h with h | h
  ·rw[pa]at h;split at h
   ·rcases eX.1 h with h | h
    ·exact .inl h
    ·exact .inr (by rw[iF.1 h];exact jo)
   ·exact .inl h
  ·exact .inr (gU _ h)
theorem Hz:∀ {l net:List Ml},net.length≤300→(ez net l).length≤300
 | [],net,h=>h
 | x::l,net,h=>Hz (l:=l) (net:=pa net x) (by
  rw[pa];split
  ·rw[aN,jC];omega
  ·exact h)
noncomputable def gp (p:Pr)(s:fB)(v:Wd):Int×Wd :=
 if s.n<0∨(v.net.length:Int)≤s.n then (3,v) else
 if s.fn=6 then (if s.a<0∨((v.net.getD s.n.toNat (0,0,[])).2.2.length:Int)≤s.a then (3,v) else
  (0,{ v with net:=v.net.set s.n.toNat ((v.net.getD s.n.toNat (0,0,[])).1,(v.net.getD s.n.toNat (0,0,[])).2.1,(v.net.getD s.n.toNat (0,0,[])).2.2.set s.a.toNat ((v.net.getD s.n.toNat (0,0,[])).2.2.getD s.a.toNat 0 ^^^ gg s.b)) }))
 else if s.fn=4 then (0,{ v with net:=v.net.eraseIdx s.n.toNat })
 else ((dL p (v.net.getD s.n.toNat (0,0,[])).2.2 (aq v (v.net.getD s.n.toNat (0,0,[])).2.1)).1,
  { v with ps:=v.ps.set (v.net.getD s.n.toNat (0,0,[])).2.1 (dL p (v.net.getD s.n.toNat (0,0,[])).2.2 (aq v (v.net.getD s.n.toNat (0,0,[])).2.1)).2,net:=if s.fn=5 then v.net else v.net.eraseIdx s.n.toNat })
def gh (p:Pr)(s:fB)(v:Wd):Int×Wd :=
 if s.a<0∨(v.ps.length:Int)≤s.a then (7,v) else
 if s.fn=1 then ((dK p (gg s.b) (aq v s.a.toNat)).1,{ v with ps:=v.ps.set s.a.toNat (dK p (gg s.b) (aq v s.a.toNat)).2 })
 else if s.fn=2 then (0,{ v with ps:=v.ps.set s.a.toNat ⟨(bq (aq v s.a.toNat).k).2,(aq v s.a.toNat).g⟩,net:=ez v.net (bq (aq v s.a.toNat).k).1 })
 else if s.fn=8 then (0,{ v with ps:=v.ps.set s.a.toNat ⟨(bF (aq v s.a.toNat).k).2,(aq v s.a.toNat).g⟩,net:=ez v.net (bF (aq v s.a.toNat).k).1 })
 else (0,v)
noncomputable def br (p:Pr)(s:fB)(v:Wd):Int×Wd:=if s.fn<1∨8<s.fn then (1,v) else if 3≤s.fn∧s.fn≤6 then gp p s v else gh p s v
def tX (i:Nat)(v:Wd):Wd:={ v with ps:=v.ps.set i ⟨{ (aq v i).k with ev:=[] },(aq v i).g⟩,ev:=v.ev.set i (v.ev.getD i []++(aq v i).k.ev) }
def cj (v:Wd):Nat→Wd
 | 0=>v
 | i+1=>tX i (cj v i)
def kT (v:Wd):Wd:=cj v v.ps.length
noncomputable def ds (p:Pr)(s:fB)(v:Wd):Wd:=if s.fn=7 then v else kT (br p s v).2
structure bB (p:Pr)(cf:Cf)(c:Nat)(v:Wd):Prop where
 may:ft cf
 n:v.ps.length=cf.n.toNat
 ev:v.ev.length=v.ps.length
 pl:∀ i,i<v.ps.length→cx p (aq v i)∧fu (aq v i).k={ cf with me:=i }∧(aq v i).k.now≤c
 net:v.net.length≤300∧∀ m∈v.net,m.2.1<v.ps.length∧m.2.2.length≤1000
 kQ:∀ e∈v.ev,e.length≤9*c∧∀ x∈e,tD x
section
variable {p:Pr}{cf:Cf}{c i j:Nat}{v:Wd}{s:fB}{q:Pl}
theorem q5 (h:i<v.ps.length)(net:List Ml)(ev:List (List kj)):aq ⟨v.ps.set i q,net,ev⟩ j=if i=j then q else aq v j:=by
 rw[aq,aq,bl,bl];show ((v.ps.set i q)[j]?).getD CF=_;rw[jX];split
 ·rfl
 ·rfl
theorem bB.len (h:bB p cf c v):2≤v.ps.length∧v.ps.length≤8:=by
 have h1:=h.n;have h2:=h.may.1.1;unfold dE at h2;omega
theorem bB.put (h:bB p cf c v)(hi:i<v.ps.length)(hw:cx p q)(hc:fu q.k=fu (aq v i).k)(hn:q.k.now≤c+1){net:List Ml}(hl:net.length≤300)(hm:∀ m∈net,m.2.1<v.ps.length∧m.2.2.length≤1000) :
   bB p cf (c+1) { v with ps:=v.ps.set i q,net:=net }:=by
 refine⟨h.may,by show (v.ps.set i q).length=_;rw[bt];exact h.n,by show v.ev.length=(v.ps.set i q).length;rw[bt];exact h.ev,λj hj=>?_,⟨hl,?_⟩,λe he=>⟨by have:=(h.kQ e he).1;omega,(h.kQ e he).2⟩⟩
 ·have lC:j<v.ps.length:=by have:j<(v.ps.set i q).length:=hj;rwa [bt]at this
  rw[q5 (v:=v) hi];split
  ·rename_i e;subst e;exact⟨hw,hc.trans (h.pl _ hi).2.1,hn⟩
  ·exact⟨(h.pl j lC).1,(h.pl j lC).2.1,by have:=(h.pl j lC).2.2;omega⟩
 ·intro m wD;show m.2.1<(v.ps.set i q).length∧_;rw[bt];exact hm m wD
theorem bB.more (h:bB p cf c v){d:Nat}(hd:c≤d):bB p cf d v :=
 ⟨h.may,h.n,h.ev,λi hi=>⟨(h.pl i hi).1,(h.pl i hi).2.1,gC (h.pl i hi).2.2 hd⟩,h.net,λe he=>⟨by have:=(h.kQ e he).1;omega,(h.kQ e he).2⟩⟩
theorem N8 {k:Ks}(h:WC k):∀ m∈(bq k).1,m.2.1<k.n∧m.2.2.length≤1000:=by
 intro m hm;unfold bq at hm;split at hm
 ·cases hm
 ·simp only at hm;split at hm
  ·cases hm
  ·obtain⟨i,hi,rfl⟩:=cV.1 hm;have h1:=(List.mem_filter.1 hi).1;rw[mem_range]at h1;exact⟨h1,gC (Mf _) (by decide)⟩
theorem N9 {k:Ks}(h:WC k):∀ m∈(bF k).1,m.2.1<k.n∧m.2.2.length≤1000:=by
 intro m hm;unfold bF at hm;split at hm
 ·cases hm
 ·obtain⟨i,hi,rfl⟩:=cV.1 hm;have h1:=(List.mem_filter.1 hi).1;rw[mem_range]at h1;exact⟨h1,gC (Mf _) (by decide)⟩
theorem bB.tY (h:bB p cf c v)(hi:i<v.ps.length):(aq v i).k.n=v.ps.length:=by
 have h1:=(h.pl i hi).2.1;have h2:(fu (aq v i).k).n=cf.n:=by rw[h1]
 have h3:((aq v i).k.n:Int)=cf.n:=h2;have:=h.n;have h4:=h.may.1.1;unfold dE at h4;omega
theorem bB.Oa (h:bB p cf c v){l:List Ml}(hl:∀ m∈l,m.2.1<v.ps.length∧m.2.2.length≤1000):(ez v.net l).length≤300∧∀ m∈ez v.net l,m.2.1<v.ps.length∧m.2.2.length≤1000 :=
 ⟨Hz h.net.1,λm hm=>(CG hm).elim (h.net.2 m) (hl m)⟩
theorem bB.al (h:bB p cf c v)(hi:i<v.ps.length)(b:UInt8):bB p cf (c+1) { v with ps:=v.ps.set i (dK p b (aq v i)).2 } :=
 h.put hi (lV.al (h.pl i hi).1 b).wf (lV.al (h.pl i hi).1 b).cf (by have:=(h.pl i hi).2.2;rw[abT p b (h.pl i hi).1];omega) h.net.1 h.net.2
theorem bB.recv (h:bB p cf c v)(hi:i<v.ps.length)(bs:List UInt8){net:List Ml}(hl:net.length≤300)(hm:∀ m∈net,m.2.1<v.ps.length∧m.2.2.length≤1000):bB p cf (c+1) { v with ps:=v.ps.set i (dL p bs (aq v i)).2,net:=net } :=
 h.put hi (lV.recv (h.pl i hi).1 bs).wf (lV.recv (h.pl i hi).1 bs).cf (by have:=(h.pl i hi).2.2;rw[abV p bs (h.pl i hi).1];omega) hl hm
theorem bB.tick (h:bB p cf c v)(hi:i<v.ps.length):bB p cf (c+1) { v with ps:=v.ps.set i ⟨(bq (aq v i).k).2,(aq v i).g⟩,net:=ez v.net (bq (aq v i).k).1 }:=by
 have h1:=h.Oa (l:=(bq (aq v i).k).1) λm hm=>by have:=N8 (h.pl i hi).1.wc m hm;rwa [h.tY hi]at this
 exact h.put hi (h.pl i hi).1.tick (G4 _) (by have:=(h.pl i hi).2.2;have:=abW (aq v i).k;show (bq (aq v i).k).2.now≤_;omega) h1.1 h1.2
theorem bB.lP (h:bB p cf c v)(hi:i<v.ps.length):bB p cf (c+1) { v with ps:=v.ps.set i ⟨(bF (aq v i).k).2,(aq v i).g⟩,net:=ez v.net (bF (aq v i).k).1 }:=by
 have h1:=h.Oa (l:=(bF (aq v i).k).1) λm hm=>by have:=N9 (h.pl i hi).1.wc m hm;rwa [h.tY hi]at this
 exact h.put hi (h.pl i hi).1.lP (G5 _) (by have:=(h.pl i hi).2.2;have:=abX (aq v i).k;show (bF (aq v i).k).2.now≤_;omega) h1.1 h1.2
theorem bB.one (h:bB p cf c v):bB p cf (c+1) (gh p s v).2:=by
 unfold gh;split
 ·exact h.more (gT _)
 ·have hi:s.a.toNat<v.ps.length:=by omega
  split
  ·exact h.al hi _
  ·split
   ·exact h.tick hi
   ·split
    ·exact h.lP hi
    ·exact h.more (gT _)
theorem bB.HA (h:bB p cf c v){j:Nat}(hj:j<v.net.length):(v.net.getD j (0,0,[])).2.1<v.ps.length∧(v.net.getD j (0,0,[])).2.2.length≤1000:=by
 rw[bl,aD hj];exact h.net.2 _ (iI hj)
theorem bB.erase (h:bB p cf c v)(j:Nat):(v.net.eraseIdx j).length≤300∧∀ m∈v.net.eraseIdx j,m.2.1<v.ps.length∧m.2.2.length≤1000 :=
 ⟨gC (List.length_eraseIdx_le _ _) h.net.1,λm hm=>h.net.2 m (mem_of_mem_eraseIdx hm)⟩
theorem bB.Ob (h:bB p cf c v){net:List Ml}(hl:net.length≤300)(hm:∀ m∈net,m.2.1<v.ps.length∧m.2.2.length≤1000):bB p cf (c+1) { v with net:=net } :=
 { h.more (gT c) with net:=⟨hl,hm⟩ }
theorem bB.zJ (h:bB p cf c v):bB p cf (c+1) (gp p s v).2:=by
 unfold gp;split
 ·exact h.more (gT _)
 ·rename_i hr;have hj:s.n.toNat<v.net.length:=by omega
  have hx:=h.HA hj;split
  ·split
   ·exact h.more (gT _)
   ·refine h.Ob (by rw[bt];exact h.net.1) λm hm=>?_;rcases qA hm with h1 | rfl
    ·exact h.net.2 m h1
    ·exact⟨hx.1,by show (List.set _ _ _).length≤_;rw[bt];exact hx.2⟩
  ·split
   ·exact h.Ob (h.erase _).1 (h.erase _).2
   ·refine h.recv hx.1 _ ?_ ?_ <;> split
    ·exact h.net.1
    ·exact (h.erase _).1
    ·exact h.net.2
    ·exact (h.erase _).2
theorem bB.step (h:bB p cf c v):bB p cf (c+1) (br p s v).2:=by
 unfold br;split
 ·exact h.more (gT _)
 ·split
  ·exact h.zJ
  ·exact h.one
theorem q6 (v:Wd):∀ i,(cj v i).ps.length=v.ps.length∧(cj v i).net=v.net∧(cj v i).ev.length=v.ev.length
 | 0=>⟨rfl,rfl,rfl⟩
 | i+1=>by
  obtain⟨h1,h2,h3⟩:=q6 v i;exact⟨by show (List.set _ _ _).length=_;rw[bt,h1],h2,by show (List.set _ _ _).length=_;rw[bt,h3]⟩
theorem zK (v:Wd):∀ {i j:Nat},i≤v.ps.length→aq (cj v i) j=if j<i then ⟨{ (aq v j).k with ev:=[] },(aq v j).g⟩ else aq v j
 | 0,j,_=>by rw[ag (Nat.not_lt_zero _)];rfl
 | i+1,j,h=>by
  have h1:=zK v (i:=i) (j:=i) (by omega);rw[ag (Ct _)]at h1;show aq ⟨(cj v i).ps.set i _,_,_⟩ j=_;rw[q5 (v:=cj v i) (by rw[(q6 v i).1];omega),h1,zK v (i:=i) (j:=j) (by omega)];by_cases h2:i=j
  ·subst h2;rw[ak rfl,ak (by omega)]
  ·rw[ag h2];by_cases h3:j<i
   ·rw[ak h3,ak (by omega)]
   ·rw[ag h3,ag (by omega)]
theorem HB (v:Wd)(hl:v.ev.length=v.ps.length):∀ {i j:Nat},i≤v.ps.length→(cj v i).ev.getD j []=if j<i then v.ev.getD j []++(aq v j).k.ev else v.ev.getD j []
 | 0,j,_=>by rw[ag (Nat.not_lt_zero _)];rfl
 | i+1,j,h=>by
  have h1:=zK v (i:=i) (j:=i) (by omega);rw[ag (Ct _)]at h1;have h4:=HB v hl (i:=i) (j:=i) (by omega);rw[ag (Ct _)]at h4;show ((cj v i).ev.set i ((cj v i).ev.getD i []++(aq (cj v i) i).k.ev)).getD j []=_;rw[h1,h4,bl,jX];by_cases h2:i=j
  ·subst h2;rw[ak rfl,ak (by rw[(q6 v i).2.2,hl];omega),ak (by omega)];rfl
  ·rw[ag h2,← bl,HB v hl (i:=i) (j:=j) (by omega)];by_cases h3:j<i
   ·rw[ak h3,ak (by omega)]
   ·rw[ag h3,ag (by omega)]
theorem ab0 {α:Type}{l:List α}{x d:α}(h:x∈l):∃ i,i<l.length∧l.getD i d=x:=by
 obtain⟨i,hi,rfl⟩:=za h;exact⟨i,hi,by rw[bl,aD hi];rfl⟩
theorem xG {α:Type}{l:List α}{d:α}{i:Nat}(h:i<l.length):l.getD i d∈l:=by
 rw[bl,aD h];exact iI _
theorem bB.cj (h:bB p cf c v){i:Nat}(hi:i≤v.ps.length):bB p cf (c+1) (cj v i):=by
 obtain⟨h1,h2,h3⟩:=q6 v i;refine⟨h.may,by rw[h1];exact h.n,by rw[h1,h3];exact h.ev,λj hj=>?_,by rw[h1,h2];exact h.net,λe he=>?_⟩
 ·rw[h1]at hj;obtain⟨df,dz,a3⟩:=h.pl j hj;rw[zK v hi];split
  ·exact⟨df.told,dz,by show (aq v j).k.now≤_;omega⟩
  ·exact⟨df,dz,by omega⟩
 ·obtain⟨j,hj,rfl⟩:=ab0 (d:=[]) he;rw[h3]at hj;rw[HB v h.ev hi];have h4:=h.kQ _ (xG (d:=[]) hj);have h5:=(h.pl j (by rw[← h.ev];exact hj)).1.wc;split
  ·refine⟨by have:=h5.kQ;rw[aN];omega,λx hx=>?_⟩;rcases eX.1 hx with hx | hx
   ·exact h4.2 x hx
   ·exact h5.bw x hx
  ·exact⟨by omega,h4.2⟩
theorem bB.drain (h:bB p cf c v):bB p cf (c+1) (kT v):=h.cj (bh _)
theorem bB.go (h:bB p cf c v):bB p cf (c+2) (ds p s v):=by
 unfold ds;split
 ·exact h.more (by omega)
 ·exact h.step.drain
end
end
section
structure c1 where
 frm:Int
 to:Int
 ad:Option Addr
 c:Nat
 bs:List UInt8
abbrev c1.cells (m:c1):List Value:=[.int .i64 m.frm,.int .i64 m.to,.slice m.ad m.bs.length m.c]
def iU (ms:List c1):List Value:=ms.flatMap c1.cells
def c1.own (m:c1):SP:=Sl 5 1 m.ad m.bs.length m.c (bc m.bs)
def fS (ms:List c1):SP:=λh=>cp (ms.map c1.own) h
theorem CH (l m:List c1):iU (l++m)=iU l++iU m:=by simp[iU]
theorem Oc (l:List c1)(i:Nat):(iU l).drop (i*3)=iU (l.drop i):=by
 induction i generalizing l with
 | zero=>simp
 | succ i ih =>
  cases l with
  | nil=>simp[iU]
  | cons x l =>
   rw[show (i+1)*3=i*3+3 from by omega];simp only[iU,flatMap_cons,List.drop_succ_cons,c1.cells] at *;rw[← ih l];simp
theorem ab1 (l:List c1)(i:Nat):(iU l).take (i*3)=iU (l.take i):=by
 induction i generalizing l with
 | zero=>simp[iU]
 | succ i ih =>
  cases l with
  | nil=>simp[iU]
  | cons x l =>
   rw[show (i+1)*3=i*3+3 from by omega];simp only[iU,flatMap_cons,take_succ_cons,c1.cells] at *;rw[← ih l];simp
theorem ab2 (l:List c1)(i:Nat)(h:i<l.length):((iU l).drop (i*3)).take 3=l[i].cells:=by
 rw[Oc,kA h];simp only[iU,flatMap_cons,c1.cells,cons_append,nil_append,take_succ_cons,take_zero]
theorem fS.nil {W w:World}{L:List SP}(I:U W w L):U W w (fS []::L) :=
 ⟨I.below,let ⟨h,p,q⟩:=I.sat;⟨h,p,λ_=>none,h,λ_=>.inl rfl,λ_ _ e=>(by cases e),Hp.Sub.refl _,trivial,q⟩⟩
theorem fS.out {W w:World}{L:List SP}{a b:List c1}{m:c1}(I:U W w (fS (a++m::b)::L)):U W w (m.own::fS (a++b)::L):=by
 have h1:=I.open (M:=(a++m::b).map c1.own) (λ_ x=>x);have h2:((a++m::b).map c1.own++L).Perm (m.own::((a++b).map c1.own++L)):=by
  rw[← cons_append,← map_cons];exact ((nH (a:=m) (l₁:=a) (l₂:=b)).map c1.own).append_right L
 have h3:=h1.perm h2;have h4:=h3.perm (List.perm_append_comm (l₁:=[m.own]) (l₂:=(a++b).map c1.own++L));have h5:U W w ((a++b).map c1.own++(L++[m.own])):=by simpa using h4
 have h6:=U.shut (A:=fS (a++b)) h5 (λ_ x=>x);exact h6.perm (List.Perm.trans (List.perm_append_comm (l₁:=fS (a++b)::L) (l₂:=[m.own])) (lA _))
theorem fS.Od {W w:World}{L:List SP}{a b:List c1}{m:c1}(I:U W w (m.own::fS (a++b)::L)):U W w (fS (a++m::b)::L):=by
 have h1:U W w (fS (a++b)::([m.own]++L)):=I.perm (cW _ _ _);have h2:=h1.open (M:=(a++b).map c1.own) (λ_ x=>x);refine U.shut (M:=(a++m::b).map c1.own) (h2.perm ?_) (λ_ x=>x);have h3:((a++b).map c1.own++([m.own]++L)).Perm (m.own::((a++b).map c1.own++L)):=by
  have:=nH (a:=m.own) (l₁:=(a++b).map c1.own) (l₂:=L);simpa using this
 refine h3.trans ?_;rw[← cons_append,← map_cons];exact (((nH (a:=m) (l₁:=a) (l₂:=b)).map c1.own).symm).append_right L
theorem fS.rd {W w:World}{L R:List SP}{xs:List c1}(I:U W w L)[k:qo L (fS xs) R](i:Nat)(h:i<xs.length):aL w xs[i].ad xs[i].bs.length xs[i].bs:=by
 have h1:=I.pick (fS xs);rw[show xs=xs.take i++xs[i]::xs.drop (i+1) from by rw[← kA h,jW]]at h1;have h2:=fS.out h1;refine⟨rfl,λe=>?_,λx hx hp=>?_⟩
 ·rcases lD xs[i].bs.length with h0 | h0
  ·exact h0
  ·obtain⟨b,off,e2,_⟩:=U.bY (L:=xs[i].own::_) (e:=5) (sz:=1) (n:=xs[i].bs.length) (c:=xs[i].c) (cs:=bc xs[i].bs) (k:=⟨lA _⟩) h2 xs[i].ad h0;rw[e]at e2;cases e2
 ·obtain⟨b,off,e2,hr⟩:=U.bY (L:=xs[i].own::_) (e:=5) (sz:=1) (n:=xs[i].bs.length) (c:=xs[i].c) (cs:=bc xs[i].bs) (k:=⟨lA _⟩) h2 xs[i].ad hp;exact⟨b,off,by rw[hx]at e2;cases e2;rfl,hr⟩
abbrev pc:=Int×Int×List UInt8
def c1.m (x:c1):pc:=(x.frm,x.to,x.bs)
def bN (q:Nat)(ms:List pc):SP:=λh=>∃ i:(Option Addr×Nat)×List c1,(i.2.map c1.m=ms∧ms.length≤300∧∀ x∈i.2,x.bs.length≤1000) ∧
 cp [aa q 110 [.slice i.1.1 i.2.length i.1.2],Sl 124 3 i.1.1 i.2.length i.1.2 (iU i.2),fS i.2] h
theorem bN.open {W w:World}{L:List SP}{q:Nat}{ms:List pc}(I:U W w (bN q ms::L)) :
   ∃ ad c xs,ms=xs.map c1.m∧(xs.length≤300∧∀ x∈xs,x.bs.length≤1000)∧U W w (aa q 110 [.slice ad xs.length c]::Sl 124 3 ad xs.length c (iU xs)::fS xs::L):=by
 obtain⟨i,⟨h1,h2,h3⟩,h⟩:=I.jL (B:=λi:(Option Addr×Nat)×List c1=>cp [aa q 110 [.slice i.1.1 i.2.length i.1.2],Sl 124 3 i.1.1 i.2.length i.1.2 (iU i.2),fS i.2]) (λ_ h=>h);exact⟨i.1.1,i.1.2,i.2,h1.symm,⟨by rw[← h1]at h2;simpa using h2,h3⟩,h.open (λ_ x=>x)⟩
theorem bN.shut {W w:World}{L R R2 R3:List SP}{q n c:Nat}{ad:Option Addr}{cs:List Value}{xs:List c1}{ms:List pc}(I:U W w L)[k:fM L q 110 [.slice ad n c] R][k2:fk R ad n c 124 3 cs R2][k3:qo R2 (fS xs) R3]
   (hn:n=xs.length) (hc:cs=iU xs) (hm:ms=xs.map c1.m) (h3:xs.length≤300) (h4:∀ x∈xs,x.bs.length≤1000):U W w (bN q ms::R3):=by
 subst hn;subst hc;subst hm;have h1:=(I.perm k.perm).perm (kq _ (k2.perm.trans (kq _ k3.perm)));exact U.shut (M:=[_,_,_]) h1 λ_ x=>⟨((ad,c),xs),⟨rfl,by simpa using h3,h4⟩,x⟩
theorem HC {w:World}{b off:Nat}{xs:List c1}(h:Rd w b off (iU xs))(k:Nat)(hk:k<xs.length) :
   Rd w b (off+k*3) xs[k].cells∧w.cell? ⟨b,off+k*3,none⟩=some (.int .i64 xs[k].frm)∧w.cell? ⟨b,off+k*3+1,none⟩=some (.int .i64 xs[k].to)∧w.cell? ⟨b,off+k*3+2,none⟩=some (.slice xs[k].ad xs[k].bs.length xs[k].c):=by
 have hr:=h.part (k*3) 3;rw[ab2 xs k hk]at hr;exact⟨hr,hr 0 _ rfl,hr 1 _ rfl,hr 2 _ rfl⟩
theorem ab3 {W w:World}{L:List SP}{c:Nat}(I:U W w L) :
   Calls prog 95 #[.slice none 0 c] w λe V=>e=.returned (.slice none 0 0)∧U W V L:=by
 refine EN func95 ntmps95 rfl rfl λa E=>?_;refine RN 6 E I λa E=>?_;replace E:=E.eG 4;refine RT 3 E I ?_;exact⟨rfl,I⟩
theorem ab4 {W w:World}{L:List SP}{x:Addr}{c:Nat}(I:U W w L) :
   Calls prog 95 #[.slice (some x) 0 c] w λe V=>∃ au,e=.returned (.slice au 0 0)∧U W V (Sl 5 1 au 0 0 []::L):=by
 refine EN func95 ntmps95 rfl rfl λa E=>?_;refine RN 6 E I λa E=>?_;replace E:=E.aK 4;refine RN 2 E I λa E=>?_;refine ux E rfl I underlying22 Ty.t5 rfl λb5 a w E I ho=>?_;clear ho;refine RN 1 E I λa E=>?_;refine DF E rfl underlying22 Ty.t5 rfl (bh _) λa E=>?_;refine RT 1 E I ?_;exact⟨_,rfl,I⟩
theorem ab5 {W w:World}{L:List SP}{b off c:Nat}{bs:List UInt8}(I:U W w L)(hr:Rd w b off (bc bs))(h0:0<bs.length)(hl:bs.length≤140737488355328) :
   Calls prog 95 #[.slice (some ⟨b,off,none⟩) bs.length c] w λe V=>∃ au c',e=.returned (.slice au bs.length c')∧U W V (Sl 5 1 au bs.length c' (bc bs)::L):=by
 refine EN func95 ntmps95 rfl rfl λa E=>?_;refine RN 6 E I λa E=>?_;replace E:=E.aK 4;refine RN 2 E I λa E=>?_;refine ux E rfl I underlying22 Ty.t5 rfl λb5 a w E I ho=>?_;replace hr:=ho.rd hr;clear ho;refine RN 1 E I λa E=>?_;refine cK E rfl I underlying22 Ty.t5 rfl rfl hr (by rw[dt,fD]) (eF bs) h0 (by decide) (by omega) λsX rD a w E I=>?_;refine RT 1 E I ?_;rw[ep] at *;exact⟨_,_,rfl,I⟩
theorem ab6 {W w:World}{L:List SP}{ad:Option Addr}{n c:Nat}{bs:List UInt8}(I:U W w L)(hr:aL w ad n bs)(hl:n≤140737488355328) :
   Calls prog 95 #[.slice ad n c] w λe V=>∃ au c',e=.returned (.slice au n c')∧U W V (Sl 5 1 au n c' (bc bs)::L):=by
 obtain⟨rfl,h2,h3⟩:=hr;cases ad with
 | none =>
  have h0:=h2 rfl;obtain rfl:=hG h0;exact (ab3 I).mono λe V ⟨h,I⟩=>⟨none,0,h,I.bR _ _ _⟩
 | some x =>
  rcases lD bs.length with h0 | h0
  ·obtain rfl:=hG h0;exact (ab4 I).mono λe V ⟨au,h,I⟩=>⟨au,0,h,I⟩
  ·obtain⟨b,off,rfl,hr⟩:=h3 x rfl h0;exact ab5 I hr h0 hl
theorem Oe {W w:World}{L:List SP}{ad:Option Addr}{n c:Nat}{f t:Int}{bs:List UInt8}(I:U W w L)(hr:∀ V,U W V L→aL V ad n bs)(hl:n≤140737488355328) :
   Calls prog 76 #[.agg #[.int .i64 f,.int .i64 t,.slice ad n c]] w λe V=>∃ au c',e=.returned (.agg #[.int .i64 f,.int .i64 t,.slice au n c'])∧U W V (Sl 5 1 au n c' (bc bs)::L):=by
 refine EN func76 ntmps76 rfl rfl λa E=>?_;refine BX 1 E I λb1 a w E I=>?_;refine AL 0 E I λb2 a w E I=>?_;refine aX 3 E I (ab6 I (hr _ I.sub) hl) λau c' a w E I=>?_;refine ST 1 E I (λa w E I=>?_);refine SA 2 E I λa w E I=>?_;refine RT 0 E I ?_;exact⟨_,_,rfl,I.sub⟩
theorem Of {W w:World}{L R:List SP}{q e:Nat}{s:Option Addr}{n c:Nat}(I:U W w L) [fM L q e [.slice s n c] R] :
   Calls prog 23 #[pt q] w λe V=>e=.returned (.int .i64 n)∧U W V L:=by
 refine EN func23 ntmps23 rfl rfl λa E=>?_;refine RN 6 E I λa E=>?_;replace E:=E.aK 4;refine RT 8 E I ?_;exact⟨rfl,I⟩
theorem Og {W w:World}{L:List SP}{q:Nat}{ms:List pc}(I:U W w (bN q ms::L)) :
   Calls prog 23 #[pt q] w λe V=>e=.returned (.int .i64 ms.length)∧U W V (bN q ms::L):=by
 obtain⟨ad,c,xs,rfl,hx,I⟩:=bN.open I;refine (Of (q:=q) I).mono λe V ⟨h,I⟩=>⟨by rw[h];simp,bN.shut (q:=q) (ad:=ad) (xs:=xs) I rfl rfl rfl hx.1 hx.2⟩
theorem CI {W w:World}{L R:List SP}{q e:Nat}{s:Option Addr}{n c:Nat}{i:Int}(I:U W w L) [fM L q e [.slice s n c] R] :
   Calls prog 75 #[pt q,.int .i64 i] w λe V=>e=.returned (.bool (decide (0≤i)&&decide (i<n)))∧U W V L:=by
 refine EN func75 ntmps75 rfl rfl λa E=>?_;refine BY 6 E I (λbA a E=>?_) λbA a E=>?_
 ·
  refine CL 2 E I (Of (q:=q) I) λa w E I=>?_;refine RT 3 E I ?_;exact⟨by rw[dp (p:=0≤i) (by omega),Bool.true_and],I⟩
 refine RT 6 E I ?_;exact⟨by rw[bn (p:=0≤i) (by omega),Bool.false_and],I⟩
theorem ab7 {W w:World}{L:List SP}(I:U W w L) :
   Calls prog 42 #[] w λe V=>∃ q,e=.returned (pt q)∧U W V (bN q []::L):=by
 refine EN func42 ntmps42 rfl rfl λa E=>?_;refine BX 4 E I λb2 a w E I=>?_;refine RT 1 E I ?_;exact⟨_,rfl,by
  have h1:=(fS.nil (I.bR 124 3 none));exact (bN.shut (q:=b2) (xs:=[]) (ms:=[]) h1 rfl rfl rfl (by simp) (by simp)).sub⟩
theorem Oh {p q r vs:List Value}{o:Nat}(ho:o=p.length)(h:q.length=vs.length):cD (p++q++r) o vs=p++vs++r:=by
 subst ho;have e1:(p++q++r).take p.length=p:=by rw[dA,List.take_left]
 have e2:(p++q++r).drop (p.length+vs.length)=r:=by rw[← h,show p.length+q.length=(p++q).length from by simp,drop_left]
 rw[cD,e1,e2]
theorem ab8 {pre cs post:List Value}{n i:Nat}(hl:cs.length=n*3)(hi:i<n) :
   ∃ v,v.length=3∧cD (pre++cs++post) (pre.length+i*3) (cs.drop ((i+1)*3))=(pre++(cs.take (i*3)++cs.drop ((i+1)*3)))++v++post:=by
 refine⟨(cs.drop (i*3)).drop ((n-1-i)*3),by rw[c4,c4];omega,?_⟩;have uM:cs=cs.take (i*3)++((cs.drop (i*3)).take ((n-1-i)*3)++(cs.drop (i*3)).drop ((n-1-i)*3)):=by rw[jW,jW]
 have e:pre++cs++post=(pre++cs.take (i*3))++(cs.drop (i*3)).take ((n-1-i)*3)++((cs.drop (i*3)).drop ((n-1-i)*3)++post):=by
  conv=>lhs;rw[uM]
  simp only[dA]
 rw[e,Oh (by rw[aN,dH];omega) (by rw[dH,c4,c4];omega)];simp only[dA]
theorem ab9 {W w:World}{L:List SP}{ad:Option Addr}{c n i:Nat}{cs:List Value}(I:U W w (Sl 124 3 ad n c cs::L))(hi:i<n)(hn:n≤140737488355328)(fW:∀ v∈cs,v.oneCell'=true) :
   Calls prog 103 #[.slice ad n c,.int .i64 i,.int .i64 ((i+1:Nat):Int)] w λe V=>e=.returned (.slice ad (n-1) c)∧U W V (Sl 124 3 ad (n-1) c (cs.take (i*3)++cs.drop ((i+1)*3))::L):=by
 have aj:=(I.sl ad);obtain⟨b,pre,post,⟨h1,h2,rfl,h4⟩,gG⟩:=I.lZ (by omega);replace I:=gG;clear gG;have oh:∃ o2,e6 (some ⟨b,pre.length,none⟩) (i+1) c 3=some ⟨b,o2,none⟩∧∀ w,U W w (aa b 124 (pre++cs++post)::L)→Rd w b o2 (cs.drop ((i+1)*3)):=by
  by_cases Oi:c=i+1
  ·refine⟨pre.length,by simp[e6,Oi],λw _=>?_⟩;rw[List.drop_of_length_le (by omega)];intro j v hj;simp at hj
  ·refine⟨pre.length+(i+1)*3,po Oi,λw I=>?_⟩;intro j v hj;have hlt:=(aZ.1 hj).1;rw[c4]at hlt;rw[I.cell,dA,pn (by omega),show pre.length+(i+1)*3+j-pre.length=(i+1)*3+j from by omega,mv (by omega)];rw[pj]at hj;exact hj
 obtain⟨o2,zH,oh⟩:=oh;refine EN func103 ntmps103 rfl rfl λa E=>?_;refine RN 8 E I λa E=>?_;refine SS E (Rf E underlying108 Ty.t124 (by omega) (by omega) (by omega)) λa E=>?_;refine RN 5 E I λa E=>?_;rw[show decide ((i:Int)=((i+1:Nat):Int))=false from bn (by omega)]at E;replace E:=E.aK 16;refine bW 6 [] [0,1,2,3,4,5,1006,7] E I λa w E I hH hC=>?_;refine RH 6 E I hH hC λa E=>?_;rw[zH,po (by omega:c≠0)]at E;refine Ri E rfl I underlying108 Ty.t124 rfl (oh _ I) (by simp;omega) (λv hv=>fW v (List.mem_of_mem_drop hv)) (by omega) (by simp;omega) λa w E I=>?_;obtain⟨v,hv,Fv⟩:=ab8 (pre:=pre) (post:=post) (n:=n) (i:=i) h1 hi;rw[show pre.length+0*3+(i-0)*3=pre.length+i*3 from by omega,Fv]at I;rw[show i-0+(n-(i+1))=n-1 from by omega,show pre.length+0*3=pre.length from by omega]at E;have hP:(pre++(cs.take (i*3)++cs.drop ((i+1)*3))).length=pre.length+(n-1)*3:=by
  simp only[aN,dH,c4];omega
 refine RN 1 E I λa E=>?_;refine RN 6 E I λa E=>?_;rw[po (by omega)]at E;have hle:pre.length+(n-1)*3+(n-(n-1))*3≤(pre++(cs.take (i*3)++cs.drop ((i+1)*3))++v++post).length:=by
  rw[aN,aN,hP,hv];omega
 refine IW E rfl I underlying108 Ty.t124 rfl rfl hle λa w E I=>?_;refine RT 3 E I ?_;refine⟨rfl,?_⟩;generalize hz:(Builtin.zeroCells (Value.cells (.agg #[.int .i64 0,.int .i64 0,.slice none 0 0])) (n-(n-1))).toList=zs at I;have jt:zs.length=(n-(n-1))*3:=by rw[← hz];exact x5 0 (a6:=0) rfl _
 rw[Oh hP.symm (by rw[hv,jt];omega)]at I;rw[dA _ zs post]at I;exact U.iY I (by rw[aN]at hP;omega) (by omega) (by rw[aN,jt];omega)
def qf (ms:List pc)(n:Nat):Bool:=decide (ms.length<300)&&decide (n≤1000)
theorem aca {W w:World}{L:List SP}{q:Nat}{ms:List pc}{ad:Option Addr}{n c:Nat}{f t:Int}{bs:List UInt8}(I:U W w (bN q ms::L))(hr:∀ V,U W V L→aL V ad n bs) :
   Calls prog 100 #[pt q,.agg #[.int .i64 f,.int .i64 t,.slice ad n c]] w λe V=>e=.returned (.bool (qf ms n))∧U W V (bN q (if qf ms n then ms++[(f,t,bs)] else ms)::L):=by
 have oC:=(hr _ I.tail).1;subst oC;obtain⟨lM,dD,xs,rfl,hx,I⟩:=bN.open I;refine EN func100 ntmps100 rfl rfl λa E=>?_;refine BX 1 E I λb3 a w E I=>?_;refine RN 6 E I λa E=>?_;replace E:=E.aK 7;refine BY 8 E I (λl5 a E=>?_) λl5 a E=>?_
 ·
  have hm:qf (xs.map c1.m) bs.length=false:=by simp only[qf,bf,Bool.and_eq_false_iff,rO];left;omega
  refine RT 8 E I ?_;exact⟨by rw[hm],by rw[hm,ag (by decide)];exact (bN.shut (q:=q) (ad:=lM) (xs:=xs) I rfl rfl rfl hx.1 hx.2).sub⟩
 refine IF 5 E I (λaj a E=>?_) λaj a E=>?_
 ·
  have hm:qf (xs.map c1.m) bs.length=false:=by simp only[qf,bf,Bool.and_eq_false_iff,rO];right;omega
  refine RT 2 E I ?_;exact⟨by rw[hm],by rw[hm,ag (by decide)];exact (bN.shut (q:=q) (ad:=lM) (xs:=xs) I rfl rfl rfl hx.1 hx.2).sub⟩
 have hm:qf (xs.map c1.m) bs.length=true:=by simp only[qf,bf,fL,qs];omega
 refine a1 1 (λw0 V=>V.cell? ⟨q,0,none⟩=some (.slice lM xs.length dD)) [5,6,7] [0,1,2,3,3004,1005,1006,1007,1008,9,10,1011] E I λa w E I hH=>?_;have hC:=hH.at w (I.bz rfl);refine RH 4 E I hH hC λa E=>?_;refine QH E (λw hc=>ae E (hc)) hC λa E=>?_;refine RH 1 E I hH hC λa E=>?_;refine aX 0 E I (Oe I (λV h=>hr V h.sub) (by omega)) λau c' a w E I=>?_;replace hC:=hH.at w (I.bz rfl);refine RH 0 E I hH hC λa E=>?_;refine cn E rfl I underlying108 Ty.t124 rfl rfl rfl rfl (by decide) (by decide) λJc a w E I ho=>?_;clear ho;replace hC:=hH.at w (I.bz rfl);refine RH 0 E I hH hC λa E=>?_;refine cK E rfl I underlying108 Ty.t124 rfl rfl I.ai rfl (by simp[Value.oneCell']) (by decide) (by decide) (by omega) λMi Mj a w E I=>?_;refine ST 2 E I (λa w E I=>?_);refine RT 2 E I ?_;refine⟨by rw[hm],?_⟩;rw[hm,ak rfl];have h3:=(I.pick (fS xs)).pick (Sl 5 1 au bs.length c' (bc bs));have h4:=fS.Od (a:=xs) (b:=[]) (m:=⟨f,t,au,c',bs⟩) (by rw[append_nil];exact h3);refine (bN.shut (q:=q) (xs:=xs++[⟨f,t,au,c',bs⟩]) (ms:=xs.map c1.m++[(f,t,bs)]) h4 (by simp) (by rw[CH];rfl) (by simp[c1.m]) (by simp;omega) ?_).sub;intro x da;rcases eX.1 da with h | h
 ·exact hx.2 x h
 ·obtain rfl:=iF.1 h;exact Int.ofNat_le.1 aj
theorem acb {W w:World}{L:List SP}{q:Nat}{ms:List pc}{i:Int}(I:U W w (bN q ms::L))(hi:(decide (0≤i)&&decide (i<ms.length))=false) :
   Calls prog 52 #[pt q,.int .i64 i] w λe V=>e=.returned (.tuple #[.agg #[.int .i64 0,.int .i64 0,.slice none 0 0],.bool false])∧U W V (bN q ms::L):=by
 obtain⟨lM,dD,xs,rfl,hx,I⟩:=bN.open I;rw[bf]at hi;refine EN func52 ntmps52 rfl rfl λa E=>?_;refine AL 1 E I λb4 a w E I=>?_;refine CL 5 E I (CI (q:=q) I) λa w E I=>?_;rw[hi]at E;refine RN 1 E I λa E=>?_;replace E:=E.eG 9;refine SA 3 E I λa w E I=>?_;refine RT 1 E I ?_;exact⟨rfl,(bN.shut (q:=q) (ad:=lM) (xs:=xs) I rfl rfl rfl hx.1 hx.2).sub⟩
theorem HD {i n:Nat}(h:i<n):(decide (0≤(i:Int))&&decide ((i:Int)<(n:Int)))=true:=by
 simp;omega
theorem acd {W w:World}{L:List SP}{q:Nat}{ms:List pc}{i:Nat}(I:U W w (bN q ms::L))(hi:i<ms.length) :
   Calls prog 52 #[pt q,.int .i64 i] w λe V=>∃ ad c,e=.returned (.tuple #[.agg #[.int .i64 ms[i].1,.int .i64 ms[i].2.1,.slice ad ms[i].2.2.length c],.bool true])∧U W V (Sl 5 1 ad ms[i].2.2.length c (bc ms[i].2.2)::bN q ms::L):=by
 obtain⟨lM,dD,xs,rfl,hx,I⟩:=bN.open I;have dN:i<xs.length:=by simpa using hi
 simp only[getElem_map,c1.m];refine EN func52 ntmps52 rfl rfl λa E=>?_;refine AL 1 E I λb4 a w E I=>?_;refine CL 5 E I (CI (q:=q) I) λa w E I=>?_;rw[HD dN]at E;refine RN 1 E I λa E=>?_;replace E:=E.aK 9;refine RN 2 E I λa E=>?_;obtain⟨b',dI,rfl,dh⟩:=I.bY lM (by omega);have gO:=HC dh i dN;refine RN 6 E I λa E=>?_;refine SS E (bQ E underlying124 rfl Ty.t124 (gO.1)) λa E=>?_;refine aX 0 E I (Oe I (λV h=>fS.rd h i dN) (by have:=hx.2 xs[i] (iI dN);omega)) λau c' a w E I=>?_;refine SA 0 E I λa w E I=>?_;refine RT 1 E I ?_;exact⟨_,_,rfl,(bN.shut (q:=q) (ad:=some ⟨b',dI,none⟩) (xs:=xs) I rfl rfl rfl hx.1 hx.2).sub⟩
theorem ace (xs:List c1):∀ v∈iU xs,v.oneCell'=true:=by
 intro v hv;simp only[iU,List.mem_flatMap,c1.cells]at hv;obtain⟨x,_,hx⟩:=hv;simp at hx;rcases hx with rfl | rfl | rfl <;> rfl
theorem acf {W w:World}{L:List SP}{q:Nat}{ms:List pc}{i:Nat}(I:U W w (bN q ms::L))(hi:i<ms.length) :
   Calls prog 63 #[pt q,.int .i64 i] w λe V=>e=.returned (.bool true)∧U W V (bN q (ms.eraseIdx i)::L):=by
 obtain⟨lM,dD,xs,rfl,hx,I⟩:=bN.open I;have dN:i<xs.length:=by simpa using hi
 refine EN func63 ntmps63 rfl rfl λa E=>?_;refine CL 6 E I (CI (q:=q) I) λa w E I=>?_;rw[HD dN]at E;refine RN 1 E I λa E=>?_;replace E:=E.aK 8;refine CL 10 E I (ab9 (I.pick (Sl 124 3 lM xs.length dD (iU xs))) dN (by omega) (ace xs)) λa w E I=>?_;refine ST 2 E I (λa w E I=>?_);refine RT 2 E I ?_;refine⟨rfl,?_⟩;have h1:=I.pick (fS xs);have h0:xs=xs.take i++xs[i]::xs.drop (i+1):=by rw[← kA dN,jW]
 have h2:=h1;rw[show fS xs=fS (xs.take i++xs[i]::xs.drop (i+1)) from by rw[← h0]]at h2;have h3:=(fS.out h2).tail;rw[Oc,ab1,← CH,← sR]at h3;exact (bN.shut (q:=q) (ad:=lM) (xs:=xs.eraseIdx i) (ms:=(xs.map c1.m).eraseIdx i) h3 (by rw[List.length_eraseIdx];simp[dN]) rfl (by simp only[sR,cS,map_take,map_drop]) (by rw[List.length_eraseIdx];simp[dN];omega) (λx h=>hx.2 x (mem_of_mem_eraseIdx h))).sub
theorem Oj (bs:List UInt8)(i:Nat)(x:UInt8):(bc bs).set i (.int .u8 (x.toNat:Int))=bc (bs.set i x):=by
 simp[bc,jx]
theorem zL {p q r:List Value}{i:Nat}{v:Value}(h:i<q.length):(p++q++r).set (p.length+i) v=p++q.set i v++r:=by
 rw[dA,vU _ _ (by omega),show p.length+i-p.length=i from by omega,uu _ _ h,dA]
theorem acg {W w:World}{L:List SP}{q:Nat}{ms:List pc}{i:Nat}{aU:Int}{x:UInt8}(I:U W w (bN q ms::L))(hi:i<ms.length) :
   Calls prog 64 #[pt q,.int .i64 i,.int .i64 aU,.int .u8 (x.toNat:Int)] w λe V =>
    e=.returned (.bool (decide (0≤aU)&&decide (aU<ms[i].2.2.length)))∧U W V (bN q (if decide (0≤aU)&&decide (aU<ms[i].2.2.length) then ms.set i (ms[i].1,ms[i].2.1,ms[i].2.2.set aU.toNat (ms[i].2.2.getD aU.toNat 0 ^^^ x)) else ms)::L):=by
 obtain⟨lM,dD,xs,rfl,hx,I⟩:=bN.open I;have dN:i<xs.length:=by simpa using hi
 simp only[getElem_map,c1.m];obtain⟨b',dI,rfl,dh⟩:=I.bY lM (by omega);clear dh;refine EN func64 ntmps64 rfl rfl λa E=>?_;refine CL 6 E I (CI (q:=q) I) λa w E I=>?_;rw[HD dN]at E;refine RN 2 E I λa E=>?_;replace E:=E.aK 13;refine BY 4 E I (λek a E=>?_) λek a E=>?_
 ·
  have hm:(decide (0≤aU)&&decide (aU<xs[i].bs.length))=false:=by rw[bn (by omega),Bool.false_and]
  refine RN 4 E I λa E=>?_;have gO:=HC (I.cJ b' dI (by omega)) i dN;refine RT 11 E I ?_;exact⟨by rw[hm],by rw[hm,ag (by decide)];exact (bN.shut (q:=q) (ad:=some ⟨b',dI,none⟩) (xs:=xs) I rfl rfl rfl hx.1 hx.2).sub⟩
 refine RN 4 E I λa E=>?_;have gO:=HC (I.cJ b' dI (by omega)) i dN;refine RN 4 E I λa E=>?_;refine bu E (cu E rfl (s:=17)) (ae E (gO.2.2.2)) rfl λa E=>?_;refine IF 3 E I (λaj a E=>?_) λaj a E=>?_
 ·
  have hm:(decide (0≤aU)&&decide (aU<xs[i].bs.length))=false:=by rw[bn (p:=aU<xs[i].bs.length) (by omega),Bool.and_false]
  refine RT 2 E I ?_;exact⟨by rw[hm],by rw[hm,ag (by decide)];exact (bN.shut (q:=q) (ad:=some ⟨b',dI,none⟩) (xs:=xs) I rfl rfl rfl hx.1 hx.2).sub⟩
 have hm:(decide (0≤aU)&&decide (aU<xs[i].bs.length))=true:=by simp;omega
 obtain⟨A,rfl⟩:∃ A:Nat,aU=A:=⟨aU.toNat,by omega⟩;have hA:A<xs[i].bs.length:=by omega
 rw[hm,ak rfl,c3];have h1:=I.pick (fS xs);have h0:xs=xs.take i++xs[i]::xs.drop (i+1):=by rw[← kA dN,jW]
 rw[show fS xs=fS (xs.take i++xs[i]::xs.drop (i+1)) from by rw[← h0]]at h1;replace I:=fS.out h1;clear h1;obtain⟨xa,uP⟩:∃ xa,xs[i].ad=xa:=⟨_,rfl⟩;have h2:=I;rw[show xs[i].own=Sl 5 1 xa xs[i].bs.length xs[i].c (bc xs[i].bs) from by rw[← uP];rfl]at h2;have cm:=(h2.sl xa).2;obtain⟨bb,pre,post,⟨h3,h4,h5,h6⟩,gG⟩:=h2.lZ (by omega);rw[h5]at uP;replace I:=gG;clear gG h2;rw[uP]at gO;have hb:(pre++bc xs[i].bs++post)[pre.length+A]?=some (.int .u8 (xs[i].bs[A].toNat:Int)):=by
  rw[dA,pn (by omega),show pre.length+A-pre.length=A from by omega,mv (by rw[dt];exact hA)];simp[bc,hA]
 refine RN 8 E I λa E=>?_;refine SS E (ae E (gO.2.2.2)) λa E=>?_;refine RN 2 E I λa E=>?_;refine SS E (ae E (I.bz hb)) λa E=>?_;refine ST 3 E I (λa w E I=>?_) (hlt:=(by simp only[aN,dt];omega));refine RT 2 E I ?_;refine⟨rfl,?_⟩;rw[zL (by rw[dt];exact hA),Oj]at I;have h7:=U.iY (n:=xs[i].bs.length) (c:=xs[i].c) (sz:=1) (I.jV bb) (by rw[dt,bt,fD]) h4 h6;obtain⟨m',xH⟩:∃ m':c1,m'=⟨xs[i].frm,xs[i].to,xs[i].ad,xs[i].c,xs[i].bs.set A (xs[i].bs[A] ^^^ x)⟩:=⟨_,rfl⟩;have HE:m'.own=Sl 5 1 (some ⟨bb,pre.length,none⟩) xs[i].bs.length xs[i].c (bc (xs[i].bs.set A (xs[i].bs[A] ^^^ x))):=by
  rw[xH,c1.own];simp only[bt,uP]
 rw[← HE]at h7;have h8:=fS.Od (a:=xs.take i) (b:=xs.drop (i+1)) (m:=m') ((h7.pick (fS (xs.take i++xs.drop (i+1)))).pick m'.own);have v7:xs.set i m'=xs.take i++m'::xs.drop (i+1):=by rw[ri,ak dN]
 rw[← v7]at h8;refine (bN.shut (q:=q) (ad:=some ⟨b',dI,none⟩) (xs:=xs.set i m') (ms:=(xs.map c1.m).set i (xs[i].frm,xs[i].to,xs[i].bs.set A (xs[i].bs.getD A 0 ^^^ x))) h8 (by rw[bt]) ?_ ?_ (by rw[bt];exact hx.1) ?_).sub
 ·rw[v7]
  conv=>lhs;rw[h0]
  rw[CH,CH]
  congr 1
  simp only[iU,flatMap_cons]
  congr 1
  rw[xH,c1.cells,c1.cells];simp only[bt]
 ·rw[jx,xH,c1.m,bl,aD hA,Option.getD_some]
 ·intro y hy;rcases qA hy with h | h
  ·exact hx.2 y h
  ·rw[h,xH];simp only[bt];exact hx.2 _ (iI dN)
end
section
theorem ach {l:List Br}{frm:Int}{P:List (List UInt8)}(b:Br)(h:0<(l.foldl (ie frm P) b).done)(hb:b.done=0) :
   l.foldl (ie frm P) b∈l∧(l.foldl (ie frm P) b).done≤P.length∧pH ((l.foldl (ie frm P) b).al.take (l.foldl (ie frm P) b).done) P=true:=by
 have key:∀ (l:List Br) (b:Br),(l.foldl (ie frm P) b=b)∨(l.foldl (ie frm P) b∈l∧(l.foldl (ie frm P) b).done≤P.length∧pH ((l.foldl (ie frm P) b).al.take (l.foldl (ie frm P) b).done) P=true):=by
  intro l
  induction l with
  | nil=>intro b;exact .inl rfl
  | cons y l ih =>
   intro b;rw[foldl_cons];rcases ih (ie frm P b y) with h | ⟨h1,h2,h3⟩
   ·rw[h];unfold ie;split
    ·rename_i hc;exact .inr ⟨jo ..,hc.2.2.1,hc.2.2.2⟩
    ·exact .inl rfl
   ·exact .inr ⟨gU _ h1,h2,h3⟩
 rcases key l b with h1 | h1
 ·rw[h1,hb]at h;omega
 ·exact h1
theorem aci {u P:List (List UInt8)}(hl:u.length≤P.length)(h:pH u P=true):u=P.take u.length:=by
 have h1:=X2.1 h;rw[Nat.min_eq_left hl,k0]at h1;exact h1
theorem Ol (p:Pr):∀ (a b:List (List UInt8)) (fr:Int) (g:Nat→Int),foldI p fr g (a++b)=foldI p (fr+(a.length:Nat)) (foldI p fr g a) b
 | [],b,fr,g=>by simp[foldI]
 | x::a,b,fr,g=>by
  rw[cons_append,foldI,Ol p a b,foldI,fm]
  congr 1;omega
theorem iH.drop {w:World}{ad:Option Addr}{zs:List ef}{d c:Nat}(h:iH w ad zs)(hc:zs.length≤c):iH w (e6 ad d c 1) (zs.drop d):=by
 refine⟨λh0=>?_,λx hx=>h.2 x (List.mem_of_mem_drop hx)⟩;rw[c4]at h0;obtain⟨b,o,rfl,hr⟩:=h.1 (by omega);refine⟨b,o+d*1,po (by omega),λj v hj=>?_⟩;rw[map_drop,pj]at hj;have:=hr _ v hj;rw[fD,Nat.add_assoc];exact this
theorem Om {w:World}{b nk base front:Nat}{p:Pr}{M:jF}(h:Rd w b 0 (dW p M nk base front)):Rd w b 1 (bx p M.an M.cO):=h.part 1 2
theorem acj {p:Pr}{f:Nat}{g:Nat→Int}{P:List (List UInt8)}{d:Nat}(hd:d≤P.length):foldI p ((f+d:Nat):Int) (foldI p (f:Int) g (P.take d)) (P.drop d)=foldI p (f:Int) g P:=by
 have h1:=Ol p (P.take d) (P.drop d) (f:Int) g;rw[jW,dH,Nat.min_eq_left hd]at h1;rw[h1];rfl
section
variable {W w:World}{L:List SP}{n c i N tq sq r base front:Nat}{ad:Option Addr}{M:jF}{B:jk}{p:Pr}{s:Pl}{m:Mu}{A:Sn}{T:Tr}{t:Nat→Nat}{px:aC}
set_option maxHeartbeats 1000000 in
theorem ack (I:U W w (aG W M p m::L))(h:MI p M N m)(a7:dq p)(aE:p.title.size≤1000000000):Calls prog 265 #[pt M.mb] w λr V=>∃ ad c,r=.returned (.tuple #[.slice ad 128 c,.int .i64 (fH p M.B.gs m.s).2])∧U W V (Sl 5 1 ad 128 c (bc (fH p M.B.gs m.s).1)::aG W M p m::L):=by
 have hw:=h.wf;have bT:=hw.wc.lr;have iQ:m.s.k.ls.length≤8:=by rw[hw.wc.ls];exact hw.wc.n.2
 have gS:=hw.wc.lO;have jR:aV m.s.k.ls≤aH m.s.k:=hw.wc.ny;have fI:=h.gs;have fA:=h.front;obtain⟨t,hI⟩:=h.inv;obtain⟨i,px,hQ,lg⟩:=hI.mD (jo ..);have tk:=(hI.base px (bH hQ) lg).1;have lh:=Tree.wt ((aG.open I).tree M.tq);clear h;obtain⟨s,A,T,J,ks,base,front⟩:=m;simp only at hw bT iQ gS jR fA hI hQ lg tk lh;subst fA;refine EN func265 ntmps265 rfl rfl λa E=>?_;refine CL 5 E I (Cg I) λa w E I=>?_;replace I:=aP.open ((aG.open I).pick (aP W M.B p s));dsimp only at I;refine CL 0 E I (tE (I.pick (aA M.B.core s.k)) hw.wc) λa w E I=>?_;refine RN 1 E I λa E=>?_;replace I:=aP.fold I M.B p s;refine a1 2 (λw0 V=>Rd V M.mb 0 (dW p M ks.length base (aw s.k))) [8,9,10] [0,1,2,3,4,5,7,3006,1008,1009,1010,11,12,13,14,15,16,17,1018,19,20] E I λa w E I hH=>?_;have hC:=hH.at w (I.ai (b:=M.mb));refine RH 3 E I hH hC λa E=>?_;replace E:=E.aK 15;refine RH 4 E I hH hC λa E=>?_;refine QH E (λw hc=>ae E (hc 8 _ rfl)) hC λa E=>?_;replace I:=aG.fold I M p ⟨s,A,T,J,ks,base,aw s.k⟩;refine RH 0 E I hH hC λa E=>?_;refine CL 0 E I (Cg I) λa w E I=>?_;replace hC:=hH.at w ((aG.open I).ai (b:=M.mb));replace I:=aP.open ((aG.open I).pick (aP W M.B p s));dsimp only at I;refine RH 0 E I hH hC λa E=>?_;refine CL 0 E I (o5 (I.pick (aA M.B.core s.k))) λa w E I=>?_;replace hC:=hH.at w (I.ai (b:=M.mb));obtain⟨D,I,hD⟩:=aA.qu I;refine RH 0 E I hH hC λa E=>?_;refine CL 0 E I (sf I bT iQ) λa w E I=>?_;replace hC:=hH.at w (I.ai (b:=M.mb));refine RH 1 E I hH hC λa E=>?_;rw[show decide (((aw s.k:Nat):Int)≠((aV s.k.ls:Nat):Int))=false from Kh]at E;refine RH 2 E I hH hC λa E=>?_;replace E:=E.aK 26;refine RH 4 E I hH hC λa E=>?_;refine bu E (cu E rfl (s:=26)) (ae E (hC 8 _ rfl)) rfl λa E=>?_;refine RH 2 E I hH hC λa E=>?_;replace I:=aG.fold (aP.fold (hD _ _ I) M.B p s) M p ⟨s,A,T,J,ks,base,aw s.k⟩;refine IF 0 E I (λaj a E=>?_) λaj a E=>?_
 ·
  refine CL 2 E I (tO I) λa w E I=>?_;replace I:=aG.open I;dsimp only at I;refine aX 0 E I (Nc (I.pick (aP W M.B p s)) hw a7 aE fI) λad c a w E I=>?_;refine RT 4 E I ?_;exact⟨ad,c,rfl,(aG.fold I M p ⟨s,A,T,J,ks,base,aw s.k⟩).sub⟩
 have hhf:aw s.k<aH s.k:=by omega
 refine RN 1 E I λa E=>?_;replace I:=aG.open I;dsimp only at I;refine a1 0 (λw0 V=>Rd V M.mb 0 (dW p M ks.length base (aw s.k))) [1,2] [0,3,4,5,8,3006,1001,1002,1007,1009,10] E I λa w E I hH=>?_;have hC:=hH.at w (I.ai (b:=M.mb));refine RH 5 E I hH hC λa E=>?_;refine QH E (λw hc=>ae E (hc 0 _ rfl)) hC λa E=>?_;replace I:=aG.fold I M p ⟨s,A,T,J,ks,base,aw s.k⟩;refine RH 0 E I hH hC λa E=>?_;refine CL 0 E I (Cg I) λa w E I=>?_;replace hC:=hH.at w ((aG.open I).ai (b:=M.mb));replace I:=aP.open ((aG.open I).pick (aP W M.B p s));dsimp only at I;refine RH 0 E I hH hC λa E=>?_;refine CL 0 E I (o5 (I.pick (aA M.B.core s.k))) λa w E I=>?_;replace hC:=hH.at w (I.ai (b:=M.mb));replace I:=aP.fold I M.B p s;refine RH 0 E I hH hC λa E=>?_;refine CL 0 E I (Nl (I.pick (aP W M.B p s))) λa w E I=>?_;replace I:=aP.open (I.pick (aP W M.B p s));obtain⟨D,I,hD⟩:=aA.qu (I.pick (aA M.B.core s.k));refine j1 0 E I (GN (r:=0) (to:=aH s.k) (.inl rfl) (by decide) I fI bT iQ hw.wc.nx gS (λV dg=>(dg.pick (Sl 5 1 M.B.adT M.B.gs.table.length M.B.cT (bc M.B.gs.table))).cr M.B.adT _ rfl rfl)) λgd gm X a w E ⟨⟨tM,iu⟩,I⟩=>?_;have mU:=iu rfl;subst mU;rw[xt]at I;replace I:=I.sub (M:=Qu M.B.core.qb M.B.core.aB s.k.ls::D::cd gd (aH s.k-aV s.k.ls) gm (dx M.B.gs s.k.ls (aH s.k))::aa M.B.pb 192 (gB p M.B s.g)::az W p M.B.an M.B.cO::Sl 5 1 M.B.adT M.B.gs.table.length M.B.cT (bc M.B.gs.table)::aa M.mb 177 (dW p M ks.length base (aw s.k))::az W p M.an M.cO::Sl 179 1 M.dy ks.length M.dF (gR ks)::ah (fc p M.an M.cO M.tq M.jq M.sq) ks::Tree M.tq M.sq T::ax M.sq M.r A::bL M.jq J::L);replace I:=aG.fold (aP.fold (hD _ _ I) M.B p s) M p ⟨s,A,T,J,ks,base,aw s.k⟩;have hX:(dx M.B.gs s.k.ls (aH s.k)).length=aH s.k-aV s.k.ls:=xe _ _ _;have mX:∀ b∈dx M.B.gs s.k.ls (aH s.k),b.length≤1099511627776:=λb hb=>by
  rw[dx,cV]at hb;obtain⟨i,_,rfl⟩:=hb;rw[nu,ji,bf];omega
 have On:fH p M.B.gs s=(gw (foldI p (aw s.k) s.g (dx M.B.gs s.k.ls (aH s.k))),aH s.k):=by rw[fH,ag (by omega)]
 clear iu tM;generalize dx M.B.gs s.k.ls (aH s.k)=P at I hX mX On;rw[← hX]at E I;rw[On];have Cs:=(cd.le (I.pick (cd gd P.length gm P))).2;refine RN 1 E I λa E=>?_;refine RN 1 E I λa E=>?_;replace I:=aG.open I;dsimp only at I;refine RN 5 E I λa E=>?_;replace I:=aG.fold I M p ⟨s,A,T,J,ks,base,aw s.k⟩;refine CL 0 E I (GR I hQ lg) λa w E I=>?_;refine AL 0 E I λcG a w E I=>?_;change U W w (aa cG 183 (ints .i32 32 (λ_=>0))::_) at I;refine SA 0 E I λa w E I=>?_;refine RN 1 E I λa E=>?_;refine cc (M:=λa w=>∃ (d:Nat) (g1:Nat→Int),(d≤P.length∧foldI p ((aw s.k+d:Nat):Int) g1 (P.drop d)=foldI p (aw s.k:Int) s.g P∧dT g1)∧Fr a 92 [(0,pt M.mb),(4,.int .i64 (aH s.k)),(5,.slice gd P.length gm),(6,pt cG),(7,.int .i64 d)]∧U W w (aa cG 183 (ints .i32 32 g1)::cd gd P.length gm P::aG W M p ⟨s,A,T,J,ks,base,aw s.k⟩::L)) ?_ ?_
 ·
  refine cc (M:=λa w=>∃ (b8:Nat) (ik:Option Addr) (cb:Nat),Fr a 92 [(0,pt M.mb),(4,.int .i64 (aH s.k)),(5,.slice gd P.length gm),(6,pt cG),(7,.int .i64 0),(8,pt b8),(9,.bool (decide (0<(T.fQ (aw s.k:Int) P).done)))]∧U W w (aa b8 238 (cg (T.fQ (aw s.k:Int) P) ik cb)::aa cG 183 (ints .i32 32 s.g)::cd gd P.length gm P::aG W M p ⟨s,A,T,J,ks,base,aw s.k⟩::L)) ?_ ?_
  ·
   refine RN 0 E I λa E=>?_;rw[tk]at I;replace I:=aG.open (I.pick (aG W M p ⟨s,A,T,J,ks,base,aw s.k⟩));dsimp only at I;refine a1 0 (λw0 V=>Rd V M.mb 0 (dW p M ks.length base (aw s.k))) [7,13] [0,1,2,4,5,6,8,3003,3007,2009,10,11,12,1013,1014,15] E I λa w E I hH=>?_;have hC:=hH.at w (I.ai (b:=M.mb));refine RH 7 E I hH hC λa E=>?_;refine QH E (λw hc=>ae E (hc 4 _ rfl)) hC λa E=>?_;refine QH E (λw hc=>ae E (hc 8 _ rfl)) hC λa E=>?_;refine RH 0 E I hH hC λa E=>?_;refine DN [(9,[10,11,12,1013,1014,15]),(13,[1009,10,11,12,1014,15])] (by kernel_rfl) rfl ⟨⟨_,rfl,?_⟩,⟨_,rfl,?_⟩,trivial⟩
   ·
    refine RH 0 E I hH hC λa E=>?_;refine aX 0 E I (J1 (p:=P) (I.tree M.tq) (λV h=>cd.rd (h.pick (cd gd P.length gm P))) Cs ⟨by omega,mX⟩) λik cb a w E I=>?_;refine RN 3 E I λa E=>?_;refine e5 E rfl I Ty.t238 rfl λb8 a w E I ho=>?_;clear ho;replace hC:=hH.at w (I.ai (b:=M.mb));refine RH 0 E I hH hC λa E=>?_;refine SA 0 E I λa w E I=>?_;refine RN 1 E I λa E=>?_;exact⟨_,ik,cb,E.ab [0,4,5,6,7,8,9],(aG.fold I M p ⟨s,A,T,J,ks,base,aw s.k⟩).sub⟩
   refine RH 0 E I hH hC λa E=>?_;refine e5 E rfl I Ty.t238 rfl λb8 a w E I ho=>?_;clear ho;replace hC:=hH.at w (I.ai (b:=M.mb));refine RH 0 E I hH hC λa E=>?_;refine aX 0 E I (J1 (p:=P) (I.tree M.tq) (λV h=>cd.rd (h.pick (cd gd P.length gm P))) Cs ⟨by omega,mX⟩) λik cb a w E I=>?_;refine SA 3 E I λa w E I=>?_;refine RN 1 E I λa E=>?_;exact⟨_,ik,cb,E.ab [0,4,5,6,7,8,9],(aG.fold I M p ⟨s,A,T,J,ks,base,aw s.k⟩).sub⟩
  clear E;(try clear I);rintro a w ⟨b8,ik,cb,E,I⟩;refine IF 2 E I (λao a E=>?_) λao a E=>?_
  ·
   obtain⟨qa,oC,Oo⟩:=ach (l:=T.l) (frm:=(aw s.k:Int)) (P:=P) mH (by simpa [Tr.fQ] using ao) rfl;change T.fQ (aw s.k:Int) P∈T.l at qa;obtain⟨j,pb,HF,Oq⟩:=hI.Kj qa;have acm:=(hI.gk _ qa).2 pb (bH HF) Oq;have acn:=(hI.av pb (bH HF)).2;refine a1 0 (λw0 V=>Rd V b8 0 (cg (T.fQ (aw s.k:Int) P) ik cb)) [3,5,6] [0,1,4,3002,3005,1003,1006,7] E I λa w E I hH=>?_;have hC:=hH.at w (I.ai (b:=b8));refine RH 3 E I hH hC λa E=>?_;refine QH E (λw hc=>ae E (hc 4 _ rfl)) hC λa E=>?_;refine QH E (λw hc=>ae E (hc 3 _ rfl)) hC λa E=>?_;refine RH 0 E I hH hC λa E=>?_;refine CL 0 E I (GR (I.pick (aG W M p ⟨s,A,T,J,ks,base,aw s.k⟩)) HF Oq) λa w E I=>?_;replace hC:=hH.at w (I.ai (b:=b8));refine RH 0 E I hH hC λa E=>?_;refine SA 0 E I λa w E I=>?_;replace hC:=hH.at w (I.ai (b:=b8));refine RH 1 E I hH hC λa E=>?_;change (T.fQ (aw s.k:Int) P).done≤P.length at oC;change pH ((T.fQ (aw s.k:Int) P).al.take (T.fQ (aw s.k:Int) P).done) P=true at Oo;have dj:=(lh.ok _ qa).2.1;generalize T.fQ (aw s.k:Int) P=bb at *;have e1:bb.al.take bb.done=P.take bb.done:=by
    have:=aci (u:=bb.al.take bb.done) (P:=P) (by rw[dH];omega) Oo
    rwa [dH,Nat.min_eq_left dj]at this
   exact⟨bb.done,pb.g,⟨oC,by rw[acm,e1];exact acj oC,acn⟩,E.ab [0,4,5,6,7],I.sub⟩
  refine RN 0 E I λa E=>?_;exact⟨0,s.g,⟨Nat.zero_le _,rfl,hw.p5 a7⟩,E.ab [0,4,5,6,7],I.sub⟩
 clear E;(try clear I);rintro a w ⟨d,g1,⟨mL,Cy,aco⟩,E,I⟩;refine RN 1 E I λa E=>?_;replace I:=aG.open (I.pick (aG W M p ⟨s,A,T,J,ks,base,aw s.k⟩));dsimp only at I;obtain⟨zs,cv,ew,I⟩:=cd.open (I.pick (cd gd P.length gm P));have jt:zs.length=P.length:=by rw[← cv,bf]
 refine a1 0 (λw0 V=>Rd V M.mb 0 (dW p M ks.length base (aw s.k))∧Rd V cG 0 (ints .i32 32 g1)) [4,8,10] [0,1,2,5,6,7,9,11,12,13,16,3003,3004,1008,1010,1014,1015,17,18] E I λa w E I hH=>?_;have hC:=hH.at w ⟨I.ai (b:=M.mb),I.ai (b:=cG)⟩;refine RH 10 E I hH hC λa E=>?_;rw[show P.length-d=(P.drop d).length from (c4 ..).symm]at E;refine RH 1 E I hH hC λa E=>?_;refine QH E (λw hc=>bQ E underlying45 rfl Ty.t45 (Om hc.1)) hC λa E=>?_;refine QH E (λw hc=>bQ E underlying183 rfl Ty.t183 (hc.2)) hC λa E=>?_;refine RH 0 E I hH hC λa E=>?_;refine SS E (ae E (hC.1 8 _ rfl)) λa E=>?_;refine RH 1 E I hH hC λa E=>?_;rw[show ((aw s.k:Nat):Int)+(d:Int)=((aw s.k+d:Nat):Int) from rfl]at E;refine CL 0 E I (MK (P:=P.drop d) (zs:=zs.drop d) (fr:=((aw s.k+d:Nat):Int)) (I.pick (az W p M.an M.cO)) a7 aE aco ⟨by rw[c4];omega,λb hb=>mX b (List.mem_of_mem_drop hb)⟩ ⟨by omega,by have:aw s.k≤1000:=gC jR gS;omega⟩ (by rw[map_drop,cv]) (λV h=>(U.mB (h.sub (M:=Sl 22 1 gd P.length gm (zs.map aM)::ah ba zs::[]))).drop (by omega))) λa w E I=>?_;refine aX 0 E I (y9 I) λad2 c2 a w E I=>?_;refine RN 2 E I λa E=>?_;refine RT 0 E I ?_;rw[Cy]at I;exact⟨ad2,c2,rfl,(aG.fold I M p ⟨s,A,T,J,ks,base,aw s.k⟩).sub⟩
end
end
section
section
variable {W w:World}{L:List SP}{n c cP cT nb nw rm me aJ bo:Nat}{adP adT:Option Addr}{M:jF}{B:jk}{x:UInt8}{p:Pr}{s:Pl}{m:Mu}{tb:List UInt8}{cf:Cf}{y id a8 order cw workers room:Int}
set_option maxHeartbeats 1000000 in
theorem acp (I:U W w (az W p adP cP::L))(hm:ft ⟨n,me,id,aJ,bo,a8,order,nb,nw,rm⟩)(a7:dq p)(fI:cY ⟨a8,order,tb⟩)(aE:p.title.size≤1000000000)(dO:p.ops.length≤1000000000)(eU:tb.length≤1099511627776)(hT:∀ V,U W V (az W p adP cP::L)→aL V adT tb.length tb) :
   Calls prog 59 #[.agg (bV ⟨n,me,id,aJ,bo,a8,order,nb,nw,rm⟩).toArray,.agg (bx p adP cP).toArray,.slice adT tb.length cT] w λr V=>∃ (M:jF) (m:Mu),r=.returned (.tuple #[pt M.mb,.int .i64 0]) ∧
    (M.B.gs=⟨a8,order,tb⟩∧m.s=eM p ⟨n,me,id,aJ,bo,a8,order,nb,nw,rm⟩∧MI p M 1 m∧m.T.l=[]∧m.J=[]∧∀ k∈m.ks,k.1=la)∧U W V (aG W M p m::az W p adP cP::L):=by
 obtain⟨cf,dd⟩:∃ cf:Cf,cf=⟨n,me,id,aJ,bo,a8,order,nb,nw,rm⟩:=⟨_,rfl⟩;have cF:=hm;simp only[ft,dE]at cF;obtain⟨⟨h1,h2,h3⟩,⟨h4,h5,h6,h7⟩,h8,h9,fP,m9⟩:=cF;rw[← dd];refine EN func59 ntmps59 rfl rfl λa E=>?_;refine BX 1 E I λb3 a w E I=>?_;change U W w (aa b3 28 (bV cf)::_) at I;refine BX 0 E I λb4 a w E I=>?_;change U W w (aa b4 45 (bx p adP cP)::_) at I;refine RN 6 E I λa E=>?_;rw[dd]at E;refine aW 0 E I (Nf (tb:=tb) (I.pick (az W p adP cP)) hm a7 fI aE dO eU (λV hw=>hT V hw.sub)) λB a w E ⟨Ot,I⟩=>?_;rw[← dd]at I;refine RN 9 E I λa E=>?_;replace E:=E.aK 19;refine RN 2 E I λa E=>?_;replace I:=I.bR 114 4 none;rw[bx]at I;refine RN 2 E I λa E=>?_;refine g3 E rfl I underlying43 Ty.t114 rfl rfl (by decide) (λh0=>(I.pick (az W p adP cP)).rN adP h0) (by rw[iG te]) (An J5 _) (by omega) λgz gA a w E I=>?_;rw[nil_append,ep]at I;rw[ep]at E;refine ST 1 E I (λa w E I=>?_);refine RN 1 E I λa E=>?_;replace I:=(I.pick (Sl 114 4 gz p.ops.length gA (rows c6 p.ops))).AV;refine a1 0 (λw0 V=>Rd V b3 0 (bV cf)∧Rd V b4 0 [.string p.title,.slice gz p.ops.length gA]) [3,4,5] [0,2,3001,1003,1004,1005,6,1007,8] E I λa w E I hH=>?_;have hC:=hH.at w ⟨I.ai (b:=b3),I.ai (b:=b4)⟩;refine RH 2 E I hH hC λa E=>?_;refine QH E (λw hc=>bQ E underlying45 rfl Ty.t45 (hc.2)) hC λa E=>?_;refine RH 0 E I hH hC λa E=>?_;refine SS E (ae E (hC.1 9 _ rfl)) λa E=>?_;rw[show cf.room=(rm:Int) from by rw[dd]]at E;refine RH 0 E I hH hC λa E=>?_;refine aX 0 E I (Vu (n:=rm) I (by omega)) λsq r a w E I=>?_;replace hC:=hH.at w ⟨I.ai (b:=b3),I.ai (b:=b4)⟩;refine RH 0 E I hH hC λa E=>?_;refine aW 0 E I (Wa I) λjq a w E I=>?_;replace hC:=hH.at w ⟨I.ai (b:=b3),I.ai (b:=b4)⟩;refine RH 1 E I hH hC λa E=>?_;refine x4 E rfl I rfl λgK a w E I ho=>?_;clear ho;change U W w (aa gK 177 [pt B.pb,.string p.title,.slice gz p.ops.length gA,pt sq,.pointer none,pt jq,.slice none 0 0,.int .i64 0,.int .i64 0]::_) at I;refine RN 1 E I λa E=>?_;refine a1 1 (λw0 V=>Rd V b3 0 (bV cf)∧V.cell? ⟨gK,3,none⟩=some (pt sq)) [6] [0,1,2,3,5,3004,1006,1007,8,9,1010] E I λa w E I hH=>?_;have hC:=hH.at w ⟨I.ai (b:=b3),(I.ai (b:=gK)) 3 _ rfl⟩;refine RH 5 E I hH hC λa E=>?_;refine QH E (λw hc=>ae E (hc.2)) hC λa E=>?_;refine RH 0 E I hH hC λa E=>?_;refine SS E (ae E (hC.1 7 _ rfl)) λa E=>?_;rw[show cf.cw=(nb:Int) from by rw[dd]]at E;refine RH 0 E I hH hC λa E=>?_;refine aW 0 E I (VE (m:=(nb:Int)) I) λtq a w E I=>?_;rw[show (min (max (nb:Int) 0) 8).toNat=nb from by omega]at I;refine ST 2 E I (λa w E I=>?_);refine RN 3 E I λa E=>?_;refine SS E (ae E ((I.ai (b:=b3)) 8 _ rfl)) λa E=>?_;rw[show cf.workers=(nw:Int) from by rw[dd]]at E;refine RN 1 E I λa E=>?_;refine aQ (λμ a w=>∃ (ks:List Kx) (dy:Option Addr) (dF:Nat),(μ=nw-ks.length∧ks.length≤nw∧(∀ k∈ks,k.1=la))∧Fr a 93 [(3,pt b3),(8,pt B.pb),(10,pt gK),(44,.int .i64 nw),(45,.int .i64 ks.length)]∧U W w (aa gK 177 (dW p ⟨gK,B,sq,r,tq,jq,dy,dF,gz,gA⟩ ks.length 0 0)::Sl 179 1 dy ks.length dF (gR ks)::ah (fc p gz gA tq jq sq) ks::aa b3 28 (bV cf)::aP W B p (eM p cf)::az W p gz gA::az W p adP cP::Tree tq sq ⟨nb,[],0,0⟩::ax sq r ⟨0,4*rm,0,[]⟩::bL jq []::L)) (nw) (⟨[],none,0,⟨by simp,by simp,λk hk=>by cases hk⟩,E.ab [3,8,10,44,45],(show U W w (Sl 179 1 none ([]:List Kx).length 0 (gR [])::ah (fc p gz gA tq jq sq) []::aa gK 177 (dW p ⟨gK,B,sq,r,tq,jq,none,0,gz,gA⟩ ([]:List Kx).length 0 0)::_) from (I.iZ (f:=fc p gz gA tq jq sq)).bR 179 1 none).sub⟩) ?_;clear E I;rintro μ a w ⟨ks,dy,dF,⟨rfl,dS,zM⟩,E,I⟩;refine IF 3 E I (λao a E=>?_) λao a E=>?_
 ·
  refine a1 1 (λw0 V=>Rd V gK 0 (dW p ⟨gK,B,sq,r,tq,jq,dy,dF,gz,gA⟩ ks.length 0 0)) [8,12,16,20,21,22] [0,1,2,3,5,6,7,9,10,11,13,14,15,17,18,19,3004,3008,3012,3016,1020,1021,1022,1023,24,25,1026] E I λa w E I hH=>?_;have hC:=hH.at w (I.ai (b:=gK));refine RH 16 E I hH hC λa E=>?_;refine QH E (λw hc=>ae E (hc 6 _ rfl)) hC λa E=>?_;refine QH E (λw hc=>bQ E underlying45 rfl Ty.t45 (Om hc)) hC λa E=>?_;refine QH E (λw hc=>ae E (hc 4 _ rfl)) hC λa E=>?_;refine QH E (λw hc=>ae E (hc 5 _ rfl)) hC λa E=>?_;refine RH 0 E I hH hC λa E=>?_;refine SS E (ae E (hC 3 _ rfl)) λa E=>?_;refine RH 0 E I hH hC λa E=>?_;refine aW 0 E I (X6 I) λwb a w E I=>?_;replace hC:=hH.at w (I.ai (b:=gK));refine RH 0 E I hH hC λa E=>?_;refine cn E rfl I underlying175 Ty.t179 rfl rfl rfl rfl (by decide) (by decide) λb69 a w E I ho=>?_;clear ho;replace hC:=hH.at w (I.ai (b:=gK));refine RH 0 E I hH hC λa E=>?_;refine cK E rfl I underlying175 Ty.t179 rfl rfl I.ai rfl (by simp[Value.oneCell']) (by decide) (by decide) (by omega) λvB vC a w E I=>?_;refine ST 2 E I (λa w E I=>?_);have pQ:U W w (aa gK 177 (dW p ⟨gK,B,sq,r,tq,jq,vB,vC,gz,gA⟩ (ks++[(la,wb)]).length 0 0)::Sl 179 1 vB (ks++[(la,wb)]).length vC (gR (ks++[(la,wb)]))::aa wb 247 (cy p gz gA tq jq sq la)::ah (fc p gz gA tq jq sq) ks::aa b3 28 (bV cf)::aP W B p (eM p cf)::az W p gz gA::az W p adP cP::Tree tq sq ⟨nb,[],0,0⟩::ax sq r ⟨0,4*rm,0,[]⟩::bL jq []::L):=by
   have e1:(ks++[(la,wb)]).length=ks.length+1:=by simp
   have e2:gR (ks++[(la,wb)])=gR ks++[pt wb]:=by simp[gR]
   rw[e1,e2];change U W w (aa gK 177 (dW p ⟨gK,B,sq,r,tq,jq,vB,vC,gz,gA⟩ (ks.length+1) 0 0)::Sl 179 1 vB (ks.length+1) vC (gR ks++[pt wb])::_) at I;exact I.sub
  have Ou:=U.jY (f:=fc p gz gA tq jq sq) (x:=(la,wb)) (l:=ks) (pQ.sub (M:=aa wb 247 (cy p gz gA tq jq sq la)::ah (fc p gz gA tq jq sq) ks::aa gK 177 (dW p ⟨gK,B,sq,r,tq,jq,vB,vC,gz,gA⟩ (ks++[(la,wb)]).length 0 0)::Sl 179 1 vB (ks++[(la,wb)]).length vC (gR (ks++[(la,wb)]))::aa b3 28 (bV cf)::aP W B p (eM p cf)::az W p gz gA::az W p adP cP::Tree tq sq ⟨nb,[],0,0⟩::ax sq r ⟨0,4*rm,0,[]⟩::bL jq []::L));replace I:=Ou;clear pQ Ou;refine RN 2 E I λa E=>?_;have acq:(ks++[(la,wb)]).length=ks.length+1:=by simp
  refine⟨nw-(ks.length+1),by omega,ks++[(la,wb)],vB,vC,⟨by omega,by omega,λk hk=>?_⟩,?_,I.sub⟩
  ·rcases eX.1 hk with hk | hk
   ·exact zM k hk
   ·rw[iF.1 hk]
  ·rw[acq];exact E.ab [3,8,10,44,45]
 refine a1 1 (λw0 V=>Rd V gK 0 (dW p ⟨gK,B,sq,r,tq,jq,dy,dF,gz,gA⟩ ks.length 0 0)) [6] [0,1,2,3,5,3004,1006,1007,8,9,10,11,12,1013] E I λa w E I hH=>?_;have hC:=hH.at w (I.ai (b:=gK));refine RH 5 E I hH hC λa E=>?_;refine QH E (λw hc=>ae E (hc 3 _ rfl)) hC λa E=>?_;refine RH 0 E I hH hC λa E=>?_;refine CL 0 E I (Nk (I.pick (aP W B p (eM p cf)))) λa w E I=>?_;replace hC:=hH.at w (I.ai (b:=gK));refine RH 0 E I hH hC λa E=>?_;refine aW 0 E I (JN (g:=(eM p cf).g) (I.store sq) (by simp[Sn.used,Vt];omega) (by simp)) λt a w E ⟨⟨ht1,GU⟩,I⟩=>?_;refine ST 5 E I (λa w E I=>?_);refine RN 3 E I λa E=>?_;refine SS E (ae E ((I.ai (b:=b3)) 3 _ rfl)) λa E=>?_;rw[show cf.aJ=(aJ:Int) from by rw[dd]]at E;refine ST 2 E I (λa w E I=>?_);change U W w (aa gK 177 (dW p ⟨gK,B,sq,r,tq,jq,dy,dF,gz,gA⟩ ks.length 1 aJ)::_) at I;refine RT 4 E I ?_;obtain rfl:ks.length=nw:=by omega
 have vD:=aG.fold I ⟨gK,B,sq,r,tq,jq,dy,dF,gz,gA⟩ p ⟨eM p cf,(⟨0,4*rm,0,[]⟩:Sn).add (eM p cf).g t,⟨nb,[],0,0⟩,[],ks,1,aJ⟩;refine⟨⟨gK,B,sq,r,tq,jq,dy,dF,gz,gA⟩,⟨eM p cf,(⟨0,4*rm,0,[]⟩:Sn).add (eM p cf).g t,⟨nb,[],0,0⟩,[],ks,1,aJ⟩,rfl,⟨Ot,rfl,?_,rfl,rfl,zM⟩,vD.sub⟩;obtain⟨ps,ev,mr,hk⟩:∃ ps ev mr,(eM p cf).k={ fv cf with ps:=ps,ev:=ev,mr:=mr }:=(xk (p:=p) (c:=cf) (by rw[dd];exact hm)).eL.2.2;have HG:cx p (eM p cf):=cx.new (by rw[dd];exact hm);have hfd:aw (eM p cf).k=aJ:=by
  obtain⟨l,k7,mF⟩:=BM HG.wc.lr;rw[aw,mF];rw[hk]at k7;have hl3:l∈List.replicate cf.n.toNat (List.replicate cf.aJ.toNat 0):=k7;rw[(List.mem_replicate.1 hl3).2,kC,dd];rfl
 have bX:∀ k∈ks.map (·.1),k=la:=λk hk=>by
  obtain⟨y,hy,rfl⟩:=cV.1 hk;exact zM y hy
 exact { wf:=HG,gs:=by rw[Ot];exact fI,front:=hfd.symm,gk:=λy hy=>(by cases hy),J:=by simp,most:=by rw[hk,dd];rfl,workers:=by rw[hk,dd];rfl,ks:=by dsimp only;omega,room:=⟨by rw[hk,dd];simp only[Sn.add,fv];omega,by simp only[Sn.add];omega⟩,n:=⟨bh _,Nat.zero_le _,Nat.zero_le _⟩,inv:=⟨t,by
  refine⟨?_,λx hx=>?_,λx hx _=>?_,λy hy=>(by cases hy),λk hk=>?_⟩
  ·rw[Nm (λk hk=>by rw[bX k hk];rfl)];exact lA _
  ·rw[iF.1 hx];exact⟨rfl,HG.p5 a7⟩
  ·rw[iF.1 hx];exact⟨rfl,rfl⟩
  ·rw[bX k hk];exact⟨Int.le_refl _,λh=>(by cases h)⟩⟩ }
end
end
end Go.Proofs.YteoldcfapaiobaaGreat
