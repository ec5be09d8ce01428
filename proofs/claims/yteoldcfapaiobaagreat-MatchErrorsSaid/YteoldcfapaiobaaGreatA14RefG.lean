/- quintainref21.Player. -/
import Derived.Test.YteoldcfapaiobaaGreatA13RefC
import Derived.Test.YteoldcfapaiobaaGreatA12Mul
import Derived.Test.YteoldcfapaiobaaGreatA10Core
namespace Go.Proofs.YteoldcfapaiobaaGreat
open Tryz
open List (mem_cons_self length_range take_succ_cons getElem?_drop set_eq_take_append_cons_drop perm_middle getElem?_append_right drop_left take_zero foldl_cons nil_append map_cons set_append_right set_append_left mem_range drop_eq_nil_of_le getElem_map eraseIdx_eq_take_drop_succ cons_append take_length append_nil mem_or_eq_of_mem_set getElem_mem map_take map_drop mem_singleton foldl_append length_filter_le flatMap_cons)
open Go.RowKit
set_option linter.unusedVariables false
set_option linter.unusedSimpArgs false
set_option maxRecDepth 10000
set_option synthInstance.maxSize 4000
set_option synthInstance.maxHeartbeats 400000
section
structure fT where
 pb:Nat
 core:ou
 ao:Option Addr
 cO:Nat
 adT:Option Addr
 cT:Nat
 gs:Gs
abbrev eR (p:Pr)(B:fT)(g:Nat→Int):List Value:=[pt B.core.cb,.string p.title,.slice B.ao p.ops.length B.cO,.int .i64 B.gs.kind,.int .i64 B.gs.order,.slice B.adT B.gs.table.length B.cT]++ints .i32 32 g
theorem L9 {w:World}{b:Nat}{p:Pr}{B:fT}{g:Nat→Int}(h:Rd w b 0 (eR p B g)):Rd w b 1 (bJ p B.ao B.cO):=h.part 1 2
theorem aag {w:World}{b:Nat}{p:Pr}{B:fT}{g:Nat→Int}(h:Rd w b 0 (eR p B g)):Rd w b 3 (dk B.gs B.adT B.cT):=h.part 3 3
theorem AH {w:World}{b:Nat}{p:Pr}{B:fT}{g:Nat→Int}(h:Rd w b 0 (eR p B g)):Rd w b 6 (ints .i32 32 g):=by
 have h1:=h.part 6 32
 rwa [show ((eR p B g).drop 6).take 32=ints .i32 32 g from by
  show (ints .i32 32 g).take 32=_;exact fX (by rw[di];exact bh _)]at h1
theorem Ma (p:Pr)(B:fT)(g:Nat→Int):(eR p B g).length=38:=by rw[eR,aK,di];rfl
theorem aah (p:Pr)(B:fT)(g g':Nat→Int):cC (eR p B g) 6 (ints .i32 32 g')=eR p B g':=by
 rw[cC,di,drop_eq_nil_of_le (by rw[Ma];exact bh _),append_nil,eR,eR]
 congr 1
def bT (W:World)(B:fT)(p:Pr)(s:Pl):SP:=λh=>ck [aa B.pb 51 (eR p B s.g),aW B.core s.k,aA W p B.ao B.cO] h
section
variable {W w:World}{L R:List SP}{n c i cP cT:Nat}{ad adP adT:Option Addr}{B:fT}{x:UInt8}{p:Pr}{s:Pl}{bs tb:List UInt8}{k:Ks}{C:ou}{A:mo}
theorem bT.open (I:V W w (bT W B p s::L)):V W w (aa B.pb 51 (eR p B s.g)::aW B.core s.k::aA W p B.ao B.cO::L) :=
 I.open (M:=[_,_,_]) λ_ h=>h
theorem bT.fold (I:V W w L)(B:fT)(p:Pr)(s:Pl)[kk:fD L [aa B.pb 51 (eR p B s.g),aW B.core s.k,aA W p B.ao B.cO] R]:V W w (bT W B p s::R) :=
 V.shut (M:=[_,_,_]) (I.perm kk.perm) λ_ h=>h
theorem Fx (I:V W w (bG C.lb C.lo C.cL k.ls::aa C.cb 72 (cZ k C A)::L))(hk:WC k):Calls prog 19 #[pt C.cb] w λr w'=>r=.returned (.int .i64 (ax k))∧V W w' (bG C.lb C.lo C.cL k.ls::aa C.cb 72 (cZ k C A)::L):=by
 have hn:=hk.n;have ff:=hk.ls;refine EN func19 ntmps19 rfl rfl λa E=>?_;refine RN 7 E I λa E=>?_;obtain⟨xs,a8,I⟩:=bG.open I;have ch:xs.length=k.ls.length:=by rw[← a8,gM]
 rw[← ch]at E;refine CL 0 E I (E6 (xs:=xs) I (by omega) (by omega) (λw' hw=>V.ov hw)) λa w E I=>?_;refine RT 1 E I ?_;exact⟨by rw[a8];rfl,bG.close I a8⟩
theorem Fy (I:V W w (bT W B p s::L))(hw:WP p s)(aZ:dj p)(aE:p.title.size≤1000000000):Calls prog 66 #[pt B.pb] w λr w'=>r=.returned (.tuple #[])∧V W w' (bT W B p (ey p s)::L):=by
 refine EN func66 ntmps66 rfl rfl λa E=>?_;refine RN 0 E I λa E=>?_;refine aS (λμ a w=>∃ (i:Nat),(μ=ax s.k-s.k.mr.length-i∧i≤ax s.k-s.k.mr.length)∧Fr a 60 [(0,pt B.pb)]∧V W w (bT W B p (ik p i s)::L)) (ax s.k-s.k.mr.length) (⟨0,⟨rfl,by omega⟩,E.ab [0],I⟩) ?_;clear E I;rintro μ a w ⟨i,⟨rfl,hi⟩,E,I⟩;obtain⟨jZ,ff,lR⟩:=hw.p6 i hi;have e8:ik p (i+1) s=nr p (ik p i s):=Ee p i s;have B4:=hw.low;have u6:ax (ik p i s).k=ax s.k:=by rw[ax,ff];rfl
 generalize E0:ik p i s=si at I jZ ff lR e8 u6;replace I:=bT.open I;have bN:=jZ.wc.kL;have iz:si.k.ls.length≤8:=by rw[jZ.wc.ls];exact jZ.wc.n.2
 have v8:0<si.k.ls.length:=by rw[jZ.wc.ls];have:=jZ.wc.n;omega
 have YI:ax si.k≤1000:=gO jZ.wc.nq jZ.wc.lG;obtain⟨A,I⟩:=aW.open (I.pick (aW B.core si.k));refine aY 2 (λw0 w'=>Rd w' B.pb 0 (eR p B si.g)∧Rd w' B.core.cb 0 (cZ si.k B.core A)) [11,12] [0,1,2,8,9,10,3003,4,5,3006,7,1011,1012,13] E I λa w E I hH=>?_;have U:=hH.at w ⟨I.ai (b:=B.pb),I.ai (b:=B.core.cb)⟩;refine RH 6 E I hH U λa E=>?_;refine QH E (λw hc=>ag E (hc.1 0 _ rfl)) U λa E=>?_;refine RH 2 E I hH U λa E=>?_;refine QH E (λw hc=>ag E (hc.2 16 _ rfl)) U λa E=>?_;refine RH 1 E I hH U λa E=>?_;refine SS E (ag E (U.1 0 _ rfl)) λa E=>?_;refine RH 0 E I hH U λa E=>?_;refine CL 0 E I (Fx ((I.pick (aa B.core.cb 72 (cZ si.k B.core A))).pick (bG B.core.lb B.core.lo B.core.cL si.k.ls)) jZ.wc) λa w E I=>?_;replace U:=hH.at w ⟨I.ai (b:=B.pb),I.ai (b:=B.core.cb)⟩;refine RH 1 E I hH U λa E=>?_;refine IF 0 E I (λaj a E=>?_) λaj a E=>?_
 ·
  have pS:si.k.mr.length<aU si.k.ls:=by
   have:aU si.k.ls=ax si.k:=rfl;omega
  have YJ:si.k.mr.length<ax si.k:=pS;refine RN 11 E I λa E=>?_;obtain⟨xs,a8,I⟩:=bG.open (I.pick (bG B.core.lb B.core.lo B.core.cL si.k.ls));have ch:xs.length=si.k.ls.length:=by rw[← a8,gM]
  have eO:=mW si.k.ls si.k.mr.length;refine aY 0 (λw0 w'=>Rd w' B.pb 0 (eR p B si.g)∧Rd w' B.core.cb 0 (cZ si.k B.core A)) [8,13,14,15,16,18] [0,1,2,3,5,6,7,9,10,11,12,17,3004,3008,1013,1014,1015,1016,1018,1019,20,21,22,23,24,1025] E I λa w E I hH=>?_;have U:=hH.at w ⟨I.ai (b:=B.pb),I.ai (b:=B.core.cb)⟩;refine RH 12 E I hH U λa E=>?_;refine QH E (λw hc=>bO E underlying45 rfl Ty.t45 (L9 hc.1)) U λa E=>?_;refine QH E (λw hc=>bO E underlying49 rfl Ty.t49 (AH hc.1)) U λa E=>?_;refine RH 0 E I hH U λa E=>?_;refine SS E (ag E (U.1 0 _ rfl)) λa E=>?_;refine RH 2 E I hH U λa E=>?_;refine SS E (ag E (U.2 10 _ rfl)) λa E=>?_;rw[← ch]at E;refine RH 0 E I hH U λa E=>?_;refine a2 0 E I (Zc (xs:=xs) (f:=si.k.mr.length) I (by omega) (by omega) (λw' hw=>V.ov hw) (by rw[a8];exact pS)) λiB jf a w E I=>?_;replace U:=hH.at w ⟨I.ai (b:=B.pb),I.ai (b:=B.core.cb)⟩;rw[a8]at E I;refine RH 0 E I hH U λa E=>?_;refine bd 0 E I (Dc (b:=cp si.k.ls si.k.mr.length) (fr:=si.k.mr.length) (I.pick (aA W p B.ao B.cO)) aZ aE (jZ.ph aZ) (by omega) (by omega) (λw' hw=>(hw.pick (Sl 5 1 iB (cp si.k.ls si.k.mr.length).length jf (bc (cp si.k.ls si.k.mr.length)))).cF iB _ rfl rfl)) λnst a w E ⟨o8,I⟩=>?_;refine RN 5 E I λa E=>?_;refine qj E rfl I Ty.t49 td (by rw[di,Ma];decide) λa w E I=>?_;rw[aah]at I;refine RN 0 E I λa E=>?_;replace I:=bG.close (I.sub (M:=Sl 65 1 (some ⟨B.core.lb,B.core.lo,none⟩) si.k.ls.length B.core.cL (xs.map aI)::ah a7 xs::aa B.pb 51 (eR p B (eY p si.k.mr.length (cp si.k.ls si.k.mr.length) si.g))::aA W p B.ao B.cO::aa B.core.cb 72 (cZ si.k B.core A)::aa B.core.hb 3 (e5 si.k.ps)::aa B.core.dW 3 (eQ si.k.ps)::aa B.core.wb 313 (rows e7 si.k.ps)::aa B.core.xb 4 (e6 si.k.ps)::Sl 100 1 A.cj si.k.mr.length A.cM (c6 si.k.mr)::Sl 102 3 A.adE si.k.ev.length A.cE (rows bS si.k.ev)::L)) a8;replace I:=aW.fold I B.core si.k A;refine aY 0 (λw0 w'=>Rd w' B.pb 0 (eR p B (eY p si.k.mr.length (cp si.k.ls si.k.mr.length) si.g))) [7,8] [0,1,2,4,5,6,3003,1007,1008,1009] E I λa w E I hH=>?_;have U:=hH.at w (I.ai (b:=B.pb));refine RH 6 E I hH U λa E=>?_;refine QH E (λw hc=>ag E (hc 0 _ rfl)) U λa E=>?_;refine RH 0 E I hH U λa E=>?_;refine SS E (bO E underlying49 rfl Ty.t49 (AH U)) λa E=>?_;refine RH 0 E I hH U λa E=>?_;refine CL 0 E I (Xm I) λa w E I=>?_;replace U:=hH.at w (I.ai (b:=B.pb));refine RH 0 E I hH U λa E=>?_;refine CL 0 E I (ZR (I.pick (aW B.core si.k)) jZ.wc (by omega) (Dk _)) λa w E I=>?_;refine RN 0 E I λa E=>?_;exact⟨ax s.k-s.k.mr.length-(i+1),by omega,i+1,⟨rfl,by omega⟩,E.ab [0],by
   rw[e8];show V W w (bT W B p ⟨k7 si.k (iZ (gh (eY p si.k.mr.length (cp si.k.ls si.k.mr.length) si.g))),eY p si.k.mr.length (cp si.k.ls si.k.mr.length) si.g⟩::L);exact (bT.fold I B p ⟨k7 si.k (iZ (gh (eY p si.k.mr.length (cp si.k.ls si.k.mr.length) si.g))),eY p si.k.mr.length (cp si.k.ls si.k.mr.length) si.g⟩).sub⟩
 refine RT 0 E I ?_;obtain rfl:i=ax s.k-s.k.mr.length:=by
  have:aU si.k.ls=ax si.k:=rfl;omega
 refine⟨rfl,?_⟩;rw[ey,E0];exact (bT.fold (aW.fold I B.core si.k A) B p si).sub
theorem aai (I:V W w (bT W B p s::L))(hw:cx p s)(aZ:dj p)(aE:p.title.size≤1000000000):Calls prog 71 #[pt B.pb,.int .u8 (x.toNat:Nat)] w λr w'=>r=.returned (.int .i64 (dI p x s).1)∧V W w' (bT W B p (dI p x s).2::L):=by
 have h1:=tX x s.k;have kY:=hw.toWP.more (hw.wc.ak x) (hw.held.ak x) h1.1 h1.2;replace I:=bT.open I;refine EN func71 ntmps71 rfl rfl λa E=>?_;refine CL 8 E I (ZU (x:=x) (I.pick (aW B.core s.k)) hw.wc) λa w E I=>?_;refine RN 1 E I λa E=>?_;replace I:=bT.fold I B p ⟨(c3 x s.k).2,s.g⟩;refine CL 2 E I (Fy I kY aZ aE) λa w E I=>?_;refine RT 3 E I ?_;exact⟨rfl,I⟩
theorem aaj (I:V W w (bT W B p s::L))(hw:cx p s)(aZ:dj p)(aE:p.title.size≤1000000000)(hb:bs.length≤65536)(hc:bs.length≤c)(hp:∀ w',V W w' L→a6 w' ad bs.length bs) :
   Calls prog 110 #[pt B.pb,.slice ad bs.length c] w λr w'=>r=.returned (.int .i64 (dJ p bs s).1)∧V W w' (bT W B p (dJ p bs s).2::L):=by
 have h1:=q6 bs s.k;have kY:=hw.toWP.more (hw.wc.recv bs).1 ((hw.wc.recv bs).2 hw.held) h1.1 h1.2;replace I:=bT.open I;refine EN func110 ntmps110 rfl rfl λa E=>?_;refine CL 8 E I (aae (bs:=bs) (ad:=ad) (c:=c) (I.pick (aW B.core s.k)) hw.wc hw.held hb hc (λw' dh=>hp w' dh.tail.tail)) λa w E I=>?_;refine RN 1 E I λa E=>?_;replace I:=bT.fold I B p ⟨(dB bs s.k).2,s.g⟩;refine CL 2 E I (Fy I kY aZ aE) λa w E I=>?_;refine RT 3 E I ?_;exact⟨rfl,I⟩
theorem Mb (I:V W w (bT W B p s::L))(hw:cx p s):Calls prog 77 #[pt B.pb] w λr w'=>∃ ad c,r=.returned (.tuple #[.slice ad 128 c,.int .i64 (la s).2])∧V W w' (Sl 5 1 ad 128 c (bc (la s).1)::bT W B p s::L):=by
 replace I:=bT.open I;refine EN func77 ntmps77 rfl rfl λa E=>?_;refine aY 4 (λw0 w'=>Rd w' B.pb 0 (eR p B s.g)) [4,8] [0,1,2,5,6,7,3003,3008,1004,1009,10,11] E I λa w E I hH=>?_;have U:=hH.at w (I.ai (b:=B.pb));refine RH 6 E I hH U λa E=>?_;refine QH E (λw hc=>bO E underlying49 rfl Ty.t49 (AH hc)) U λa E=>?_;refine QH E (λw hc=>ag E (hc 0 _ rfl)) U λa E=>?_;refine RH 0 E I hH U λa E=>?_;refine a2 0 E I (tR I) λad c a w E I=>?_;replace U:=hH.at w (I.ai (b:=B.pb));refine RH 0 E I hH U λa E=>?_;refine CL 0 E I (Fo (I.pick (aW B.core s.k)) hw.wc) λa w E I=>?_;refine RN 2 E I λa E=>?_;refine RT 0 E I ?_;exact⟨ad,c,rfl,(bT.fold I B p s).sub (M:=Sl 5 1 ad 128 c (bc (gh s.g))::bT W B p s::L)⟩
theorem Fz (I:V W w (bG C.lb C.lo C.cL k.ls::aa C.cb 72 (cZ k C A)::L))(hk:WC k):Calls prog 20 #[pt C.cb] w λr w'=>r=.returned (.int .i64 (aF k))∧V W w' (bG C.lb C.lo C.cL k.ls::aa C.cb 72 (cZ k C A)::L):=by
 have eA:k.me<k.ls.length:=by rw[hk.ls];exact hk.me
 refine EN func20 ntmps20 rfl rfl λa E=>?_;refine bL 3 [8] [0,1,2,4,5,6,7,3003,1008,9,10,1011,12,13] E I λa w E I hH U=>?_;obtain⟨xs,a8,I⟩:=bG.open I;have ch:xs.length=k.ls.length:=by rw[← a8,gM]
 obtain⟨mx,ol,y,Fm,hy,ot,pw⟩:=(V.ov I).at (i:=k.me) (by omega);cases Fm;have jY:aF k=y.2.2.length:=by
  show (k.ls.getD k.me []).length=_;rw[← a8,sT hy]
 replace hH:=Hd.gq I;refine RH 11 E I hH U λa E=>?_;refine SS E (ag E (ot)) λa E=>?_;rw[aI]at E;refine RH 2 E I hH U λa E=>?_;refine RT 0 E I ?_;exact⟨by rw[jY],bG.close I a8⟩
theorem aak (I:V W w (bT W B p s::L))(hw:cx p s)(aZ:dj p)(aE:p.title.size≤1000000000)(fy:c1 B.gs)(hT:a6 W B.adT B.gs.table.length B.gs.table):Calls prog 78 #[pt B.pb] w λr w'=>∃ ad c,r=.returned (.tuple #[.slice ad 128 c,.int .i64 (fx p B.gs s).2])∧V W w' (Sl 5 1 ad 128 c (bc (fx p B.gs s).1)::bT W B p s::L):=by
 have iz:s.k.ls.length≤8:=by rw[hw.wc.ls];exact hw.wc.n.2
 have v8:0<s.k.ls.length:=by rw[hw.wc.ls];have:=hw.wc.n;omega
 have gL:=hw.wc.lG;have fq:ax s.k≤aF s.k:=hw.wc.nq;replace I:=bT.open I;refine EN func78 ntmps78 rfl rfl λa E=>?_;refine aY 5 (λw0 w'=>Rd w' B.pb 0 (eR p B s.g)) [4,8] [0,1,2,5,6,7,3003,3008,1004,1009,10] E I λa w E I hH=>?_;have U:=hH.at w (I.ai (b:=B.pb));refine RH 6 E I hH U λa E=>?_;refine QH E (λw hc=>ag E (hc 0 _ rfl)) U λa E=>?_;refine QH E (λw hc=>ag E (hc 0 _ rfl)) U λa E=>?_;refine RH 0 E I hH U λa E=>?_;refine CL 0 E I (rj (I.pick (aW B.core s.k)) hw.wc) λa w E I=>?_;replace U:=hH.at w (I.ai (b:=B.pb));refine RH 0 E I hH U λa E=>?_;refine CL 0 E I (Fo I hw.wc) λa w E I=>?_;refine RN 1 E I λa E=>?_;refine IF 0 E I (λaj a E=>?_) λaj a E=>?_
 ·
  replace I:=bT.fold I B p s;refine a2 2 E I (Mb I hw) λad c a w E I=>?_;refine RT 4 E I ?_;refine⟨ad,c,?_,?_⟩
  ·rw[fx,al (by omega)]
  ·rw[fx,al (by omega)];exact I
 refine RN 1 E I λa E=>?_;obtain⟨A,I⟩:=aW.open (I.pick (aW B.core s.k));refine aY 0 (λw0 w'=>Rd w' B.pb 0 (eR p B s.g)∧Rd w' B.core.cb 0 (cZ s.k B.core A)) [7,11,12,16,17,18,19,23,27,28,29,31] [0,1,2,4,5,6,8,9,10,13,14,15,20,21,22,24,25,26,3003,3007,3011,3016,3017,3018,3019,3023,3027,2012,2028,2029,2030,1031,1032] E I λa w E I hH=>?_;have U:=hH.at w ⟨I.ai (b:=B.pb),I.ai (b:=B.core.cb)⟩;refine RH 18 E I hH U λa E=>?_;refine QH E (λw hc=>bO E underlying45 rfl Ty.t45 (L9 hc.1)) U λa E=>?_;refine QH E (λw hc=>bO E underlying49 rfl Ty.t49 (AH hc.1)) U λa E=>?_;refine QH E (λw hc=>ag E (hc.1 0 _ rfl)) U λa E=>?_;refine QH E (λw hc=>ag E (hc.1 0 _ rfl)) U λa E=>?_;refine RH 2 E I hH U λa E=>?_;refine QH E (λw hc=>ag E (hc.2 10 _ rfl)) U λa E=>?_;refine QH E (λw hc=>bO E underlying47 rfl Ty.t47 (aag hc.1)) U λa E=>?_;refine QH E (λw hc=>ag E (hc.1 0 _ rfl)) U λa E=>?_;refine RH 0 E I hH U λa E=>?_;refine DN [(12,[2028,2029,2030,1031,1032]),(31,[1012,1028,1029,1030,1032])] (by kernel_rfl) rfl ⟨⟨_,rfl,?_⟩,⟨_,rfl,?_⟩,trivial⟩
 ·
  refine RH 0 E I hH U λa E=>?_;refine CL 0 E I (Fx ((I.pick (aa B.core.cb 72 (cZ s.k B.core A))).pick (bG B.core.lb B.core.lo B.core.cL s.k.ls)) hw.wc) λa w E I=>?_;replace U:=hH.at w ⟨I.ai (b:=B.pb),I.ai (b:=B.core.cb)⟩;refine RH 0 E I hH U λa E=>?_;refine DN [(28,[2029,2030,1031,1032]),(31,[1028,1029,1030,1032])] (by kernel_rfl) rfl ⟨⟨_,rfl,?_⟩,⟨_,rfl,?_⟩,trivial⟩
  ·
   refine RH 0 E I hH U λa E=>?_;refine CL 0 E I (Fz ((I.pick (aa B.core.cb 72 (cZ s.k B.core A))).pick (bG B.core.lb B.core.lo B.core.cL s.k.ls)) hw.wc) λa w E I=>?_;replace U:=hH.at w ⟨I.ai (b:=B.pb),I.ai (b:=B.core.cb)⟩;refine RH 0 E I hH U λa E=>?_;refine DN [(29,[2030,1031,1032]),(31,[1029,1030,1032])] (by kernel_rfl) rfl ⟨⟨_,rfl,?_⟩,⟨_,rfl,?_⟩,trivial⟩
   ·
    obtain⟨xs,a8,I⟩:=bG.open (I.pick (bG B.core.lb B.core.lo B.core.cL s.k.ls));have ch:xs.length=s.k.ls.length:=by rw[← a8,gM]
    rw[← ch]at E;refine RH 0 E I hH U λa E=>?_;refine jD 0 E I (Aw (xs:=xs) (b:=B.gs) (r:=0) (to:=aF s.k) (by decide) I fy (by omega) (by omega) (by rw[a8];exact hw.wc.mY) gL (λw' dh=>V.ov dh) (λw' dh=>hT.gq dh)) λfS ga X a w E ⟨⟨sO,ib⟩,I⟩=>?_;replace U:=hH.at w ⟨I.ai (b:=B.pb),I.ai (b:=B.core.cb)⟩;have mj:=ib rfl;subst mj;rw[vS,a8]at I;rw[a8]at E;have iY:(ds B.gs s.k.ls (aF s.k)).length=aF s.k-aU s.k.ls:=vF _ _ _;have mn:∀ b∈ds B.gs s.k.ls (aF s.k),b.length≤1099511627776:=λb hb=>by
     rw[ds,c8]at hb;obtain⟨i,_,rfl⟩:=hb;rw[mW,iN,bf];omega
    obtain⟨ys,jI,lX,I⟩:=b0.open I;refine RH 0 E I hH U λa E=>?_;refine DN [(30,[1031,1032]),(31,[1030,1032])] (by kernel_rfl) rfl ⟨⟨_,rfl,?_⟩,⟨_,rfl,?_⟩,trivial⟩
    ·
     refine RH 0 E I hH U λa E=>?_;refine CL 0 E I (yf (P:=ds B.gs s.k.ls (aF s.k)) (zs:=ys) (fr:=ax s.k) (I.pick (aA W p B.ao B.cO)) iY aZ aE (hw.ph aZ) ⟨by omega,mn⟩ jI (by omega) (λw' dh=>V.lS (dh.sub (M:=Sl 22 1 fS (aF s.k-aU s.k.ls) ga (ys.map aI)::ah a7 ys::[])))) λa w E ⟨o8,I⟩=>?_;refine RN 0 E I λa E=>?_;refine eS E rfl I Ty.t49 rfl λb4 a w E I ho=>?_;clear ho;replace U:=hH.at w ⟨I.ai (b:=B.pb),I.ai (b:=B.core.cb)⟩;refine RH 0 E I hH U λa E=>?_;refine SA 0 E I λa w E I=>?_;refine RN 0 E I λa E=>?_;replace I:=bG.close (I.sub (M:=Sl 65 1 (some ⟨B.core.lb,B.core.lo,none⟩) s.k.ls.length B.core.cL (xs.map aI)::ah a7 xs::aa b4 49 (ints .i32 32 (foldI p (ax s.k) s.g (ds B.gs s.k.ls (aF s.k))))::aa B.pb 51 (eR p B s.g)::aA W p B.ao B.cO::aa B.core.cb 72 (cZ s.k B.core A)::aa B.core.hb 3 (e5 s.k.ps)::aa B.core.dW 3 (eQ s.k.ps)::aa B.core.wb 313 (rows e7 s.k.ps)::aa B.core.xb 4 (e6 s.k.ps)::Sl 100 1 A.cj s.k.mr.length A.cM (c6 s.k.mr)::Sl 102 3 A.adE s.k.ev.length A.cE (rows bS s.k.ev)::L)) a8;replace I:=aW.fold I B.core s.k A;refine aY 1 (λw0 w'=>Rd w' b4 0 (ints .i32 32 (foldI p (ax s.k) s.g (ds B.gs s.k.ls (aF s.k))))∧Rd w' B.pb 0 (eR p B s.g)) [1,5] [2,3,4,3000,3005,1001,1006,7,8] E I λa w E I hH=>?_;have U:=hH.at w ⟨I.ai (b:=b4),I.ai (b:=B.pb)⟩;refine RH 3 E I hH U λa E=>?_;refine QH E (λw hc=>bO E underlying49 rfl Ty.t49 (hc.1)) U λa E=>?_;refine QH E (λw hc=>ag E (hc.2 0 _ rfl)) U λa E=>?_;refine RH 0 E I hH U λa E=>?_;refine a2 0 E I (tR I) λad2 c2 a w E I=>?_;replace U:=hH.at w ⟨I.ai (b:=b4),I.ai (b:=B.pb)⟩;refine RH 0 E I hH U λa E=>?_;refine CL 0 E I (rj (I.pick (aW B.core s.k)) hw.wc) λa w E I=>?_;refine RN 2 E I λa E=>?_;refine RT 0 E I ?_;refine⟨ad2,c2,?_,?_⟩
     ·rw[fx,ae (by omega)]
     ·rw[fx,ae (by omega)];exact (bT.fold I B p s).sub (M:=Sl 5 1 ad2 128 c2 (bc (gh (foldI p (ax s.k) s.g (ds B.gs s.k.ls (aF s.k)))))::bT W B p s::L)
    refine RH 0 E I hH U λa E=>?_;refine eS E rfl I Ty.t49 rfl λb4 a w E I ho=>?_;clear ho;replace U:=hH.at w ⟨I.ai (b:=B.pb),I.ai (b:=B.core.cb)⟩;refine RH 0 E I hH U λa E=>?_;refine CL 0 E I (yf (P:=ds B.gs s.k.ls (aF s.k)) (zs:=ys) (fr:=ax s.k) (I.pick (aA W p B.ao B.cO)) iY aZ aE (hw.ph aZ) ⟨by omega,mn⟩ jI (by omega) (λw' dh=>V.lS (dh.sub (M:=Sl 22 1 fS (aF s.k-aU s.k.ls) ga (ys.map aI)::ah a7 ys::[])))) λa w E ⟨o8,I⟩=>?_;refine SA 0 E I λa w E I=>?_;refine RN 0 E I λa E=>?_;replace I:=bG.close (I.sub (M:=Sl 65 1 (some ⟨B.core.lb,B.core.lo,none⟩) s.k.ls.length B.core.cL (xs.map aI)::ah a7 xs::aa b4 49 (ints .i32 32 (foldI p (ax s.k) s.g (ds B.gs s.k.ls (aF s.k))))::aa B.pb 51 (eR p B s.g)::aA W p B.ao B.cO::aa B.core.cb 72 (cZ s.k B.core A)::aa B.core.hb 3 (e5 s.k.ps)::aa B.core.dW 3 (eQ s.k.ps)::aa B.core.wb 313 (rows e7 s.k.ps)::aa B.core.xb 4 (e6 s.k.ps)::Sl 100 1 A.cj s.k.mr.length A.cM (c6 s.k.mr)::Sl 102 3 A.adE s.k.ev.length A.cE (rows bS s.k.ev)::L)) a8;replace I:=aW.fold I B.core s.k A;refine aY 1 (λw0 w'=>Rd w' b4 0 (ints .i32 32 (foldI p (ax s.k) s.g (ds B.gs s.k.ls (aF s.k))))∧Rd w' B.pb 0 (eR p B s.g)) [1,5] [2,3,4,3000,3005,1001,1006,7,8] E I λa w E I hH=>?_;have U:=hH.at w ⟨I.ai (b:=b4),I.ai (b:=B.pb)⟩;refine RH 3 E I hH U λa E=>?_;refine QH E (λw hc=>bO E underlying49 rfl Ty.t49 (hc.1)) U λa E=>?_;refine QH E (λw hc=>ag E (hc.2 0 _ rfl)) U λa E=>?_;refine RH 0 E I hH U λa E=>?_;refine a2 0 E I (tR I) λad2 c2 a w E I=>?_;replace U:=hH.at w ⟨I.ai (b:=b4),I.ai (b:=B.pb)⟩;refine RH 0 E I hH U λa E=>?_;refine CL 0 E I (rj (I.pick (aW B.core s.k)) hw.wc) λa w E I=>?_;refine RN 2 E I λa E=>?_;refine RT 0 E I ?_;refine⟨ad2,c2,?_,?_⟩
    ·rw[fx,ae (by omega)]
    ·rw[fx,ae (by omega)];exact (bT.fold I B p s).sub (M:=Sl 5 1 ad2 128 c2 (bc (gh (foldI p (ax s.k) s.g (ds B.gs s.k.ls (aF s.k)))))::bT W B p s::L)
   refine RH 0 E I hH U λa E=>?_;refine eS E rfl I Ty.t49 rfl λb4 a w E I ho=>?_;clear ho;replace U:=hH.at w ⟨I.ai (b:=B.pb),I.ai (b:=B.core.cb)⟩;obtain⟨xs,a8,I⟩:=bG.open (I.pick (bG B.core.lb B.core.lo B.core.cL s.k.ls));have ch:xs.length=s.k.ls.length:=by rw[← a8,gM]
   rw[← ch]at E;refine RH 0 E I hH U λa E=>?_;refine jD 0 E I (Aw (xs:=xs) (b:=B.gs) (r:=0) (to:=aF s.k) (by decide) I fy (by omega) (by omega) (by rw[a8];exact hw.wc.mY) gL (λw' dh=>V.ov dh) (λw' dh=>hT.gq dh)) λfS ga X a w E ⟨⟨sO,ib⟩,I⟩=>?_;replace U:=hH.at w ⟨I.ai (b:=B.pb),I.ai (b:=B.core.cb)⟩;have mj:=ib rfl;subst mj;rw[vS,a8]at I;rw[a8]at E;have iY:(ds B.gs s.k.ls (aF s.k)).length=aF s.k-aU s.k.ls:=vF _ _ _;have mn:∀ b∈ds B.gs s.k.ls (aF s.k),b.length≤1099511627776:=λb hb=>by
    rw[ds,c8]at hb;obtain⟨i,_,rfl⟩:=hb;rw[mW,iN,bf];omega
   obtain⟨ys,jI,lX,I⟩:=b0.open I;refine RH 0 E I hH U λa E=>?_;refine CL 0 E I (yf (P:=ds B.gs s.k.ls (aF s.k)) (zs:=ys) (fr:=ax s.k) (I.pick (aA W p B.ao B.cO)) iY aZ aE (hw.ph aZ) ⟨by omega,mn⟩ jI (by omega) (λw' dh=>V.lS (dh.sub (M:=Sl 22 1 fS (aF s.k-aU s.k.ls) ga (ys.map aI)::ah a7 ys::[])))) λa w E ⟨o8,I⟩=>?_;refine SA 0 E I λa w E I=>?_;refine RN 0 E I λa E=>?_;replace I:=bG.close (I.sub (M:=Sl 65 1 (some ⟨B.core.lb,B.core.lo,none⟩) s.k.ls.length B.core.cL (xs.map aI)::ah a7 xs::aa b4 49 (ints .i32 32 (foldI p (ax s.k) s.g (ds B.gs s.k.ls (aF s.k))))::aa B.pb 51 (eR p B s.g)::aA W p B.ao B.cO::aa B.core.cb 72 (cZ s.k B.core A)::aa B.core.hb 3 (e5 s.k.ps)::aa B.core.dW 3 (eQ s.k.ps)::aa B.core.wb 313 (rows e7 s.k.ps)::aa B.core.xb 4 (e6 s.k.ps)::Sl 100 1 A.cj s.k.mr.length A.cM (c6 s.k.mr)::Sl 102 3 A.adE s.k.ev.length A.cE (rows bS s.k.ev)::L)) a8;replace I:=aW.fold I B.core s.k A;refine aY 1 (λw0 w'=>Rd w' b4 0 (ints .i32 32 (foldI p (ax s.k) s.g (ds B.gs s.k.ls (aF s.k))))∧Rd w' B.pb 0 (eR p B s.g)) [1,5] [2,3,4,3000,3005,1001,1006,7,8] E I λa w E I hH=>?_;have U:=hH.at w ⟨I.ai (b:=b4),I.ai (b:=B.pb)⟩;refine RH 3 E I hH U λa E=>?_;refine QH E (λw hc=>bO E underlying49 rfl Ty.t49 (hc.1)) U λa E=>?_;refine QH E (λw hc=>ag E (hc.2 0 _ rfl)) U λa E=>?_;refine RH 0 E I hH U λa E=>?_;refine a2 0 E I (tR I) λad2 c2 a w E I=>?_;replace U:=hH.at w ⟨I.ai (b:=b4),I.ai (b:=B.pb)⟩;refine RH 0 E I hH U λa E=>?_;refine CL 0 E I (rj (I.pick (aW B.core s.k)) hw.wc) λa w E I=>?_;refine RN 2 E I λa E=>?_;refine RT 0 E I ?_;refine⟨ad2,c2,?_,?_⟩
   ·rw[fx,ae (by omega)]
   ·rw[fx,ae (by omega)];exact (bT.fold I B p s).sub (M:=Sl 5 1 ad2 128 c2 (bc (gh (foldI p (ax s.k) s.g (ds B.gs s.k.ls (aF s.k)))))::bT W B p s::L)
  refine RH 0 E I hH U λa E=>?_;refine eS E rfl I Ty.t49 rfl λb4 a w E I ho=>?_;clear ho;replace U:=hH.at w ⟨I.ai (b:=B.pb),I.ai (b:=B.core.cb)⟩;refine RH 0 E I hH U λa E=>?_;refine CL 0 E I (Fz ((I.pick (aa B.core.cb 72 (cZ s.k B.core A))).pick (bG B.core.lb B.core.lo B.core.cL s.k.ls)) hw.wc) λa w E I=>?_;replace U:=hH.at w ⟨I.ai (b:=B.pb),I.ai (b:=B.core.cb)⟩;obtain⟨xs,a8,I⟩:=bG.open (I.pick (bG B.core.lb B.core.lo B.core.cL s.k.ls));have ch:xs.length=s.k.ls.length:=by rw[← a8,gM]
  rw[← ch]at E;refine RH 0 E I hH U λa E=>?_;refine jD 0 E I (Aw (xs:=xs) (b:=B.gs) (r:=0) (to:=aF s.k) (by decide) I fy (by omega) (by omega) (by rw[a8];exact hw.wc.mY) gL (λw' dh=>V.ov dh) (λw' dh=>hT.gq dh)) λfS ga X a w E ⟨⟨sO,ib⟩,I⟩=>?_;replace U:=hH.at w ⟨I.ai (b:=B.pb),I.ai (b:=B.core.cb)⟩;have mj:=ib rfl;subst mj;rw[vS,a8]at I;rw[a8]at E;have iY:(ds B.gs s.k.ls (aF s.k)).length=aF s.k-aU s.k.ls:=vF _ _ _;have mn:∀ b∈ds B.gs s.k.ls (aF s.k),b.length≤1099511627776:=λb hb=>by
   rw[ds,c8]at hb;obtain⟨i,_,rfl⟩:=hb;rw[mW,iN,bf];omega
  obtain⟨ys,jI,lX,I⟩:=b0.open I;refine RH 0 E I hH U λa E=>?_;refine CL 0 E I (yf (P:=ds B.gs s.k.ls (aF s.k)) (zs:=ys) (fr:=ax s.k) (I.pick (aA W p B.ao B.cO)) iY aZ aE (hw.ph aZ) ⟨by omega,mn⟩ jI (by omega) (λw' dh=>V.lS (dh.sub (M:=Sl 22 1 fS (aF s.k-aU s.k.ls) ga (ys.map aI)::ah a7 ys::[])))) λa w E ⟨o8,I⟩=>?_;refine SA 0 E I λa w E I=>?_;refine RN 0 E I λa E=>?_;replace I:=bG.close (I.sub (M:=Sl 65 1 (some ⟨B.core.lb,B.core.lo,none⟩) s.k.ls.length B.core.cL (xs.map aI)::ah a7 xs::aa b4 49 (ints .i32 32 (foldI p (ax s.k) s.g (ds B.gs s.k.ls (aF s.k))))::aa B.pb 51 (eR p B s.g)::aA W p B.ao B.cO::aa B.core.cb 72 (cZ s.k B.core A)::aa B.core.hb 3 (e5 s.k.ps)::aa B.core.dW 3 (eQ s.k.ps)::aa B.core.wb 313 (rows e7 s.k.ps)::aa B.core.xb 4 (e6 s.k.ps)::Sl 100 1 A.cj s.k.mr.length A.cM (c6 s.k.mr)::Sl 102 3 A.adE s.k.ev.length A.cE (rows bS s.k.ev)::L)) a8;replace I:=aW.fold I B.core s.k A;refine aY 1 (λw0 w'=>Rd w' b4 0 (ints .i32 32 (foldI p (ax s.k) s.g (ds B.gs s.k.ls (aF s.k))))∧Rd w' B.pb 0 (eR p B s.g)) [1,5] [2,3,4,3000,3005,1001,1006,7,8] E I λa w E I hH=>?_;have U:=hH.at w ⟨I.ai (b:=b4),I.ai (b:=B.pb)⟩;refine RH 3 E I hH U λa E=>?_;refine QH E (λw hc=>bO E underlying49 rfl Ty.t49 (hc.1)) U λa E=>?_;refine QH E (λw hc=>ag E (hc.2 0 _ rfl)) U λa E=>?_;refine RH 0 E I hH U λa E=>?_;refine a2 0 E I (tR I) λad2 c2 a w E I=>?_;replace U:=hH.at w ⟨I.ai (b:=b4),I.ai (b:=B.pb)⟩;refine RH 0 E I hH U λa E=>?_;refine CL 0 E I (rj (I.pick (aW B.core s.k)) hw.wc) λa w E I=>?_;refine RN 2 E I λa E=>?_;refine RT 0 E I ?_;refine⟨ad2,c2,?_,?_⟩
  ·rw[fx,ae (by omega)]
  ·rw[fx,ae (by omega)];exact (bT.fold I B p s).sub (M:=Sl 5 1 ad2 128 c2 (bc (gh (foldI p (ax s.k) s.g (ds B.gs s.k.ls (aF s.k)))))::bT W B p s::L)
 refine RH 0 E I hH U λa E=>?_;refine eS E rfl I Ty.t49 rfl λb4 a w E I ho=>?_;clear ho;replace U:=hH.at w ⟨I.ai (b:=B.pb),I.ai (b:=B.core.cb)⟩;refine RH 0 E I hH U λa E=>?_;refine CL 0 E I (Fx ((I.pick (aa B.core.cb 72 (cZ s.k B.core A))).pick (bG B.core.lb B.core.lo B.core.cL s.k.ls)) hw.wc) λa w E I=>?_;replace U:=hH.at w ⟨I.ai (b:=B.pb),I.ai (b:=B.core.cb)⟩;refine RH 0 E I hH U λa E=>?_;refine CL 0 E I (Fz ((I.pick (aa B.core.cb 72 (cZ s.k B.core A))).pick (bG B.core.lb B.core.lo B.core.cL s.k.ls)) hw.wc) λa w E I=>?_;replace U:=hH.at w ⟨I.ai (b:=B.pb),I.ai (b:=B.core.cb)⟩;obtain⟨xs,a8,I⟩:=bG.open (I.pick (bG B.core.lb B.core.lo B.core.cL s.k.ls));have ch:xs.length=s.k.ls.length:=by rw[← a8,gM]
 rw[← ch]at E;refine RH 0 E I hH U λa E=>?_;refine jD 0 E I (Aw (xs:=xs) (b:=B.gs) (r:=0) (to:=aF s.k) (by decide) I fy (by omega) (by omega) (by rw[a8];exact hw.wc.mY) gL (λw' dh=>V.ov dh) (λw' dh=>hT.gq dh)) λfS ga X a w E ⟨⟨sO,ib⟩,I⟩=>?_;replace U:=hH.at w ⟨I.ai (b:=B.pb),I.ai (b:=B.core.cb)⟩;have mj:=ib rfl;subst mj;rw[vS,a8]at I;rw[a8]at E;have iY:(ds B.gs s.k.ls (aF s.k)).length=aF s.k-aU s.k.ls:=vF _ _ _;have mn:∀ b∈ds B.gs s.k.ls (aF s.k),b.length≤1099511627776:=λb hb=>by
  rw[ds,c8]at hb;obtain⟨i,_,rfl⟩:=hb;rw[mW,iN,bf];omega
 obtain⟨ys,jI,lX,I⟩:=b0.open I;refine RH 0 E I hH U λa E=>?_;refine CL 0 E I (yf (P:=ds B.gs s.k.ls (aF s.k)) (zs:=ys) (fr:=ax s.k) (I.pick (aA W p B.ao B.cO)) iY aZ aE (hw.ph aZ) ⟨by omega,mn⟩ jI (by omega) (λw' dh=>V.lS (dh.sub (M:=Sl 22 1 fS (aF s.k-aU s.k.ls) ga (ys.map aI)::ah a7 ys::[])))) λa w E ⟨o8,I⟩=>?_;refine SA 0 E I λa w E I=>?_;refine RN 0 E I λa E=>?_;replace I:=bG.close (I.sub (M:=Sl 65 1 (some ⟨B.core.lb,B.core.lo,none⟩) s.k.ls.length B.core.cL (xs.map aI)::ah a7 xs::aa b4 49 (ints .i32 32 (foldI p (ax s.k) s.g (ds B.gs s.k.ls (aF s.k))))::aa B.pb 51 (eR p B s.g)::aA W p B.ao B.cO::aa B.core.cb 72 (cZ s.k B.core A)::aa B.core.hb 3 (e5 s.k.ps)::aa B.core.dW 3 (eQ s.k.ps)::aa B.core.wb 313 (rows e7 s.k.ps)::aa B.core.xb 4 (e6 s.k.ps)::Sl 100 1 A.cj s.k.mr.length A.cM (c6 s.k.mr)::Sl 102 3 A.adE s.k.ev.length A.cE (rows bS s.k.ev)::L)) a8;replace I:=aW.fold I B.core s.k A;refine aY 1 (λw0 w'=>Rd w' b4 0 (ints .i32 32 (foldI p (ax s.k) s.g (ds B.gs s.k.ls (aF s.k))))∧Rd w' B.pb 0 (eR p B s.g)) [1,5] [2,3,4,3000,3005,1001,1006,7,8] E I λa w E I hH=>?_;have U:=hH.at w ⟨I.ai (b:=b4),I.ai (b:=B.pb)⟩;refine RH 3 E I hH U λa E=>?_;refine QH E (λw hc=>bO E underlying49 rfl Ty.t49 (hc.1)) U λa E=>?_;refine QH E (λw hc=>ag E (hc.2 0 _ rfl)) U λa E=>?_;refine RH 0 E I hH U λa E=>?_;refine a2 0 E I (tR I) λad2 c2 a w E I=>?_;replace U:=hH.at w ⟨I.ai (b:=b4),I.ai (b:=B.pb)⟩;refine RH 0 E I hH U λa E=>?_;refine CL 0 E I (rj (I.pick (aW B.core s.k)) hw.wc) λa w E I=>?_;refine RN 2 E I λa E=>?_;refine RT 0 E I ?_;refine⟨ad2,c2,?_,?_⟩
 ·rw[fx,ae (by omega)]
 ·rw[fx,ae (by omega)];exact (bT.fold I B p s).sub (M:=Sl 5 1 ad2 128 c2 (bc (gh (foldI p (ax s.k) s.g (ds B.gs s.k.ls (aF s.k)))))::bT W B p s::L)
theorem aal {n me aH bo:Nat}{id ba order cr workers room:Int}(I:V W w (aA W p adP cP::L))(hm:fg ⟨n,me,id,aH,bo,ba,order,cr,workers,room⟩)(aZ:dj p)(aE:p.title.size≤1000000000) :
   Calls prog 46 #[.agg (b7 ⟨n,me,id,aH,bo,ba,order,cr,workers,room⟩).toArray,.agg (bJ p adP cP).toArray,.slice adT tb.length cT] w λr w'=>∃ B:fT,r=.returned (pt B.pb)∧(B.gs=⟨ba,order,tb⟩∧B.adT=adT)∧V W w' (bT W B p (ez p ⟨n,me,id,aH,bo,ba,order,cr,workers,room⟩)::L):=by
 refine EN func46 ntmps46 rfl rfl λa E=>?_;refine BX 1 E I λb3 a w E I=>?_;change V W w (aa b3 28 (b7 ⟨n,me,id,aH,bo,ba,order,cr,workers,room⟩)::_) at I;refine BX 0 E I λb4 a w E I=>?_;change V W w (aa b4 45 [.string p.title,.slice adP p.ops.length cP]::_) at I;refine aY 2 (λw0 w'=>Rd w' b3 0 (b7 ⟨n,me,id,aH,bo,ba,order,cr,workers,room⟩)∧Rd w' b4 0 [.string p.title,.slice adP p.ops.length cP]) [1,2,4,6,8] [3,5,7,3000,3002,3004,3006,3008,1001,9,1010,11] E I λa w E I hH=>?_;have U:=hH.at w ⟨I.ai (b:=b3),I.ai (b:=b4)⟩;refine RH 3 E I hH U λa E=>?_;refine QH E (λw hc=>bO E underlying28 rfl Ty.t28 (hc.1)) U λa E=>?_;refine QH E (λw hc=>bO E underlying45 rfl Ty.t45 (hc.2)) U λa E=>?_;refine QH E (λw hc=>ag E (hc.1 5 _ rfl)) U λa E=>?_;refine QH E (λw hc=>ag E (hc.1 6 _ rfl)) U λa E=>?_;refine RH 1 E I hH U λa E=>?_;refine bd 0 E I (Z2 I hm) λBc a w E I=>?_;replace U:=hH.at w ⟨I.ai (b:=b3),I.ai (b:=b4)⟩;refine RH 1 E I hH U λa E=>?_;refine gF E rfl I rfl λsm a w E I ho=>?_;clear ho;change V W w (aa sm 51 (eR p ⟨sm,Bc,adP,cP,adT,cT,⟨ba,order,tb⟩⟩ oc)::_) at I;refine RN 1 E I λa E=>?_;replace I:=bT.fold I ⟨sm,Bc,adP,cP,adT,cT,⟨ba,order,tb⟩⟩ p ⟨fh ⟨n,me,id,aH,bo,ba,order,cr,workers,room⟩,oc⟩;refine CL 2 E I (Fy I (vM hm) aZ aE) λa w E I=>?_;refine RT 3 E I ?_;have h9:V W w (bT W ⟨sm,Bc,adP,cP,adT,cT,⟨ba,order,tb⟩⟩ p (ez p ⟨n,me,id,aH,bo,ba,order,cr,workers,room⟩)::_):=I;exact⟨⟨sm,Bc,adP,cP,adT,cT,⟨ba,order,tb⟩⟩,rfl,⟨rfl,rfl⟩,h9.sub⟩
end
end
section
section
variable {W w:World}{L:List SP}{e:jV}
theorem aam (I:V W w L):Calls prog 79 #[.agg (bS e).toArray,.agg (bS e).toArray] w λr w'=>r=.returned (.bool true)∧V W w' L:=by
 refine EN func79 ntmps79 rfl rfl λa E=>?_;refine BX 1 E I λb2 a w E I=>?_;change V W w (aa b2 102 [.int .i64 e.1,.int .i64 e.2.1,.int .i64 e.2.2]::_) at I;refine BX 0 E I λb3 a w E I=>?_;change V W w (aa b3 102 [.int .i64 e.1,.int .i64 e.2.1,.int .i64 e.2.2]::_) at I;refine RN 8 E I λa E=>?_;rw[dd (by omega)]at E;refine RN 7 E I λa E=>?_;rw[dd (by omega)]at E;refine RT 7 E I ?_;exact⟨by simp,I.sub⟩
end
end
section
theorem Mc {k:Ks}(h:WC k):(bm k).1.length≤1000:=by
 have hn:=h.n;have hl:∀ k:Ks,(bB k).length≤k.n:=λk=>by
  rw[bB];exact gO (length_filter_le _ _) (by rw[length_range];exact bh _)
 unfold bm;split
 ·simp
 ·simp only;split
  ·simp
  ·rw[bf];have:=hl { k with now:=k.now+1 };have h2:({ k with now:=k.now+1 }:Ks).n=k.n:=rfl;omega
theorem Md {k:Ks}(h:WC k):(cu k).1.length≤1000:=by
 have hn:=h.n;unfold cu;split
 ·simp
 ·rw[bf,bB];have h2:=length_filter_le (λi=>decide (i≠k.me)) (List.range k.n);rw[length_range]at h2;show ((List.range k.n).filter (·≠k.me)).length≤1000;omega
theorem aan (p:Pr)(x:UInt8){s:Pl}(h:cx p s):(dI p x s).2.k.now=s.k.now:=by
 have he:=tX x s.k;have h1:=(Kj (h.toWP.more (h.wc.ak x) (h.held.ak x) he.1 he.2)).2.2.2.2.2.1;rw[dI,h1];show (c3 x s.k).2.now=_;by_cases h0:(c3 x s.k).1=0
 ·obtain⟨_,_,_,h4⟩:=tV h0;rw[h4]
 ·rw[tW h0]
theorem aao (k:Ks)(q:Pk):(fR k q).now=k.now:=by
 unfold fR;split
 ·rfl
 ·obtain⟨ps,ev,h9,_⟩:=vH { k with ls:=k.ls.set q.aV.toNat (dr (k.ls.getD q.aV.toNat []) q.first.toNat q.ak),ps:=k.ps.set q.aV.toNat (fQ k.now (aF k) q (au k q.aV.toNat)) };rw[h9]
theorem aap (p:Pr)(bs:List UInt8){s:Pl}(h:cx p s):(dJ p bs s).2.k.now=s.k.now:=by
 have he:=q6 bs s.k;have h1:=(Kj (h.toWP.more (h.wc.recv bs).1 ((h.wc.recv bs).2 h.held) he.1 he.2)).2.2.2.2.2.1;rw[dJ,h1];show (dB bs s.k).2.now=_;by_cases h0:(dB bs s.k).1=0
 ·obtain⟨q,_,_,_,_,_,h6⟩:=Ab h0;rw[h6,aao]
 ·rw[vJ h0]
theorem aaq (k:Ks):(bm k).2.now≤k.now+1:=by
 rcases vL k with h1 | ⟨hc,h1 | ⟨i,hi,h1⟩⟩ <;> rw[h1]
 ·exact Nat.le_succ _
 ·exact bh _
 ·exact bh _
theorem aar (k:Ks):(cu k).2.now=k.now:=by
 unfold cu;split <;> rfl
structure AI (W:World)(t:TypeId)(ad:Addr)(uk um uo uq ur uu uv uw:FuncId)(p:Pr)(gs:Gs)(J:Nat→Pl→SP):Prop where
 FA : oL prog t "Press" uk
 cP:g5 prog uk=true
 FB : oL prog t "Receive" um
 FC:g5 prog um=true
 FD : oL prog t "Tick" uo
 cT:g5 prog uo=true
 FE : oL prog t "Quit" uq
 FF:g5 prog uq=true
 FG : oL prog t "Events" ur
 cE:g5 prog ur=true
 AJ : oL prog t "Confirmed" uu
 AK:g5 prog uu=true
 FH : oL prog t "Display" uv
 FI:g5 prog uv=true
 FJ : oL prog t "Closed" uw
 FK:g5 prog uw=true
 ak:∀ (w:World) (L:List SP) (i:Nat) (s:Pl) (x:UInt8),i≤1000000→cx p s→V W w (J i s::L)→Calls prog uk (List.toArray [.pointer (some ad),.int .u8 (x.toNat:Nat)]) w λr w'=>r=.returned (.int .i64 (dI p x s).1)∧V W w' (J (i+1) (dI p x s).2::L)
 recv:∀ (w:World) (L:List SP) (i:Nat) (s:Pl) (bs:List UInt8) (a:Option Addr) (c:Nat),i≤1000000→cx p s→bs.length≤65536→bs.length≤c→(∀ w',V W w' L→a6 w' a bs.length bs)→V W w (J i s::L)→Calls prog um (List.toArray [.pointer (some ad),.slice a bs.length c]) w λr w'=>r=.returned (.int .i64 (dJ p bs s).1)∧V W w' (J (i+1) (dJ p bs s).2::L)
 tick:∀ (w:World) (L:List SP) (i:Nat) (s:Pl),i≤1000000→cx p s→s.k.now≤1000000→V W w (J i s::L)→Calls prog uo (List.toArray [.pointer (some ad)]) w λr w'=>∃ a c,r=.returned (.slice a (bm s.k).1.length c)∧V W w' (cv 124 a (bm s.k).1.length c (bm s.k).1::J (i+1) ⟨(bm s.k).2,s.g⟩::L)
 ob:∀ (w:World) (L:List SP) (i:Nat) (s:Pl),i≤1000000→cx p s→V W w (J i s::L)→Calls prog uq (List.toArray [.pointer (some ad)]) w λr w'=>∃ a c,r=.returned (.slice a (cu s.k).1.length c)∧V W w' (cv 124 a (cu s.k).1.length c (cu s.k).1::J (i+1) ⟨(cu s.k).2,s.g⟩::L)
 events:∀ (w:World) (L:List SP) (i:Nat) (s:Pl),i≤1000000→cx p s→V W w (J i s::L)→Calls prog ur (List.toArray [.pointer (some ad)]) w λr w'=>∃ a c,r=.returned (.slice a s.k.ev.length c)∧V W w' (Sl 135 1 a s.k.ev.length c (s.k.ev.map cy)::J (i+1) ⟨{ s.k with ev:=[] },s.g⟩::L)
 AM:∀ (w:World) (L:List SP) (i:Nat) (s:Pl),i≤1000000→cx p s→V W w (J i s::L)→Calls prog uu (List.toArray [.pointer (some ad)]) w λr w'=>∃ a c,r=.returned (.tuple #[.slice a 128 c,.int .i64 (la s).2])∧V W w' (Sl 5 1 a 128 c (bc (la s).1)::J i s::L)
 FL:∀ (w:World) (L:List SP) (i:Nat) (s:Pl),i≤1000000→cx p s→V W w (J i s::L)→Calls prog uv (List.toArray [.pointer (some ad)]) w λr w'=>∃ a c,r=.returned (.tuple #[.slice a 128 c,.int .i64 (fx p gs s).2])∧V W w' (Sl 5 1 a 128 c (bc (fx p gs s).1)::J i s::L)
 closed:∀ (w:World) (L:List SP) (i:Nat) (s:Pl),i≤1000000→cx p s→V W w (J i s::L)→Calls prog uw (List.toArray [.pointer (some ad)]) w λr w'=>r=.returned (.bool s.k.cl)∧V W w' (J i s::L)
section
variable {W w:World}{L:List SP}{i:Nat}{t:TypeId}{ad:Addr}{uk um uo uq ur uu uv uw:FuncId}{p:Pr}{gs:Gs}{J:Nat→Pl→SP}{B:fT}{s:Pl}{b:Bool}
theorem aas (M:AI W t ad uk um uo uq ur uu uv uw p gs J)(hi:i≤1000000)(I:V W w (J i s::bT W B p s::L))(hw:cx p s)(aZ:dj p)(aE:p.title.size≤1000000000)(fy:c1 B.gs)(hbg:B.gs=gs)(hT:a6 W B.adT B.gs.table.length B.gs.table) :
   Calls prog 53 #[.iface t (.pointer (some ad)),pt B.pb] w λe w'=>e=.returned (.bool true)∧V W w' (J i s::bT W B p s::L):=by
 subst hbg;refine EN func53 ntmps53 rfl rfl λa E=>?_;refine RN 4 E I λa E=>?_;refine jl E rfl M.AJ M.AK rfl (M.AM _ _ i s hi hw I) (by rfl) ?_;clear E I;rintro e w ⟨dD,eF,rfl,I⟩;refine⟨_,rfl,λa E=>?_⟩;refine a2 7 E I (Mb (I.pick (bT W B p s)) hw) λdU c2 a w E I=>?_;refine RN 7 E I λa E=>?_;refine jl E rfl M.FH M.FI rfl (M.FL _ _ i s hi hw (I.pick (J i s))) (by rfl) ?_;clear E I;rintro e w ⟨a3,dz,rfl,I⟩;refine⟨_,rfl,λa E=>?_⟩;refine a2 7 E I (aak (I.pick (bT W B p s)) hw aZ aE fy hT) λa4 g9 a w E I=>?_;refine RN 5 E I λa E=>?_;have cd:(la s).1.length=128:=tJ _;have l5:(fx p B.gs s).1.length=128:=by
  rw[fx];split
  ·exact tJ _
  ·exact tJ _
 replace I:=I.sub (M:=Sl 5 1 a4 128 g9 (bc (fx p B.gs s).1)::Sl 5 1 a3 128 dz (bc (fx p B.gs s).1)::Sl 5 1 dU 128 c2 (bc (la s).1)::Sl 5 1 dD 128 eF (bc (la s).1)::bT W B p s::J i s::L);obtain⟨A,I⟩:∃ A,V W w (Sl 5 1 a4 128 g9 (bc (fx p B.gs s).1)::Sl 5 1 a3 128 dz (bc (fx p B.gs s).1)::Sl 5 1 dU 128 c2 (bc (la s).1)::Sl 5 1 dD 128 eF (bc (la s).1)::aa B.core.cb 72 (cZ s.k B.core A)::bG B.core.lb B.core.lo B.core.cL s.k.ls::aa B.core.hb 3 (e5 s.k.ps)::aa B.core.dW 3 (eQ s.k.ps)::aa B.core.wb 313 (rows e7 s.k.ps)::aa B.core.xb 4 (e6 s.k.ps)::Sl 100 1 A.cj s.k.mr.length A.cM (c6 s.k.mr)::Sl 102 3 A.adE s.k.ev.length A.cE (rows bS s.k.ev)::aa B.pb 51 (eR p B s.g)::aA W p B.ao B.cO::J i s::L):=by
  obtain⟨A,h⟩:=aW.open ((bT.open (I.pick (bT W B p s))).pick (aW B.core s.k));exact⟨A,h.sub⟩
 refine aY 1 (λw0 w'=>((a6 w' dD 128 (la s).1∧a6 w' dU 128 (la s).1)∧a6 w' a3 128 (fx p B.gs s).1∧a6 w' a4 128 (fx p B.gs s).1)∧Rd w' B.pb 0 (eR p B s.g)∧Rd w' B.core.cb 0 (cZ s.k B.core A)) [7,19,24] [0,1,2,3,4,6,3005,1007,8,9,10,11,12,13,14,15,16,18,3017,1019,20,21,22,23,25,26,27,3028,29,30,3031,1024,32,33,34] E I λa w E I hH=>?_;have U:=hH.at w ⟨⟨⟨I.cF dD _ rfl cd,I.cF dU _ rfl cd⟩,I.cF a3 _ rfl l5,I.cF a4 _ rfl l5⟩,I.ai (b:=B.pb),I.ai (b:=B.core.cb)⟩;refine RH 4 E I hH U λa E=>?_;rw[dd (by omega)]at E;refine RH 2 E I hH U λa E=>?_;refine QH E (λw hc=>lP E underlying22 underlying5 underlying9 (hc.1.1.1)) U λa E=>?_;refine RH 0 E I hH U λa E=>?_;refine bz E (cW E rfl (s:=36)) (lP E underlying22 underlying5 underlying9 (U.1.1.2)) rfl λa E=>?_;refine RH 0 E I hH U λa E=>?_;refine QP E (λw=>rH E) λa E=>?_;rw[qy,beq_self_eq_true]at E;refine RH 2 E I hH U λa E=>?_;replace E:=E.eo 43;refine RH 5 E I hH U λa E=>?_;rw[dd (by omega)]at E;refine RH 2 E I hH U λa E=>?_;refine QH E (λw hc=>lP E underlying22 underlying5 underlying9 (hc.1.2.1)) U λa E=>?_;refine RH 0 E I hH U λa E=>?_;refine bz E (cW E rfl (s:=48)) (lP E underlying22 underlying5 underlying9 (U.1.2.2)) rfl λa E=>?_;refine RH 0 E I hH U λa E=>?_;refine QP E (λw=>rH E) λa E=>?_;rw[qy,beq_self_eq_true]at E;refine RH 2 E I hH U λa E=>?_;replace E:=E.eo 55;refine RH 4 E I hH U λa E=>?_;refine QH E (λw hc=>ag E (hc.2.1 0 _ rfl)) U λa E=>?_;refine RH 2 E I hH U λa E=>?_;refine QH E (λw hc=>ag E (hc.2.2 18 _ rfl)) U λa E=>?_;refine RH 0 E I hH U λa E=>?_;refine jl E (cW E rfl (s:=55)) M.FJ M.FK rfl (M.closed _ _ i s hi hw (I.pick (J i s))) (by rfl) ?_;clear E I;rintro e w ⟨rfl,I⟩;refine⟨_,rfl,λa E=>?_⟩;replace U:=hH.at w ⟨⟨⟨I.cF dD _ rfl cd,I.cF dU _ rfl cd⟩,I.cF a3 _ rfl l5,I.cF a4 _ rfl l5⟩,I.ai (b:=B.pb),I.ai (b:=B.core.cb)⟩;refine RH 3 E I hH U λa E=>?_;refine RT 0 E I ?_;refine⟨by simp,?_⟩;exact (bT.fold (aW.fold I B.core s.k A) B p s).sub (M:=J i s::bT W B p s::L)
set_option maxHeartbeats 4000000 in
end
end
section
structure Wd where
 ps:List Pl
 net:List Ml
 ev:List (List jV)
structure fz where
 fn:Int
 a:Int
 b:Int
 n:Int
def AN:Pl:=⟨fh ⟨0,0,0,0,0,0,0,0,0,0⟩,oc⟩
def aq (v:Wd)(i:Nat):Pl:=v.ps.getD i AN
def fU (b:Int):UInt8:=UInt8.ofNat (b%256).toNat
theorem aat (b:Int):((fU b).toNat:Int)=b%256:=by
 have h1:=Int.emod_nonneg b (show (256:Int)≠0 by decide);have h2:=Int.emod_lt_of_pos b (show (0:Int)<256 by decide);rw[fU,UInt8.toNat_ofNat',Nat.mod_eq_of_lt (by omega)];omega
def ow (net:List Ml)(m:Ml):List Ml:=if net.length<300 then net++[m] else net
def eB (net l:List Ml):List Ml:=l.foldl ow net
theorem Me (net:List Ml){l:List Ml}{i:Nat}(h:i<l.length):eB net (l.take (i+1))=ow (eB net (l.take i)) l[i]:=by
 rw[eB,← List.take_append_getElem h,foldl_append];rfl
theorem FM:∀ {l net:List Ml} {m:Ml},m∈eB net l→m∈net∨m∈l
 | [],net,m,h=>.inl h
 | x::l,net,m,h=>by
  rcases FM (l:=l) (net:=ow net x) h with h | h
  ·rw[ow]at h;split at h
   ·rcases eV.1 h with h | h
    ·exact .inl h
    ·exact .inr (by rw[mem_singleton.1 h];exact mem_cons_self)
   ·exact .inl h
  ·exact .inr (gP _ h)
theorem FN:∀ {l net:List Ml},net.length≤300→(eB net l).length≤300
 | [],net,h=>h
 | x::l,net,h=>FN (l:=l) (net:=ow net x) (by
  rw[ow];split
  ·rw[aK,ja];omega
  ·exact h)
noncomputable def gD (p:Pr)(s:fz)(v:Wd):Int×Wd :=
 if s.n<0∨(v.net.length:Int)≤s.n then (3,v) else
 if s.fn=6 then (if s.a<0∨((v.net.getD s.n.toNat (0,0,[])).2.2.length:Int)≤s.a then (3,v) else
  (0,{ v with net:=v.net.set s.n.toNat ((v.net.getD s.n.toNat (0,0,[])).1,(v.net.getD s.n.toNat (0,0,[])).2.1,(v.net.getD s.n.toNat (0,0,[])).2.2.set s.a.toNat ((v.net.getD s.n.toNat (0,0,[])).2.2.getD s.a.toNat 0 ^^^ fU s.b)) }))
 else if s.fn=4 then (0,{ v with net:=v.net.eraseIdx s.n.toNat })
 else ((dJ p (v.net.getD s.n.toNat (0,0,[])).2.2 (aq v (v.net.getD s.n.toNat (0,0,[])).2.1)).1,
  { v with ps:=v.ps.set (v.net.getD s.n.toNat (0,0,[])).2.1 (dJ p (v.net.getD s.n.toNat (0,0,[])).2.2 (aq v (v.net.getD s.n.toNat (0,0,[])).2.1)).2,net:=if s.fn=5 then v.net else v.net.eraseIdx s.n.toNat })
def gm (p:Pr)(s:fz)(v:Wd):Int×Wd :=
 if s.a<0∨(v.ps.length:Int)≤s.a then (7,v) else
 if s.fn=1 then ((dI p (fU s.b) (aq v s.a.toNat)).1,{ v with ps:=v.ps.set s.a.toNat (dI p (fU s.b) (aq v s.a.toNat)).2 })
 else if s.fn=2 then (0,{ v with ps:=v.ps.set s.a.toNat ⟨(bm (aq v s.a.toNat).k).2,(aq v s.a.toNat).g⟩,net:=eB v.net (bm (aq v s.a.toNat).k).1 })
 else if s.fn=8 then (0,{ v with ps:=v.ps.set s.a.toNat ⟨(cu (aq v s.a.toNat).k).2,(aq v s.a.toNat).g⟩,net:=eB v.net (cu (aq v s.a.toNat).k).1 })
 else (0,v)
noncomputable def bt (p:Pr)(s:fz)(v:Wd):Int×Wd:=if s.fn<1∨8<s.fn then (1,v) else if 3≤s.fn∧s.fn≤6 then gD p s v else gm p s v
def AO (i:Nat)(v:Wd):Wd:={ v with ps:=v.ps.set i ⟨{ (aq v i).k with ev:=[] },(aq v i).g⟩,ev:=v.ev.set i (v.ev.getD i []++(aq v i).k.ev) }
def cw (v:Wd):Nat→Wd
 | 0=>v
 | i+1=>AO i (cw v i)
def lh (v:Wd):Wd:=cw v v.ps.length
noncomputable def ee (p:Pr)(s:fz)(v:Wd):Wd:=if s.fn=7 then v else lh (bt p s v).2
structure bI (p:Pr)(cf:Cf)(c:Nat)(v:Wd):Prop where
 may:fg cf
 n:v.ps.length=cf.n.toNat
 ev:v.ev.length=v.ps.length
 pl:∀ i,i<v.ps.length→cx p (aq v i)∧e4 (aq v i).k={ cf with me:=i }∧(aq v i).k.now≤c
 net:v.net.length≤300∧∀ m∈v.net,m.2.1<v.ps.length∧m.2.2.length≤1000
 kK:∀ e∈v.ev,e.length≤9*c∧∀ x∈e,sF x
section
variable {p:Pr}{cf:Cf}{c i j:Nat}{v:Wd}{s:fz}{q:Pl}
theorem qg (h:i<v.ps.length)(net:List Ml)(ev:List (List jV)):aq ⟨v.ps.set i q,net,ev⟩ j=if i=j then q else aq v j:=by
 rw[aq,aq,bl,bl];show ((v.ps.set i q)[j]?).getD AN=_;rw[jA];split
 ·rfl
 ·rfl
theorem bI.len (h:bI p cf c v):2≤v.ps.length∧v.ps.length≤8:=by
 have h1:=h.n;have h2:=h.may.1.1;unfold fv at h2;omega
theorem bI.put (h:bI p cf c v)(hi:i<v.ps.length)(hw:cx p q)(hc:e4 q.k=e4 (aq v i).k)(hn:q.k.now≤c+1){net:List Ml}(hl:net.length≤300)(hm:∀ m∈net,m.2.1<v.ps.length∧m.2.2.length≤1000) :
   bI p cf (c+1) { v with ps:=v.ps.set i q,net:=net }:=by
 refine⟨h.may,by show (v.ps.set i q).length=_;rw[br];exact h.n,by show v.ev.length=(v.ps.set i q).length;rw[br];exact h.ev,λj hj=>?_,⟨hl,?_⟩,λe he=>⟨by have:=(h.kK e he).1;omega,(h.kK e he).2⟩⟩
 ·have kT:j<v.ps.length:=by have:j<(v.ps.set i q).length:=hj;rwa [br]at this
  rw[qg (v:=v) hi];split
  ·rename_i e;subst e;exact⟨hw,hc.trans (h.pl _ hi).2.1,hn⟩
  ·exact⟨(h.pl j kT).1,(h.pl j kT).2.1,by have:=(h.pl j kT).2.2;omega⟩
 ·intro m vc;show m.2.1<(v.ps.set i q).length∧_;rw[br];exact hm m vc
theorem bI.more (h:bI p cf c v){d:Nat}(hd:c≤d):bI p cf d v :=
 ⟨h.may,h.n,h.ev,λi hi=>⟨(h.pl i hi).1,(h.pl i hi).2.1,gO (h.pl i hi).2.2 hd⟩,h.net,λe he=>⟨by have:=(h.kK e he).1;omega,(h.kK e he).2⟩⟩
theorem Mf {k:Ks}(h:WC k):∀ m∈(bm k).1,m.2.1<k.n∧m.2.2.length≤1000:=by
 intro m hm;unfold bm at hm;split at hm
 ·cases hm
 ·simp only at hm;split at hm
  ·cases hm
  ·obtain⟨i,hi,rfl⟩:=c8.1 hm;have h1:=(List.mem_filter.1 hi).1;rw[mem_range]at h1;exact⟨h1,gO (Kk _) (by decide)⟩
theorem Mg {k:Ks}(h:WC k):∀ m∈(cu k).1,m.2.1<k.n∧m.2.2.length≤1000:=by
 intro m hm;unfold cu at hm;split at hm
 ·cases hm
 ·obtain⟨i,hi,rfl⟩:=c8.1 hm;have h1:=(List.mem_filter.1 hi).1;rw[mem_range]at h1;exact⟨h1,gO (Kk _) (by decide)⟩
theorem bI.sV (h:bI p cf c v)(hi:i<v.ps.length):(aq v i).k.n=v.ps.length:=by
 have h1:=(h.pl i hi).2.1;have h2:(e4 (aq v i).k).n=cf.n:=by rw[h1]
 have h3:((aq v i).k.n:Int)=cf.n:=h2;have:=h.n;have h4:=h.may.1.1;unfold fv at h4;omega
theorem bI.Mh (h:bI p cf c v){l:List Ml}(hl:∀ m∈l,m.2.1<v.ps.length∧m.2.2.length≤1000):(eB v.net l).length≤300∧∀ m∈eB v.net l,m.2.1<v.ps.length∧m.2.2.length≤1000 :=
 ⟨FN h.net.1,λm hm=>(FM hm).elim (h.net.2 m) (hl m)⟩
theorem bI.ak (h:bI p cf c v)(hi:i<v.ps.length)(b:UInt8):bI p cf (c+1) { v with ps:=v.ps.set i (dI p b (aq v i)).2 } :=
 h.put hi (lg.ak (h.pl i hi).1 b).wf (lg.ak (h.pl i hi).1 b).cf (by have:=(h.pl i hi).2.2;rw[aan p b (h.pl i hi).1];omega) h.net.1 h.net.2
theorem bI.recv (h:bI p cf c v)(hi:i<v.ps.length)(bs:List UInt8){net:List Ml}(hl:net.length≤300)(hm:∀ m∈net,m.2.1<v.ps.length∧m.2.2.length≤1000):bI p cf (c+1) { v with ps:=v.ps.set i (dJ p bs (aq v i)).2,net:=net } :=
 h.put hi (lg.recv (h.pl i hi).1 bs).wf (lg.recv (h.pl i hi).1 bs).cf (by have:=(h.pl i hi).2.2;rw[aap p bs (h.pl i hi).1];omega) hl hm
theorem bI.tick (h:bI p cf c v)(hi:i<v.ps.length):bI p cf (c+1) { v with ps:=v.ps.set i ⟨(bm (aq v i).k).2,(aq v i).g⟩,net:=eB v.net (bm (aq v i).k).1 }:=by
 have h1:=h.Mh (l:=(bm (aq v i).k).1) λm hm=>by have:=Mf (h.pl i hi).1.wc m hm;rwa [h.sV hi]at this
 exact h.put hi (h.pl i hi).1.tick (Fg _) (by have:=(h.pl i hi).2.2;have:=aaq (aq v i).k;show (bm (aq v i).k).2.now≤_;omega) h1.1 h1.2
theorem bI.ob (h:bI p cf c v)(hi:i<v.ps.length):bI p cf (c+1) { v with ps:=v.ps.set i ⟨(cu (aq v i).k).2,(aq v i).g⟩,net:=eB v.net (cu (aq v i).k).1 }:=by
 have h1:=h.Mh (l:=(cu (aq v i).k).1) λm hm=>by have:=Mg (h.pl i hi).1.wc m hm;rwa [h.sV hi]at this
 exact h.put hi (h.pl i hi).1.ob (Fh _) (by have:=(h.pl i hi).2.2;have:=aar (aq v i).k;show (cu (aq v i).k).2.now≤_;omega) h1.1 h1.2
theorem bI.one (h:bI p cf c v):bI p cf (c+1) (gm p s v).2:=by
 unfold gm;split
 ·exact h.more (Nat.le_succ _)
 ·have hi:s.a.toNat<v.ps.length:=by omega
  split
  ·exact h.ak hi _
  ·split
   ·exact h.tick hi
   ·split
    ·exact h.ob hi
    ·exact h.more (Nat.le_succ _)
theorem bI.FO (h:bI p cf c v){j:Nat}(hj:j<v.net.length):(v.net.getD j (0,0,[])).2.1<v.ps.length∧(v.net.getD j (0,0,[])).2.2.length≤1000:=by
 rw[bl,aO hj];exact h.net.2 _ (getElem_mem hj)
theorem bI.erase (h:bI p cf c v)(j:Nat):(v.net.eraseIdx j).length≤300∧∀ m∈v.net.eraseIdx j,m.2.1<v.ps.length∧m.2.2.length≤1000 :=
 ⟨gO (List.length_eraseIdx_le _ _) h.net.1,λm hm=>h.net.2 m (List.mem_of_mem_eraseIdx hm)⟩
theorem bI.Mi (h:bI p cf c v){net:List Ml}(hl:net.length≤300)(hm:∀ m∈net,m.2.1<v.ps.length∧m.2.2.length≤1000):bI p cf (c+1) { v with net:=net } :=
 { h.more (Nat.le_succ c) with net:=⟨hl,hm⟩ }
theorem bI.FP (h:bI p cf c v):bI p cf (c+1) (gD p s v).2:=by
 unfold gD;split
 ·exact h.more (Nat.le_succ _)
 ·rename_i hr;have hj:s.n.toNat<v.net.length:=by omega
  have hx:=h.FO hj;split
  ·split
   ·exact h.more (Nat.le_succ _)
   ·refine h.Mi (by rw[br];exact h.net.1) λm hm=>?_;rcases mem_or_eq_of_mem_set hm with h1 | rfl
    ·exact h.net.2 m h1
    ·exact⟨hx.1,by show (List.set _ _ _).length≤_;rw[br];exact hx.2⟩
  ·split
   ·exact h.Mi (h.erase _).1 (h.erase _).2
   ·refine h.recv hx.1 _ ?_ ?_ <;> split
    ·exact h.net.1
    ·exact (h.erase _).1
    ·exact h.net.2
    ·exact (h.erase _).2
theorem bI.step (h:bI p cf c v):bI p cf (c+1) (bt p s v).2:=by
 unfold bt;split
 ·exact h.more (Nat.le_succ _)
 ·split
  ·exact h.FP
  ·exact h.one
theorem rk (v:Wd):∀ i,(cw v i).ps.length=v.ps.length∧(cw v i).net=v.net∧(cw v i).ev.length=v.ev.length
 | 0=>⟨rfl,rfl,rfl⟩
 | i+1=>by
  obtain⟨h1,h2,h3⟩:=rk v i;exact⟨by show (List.set _ _ _).length=_;rw[br,h1],h2,by show (List.set _ _ _).length=_;rw[br,h3]⟩
theorem yg (v:Wd):∀ {i j:Nat},i≤v.ps.length→aq (cw v i) j=if j<i then ⟨{ (aq v j).k with ev:=[] },(aq v j).g⟩ else aq v j
 | 0,j,_=>by rw[ae (Nat.not_lt_zero _)];rfl
 | i+1,j,h=>by
  have h1:=yg v (i:=i) (j:=i) (by omega);rw[ae (Nat.lt_irrefl _)]at h1;show aq ⟨(cw v i).ps.set i _,_,_⟩ j=_;rw[qg (v:=cw v i) (by rw[(rk v i).1];omega),h1,yg v (i:=i) (j:=j) (by omega)];by_cases h2:i=j
  ·subst h2;rw[al rfl,al (by omega)]
  ·rw[ae h2];by_cases h3:j<i
   ·rw[al h3,al (by omega)]
   ·rw[ae h3,ae (by omega)]
theorem FQ (v:Wd)(hl:v.ev.length=v.ps.length):∀ {i j:Nat},i≤v.ps.length→(cw v i).ev.getD j []=if j<i then v.ev.getD j []++(aq v j).k.ev else v.ev.getD j []
 | 0,j,_=>by rw[ae (Nat.not_lt_zero _)];rfl
 | i+1,j,h=>by
  have h1:=yg v (i:=i) (j:=i) (by omega);rw[ae (Nat.lt_irrefl _)]at h1;have h4:=FQ v hl (i:=i) (j:=i) (by omega);rw[ae (Nat.lt_irrefl _)]at h4;show ((cw v i).ev.set i ((cw v i).ev.getD i []++(aq (cw v i) i).k.ev)).getD j []=_;rw[h1,h4,bl,jA];by_cases h2:i=j
  ·subst h2;rw[al rfl,al (by rw[(rk v i).2.2,hl];omega),al (by omega)];rfl
  ·rw[ae h2,← bl,FQ v hl (i:=i) (j:=j) (by omega)];by_cases h3:j<i
   ·rw[al h3,al (by omega)]
   ·rw[ae h3,ae (by omega)]
theorem aau {α:Type}{l:List α}{x d:α}(h:x∈l):∃ i,i<l.length∧l.getD i d=x:=by
 obtain⟨i,hi,rfl⟩:=List.getElem_of_mem h;exact⟨i,hi,by rw[bl,aO hi];rfl⟩
theorem AP {α:Type}{l:List α}{d:α}{i:Nat}(h:i<l.length):l.getD i d∈l:=by
 rw[bl,aO h];exact getElem_mem _
theorem bI.cw (h:bI p cf c v){i:Nat}(hi:i≤v.ps.length):bI p cf (c+1) (cw v i):=by
 obtain⟨h1,h2,h3⟩:=rk v i;refine⟨h.may,by rw[h1];exact h.n,by rw[h1,h3];exact h.ev,λj hj=>?_,by rw[h1,h2];exact h.net,λe he=>?_⟩
 ·rw[h1]at hj;obtain⟨dD,dU,a3⟩:=h.pl j hj;rw[yg v hi];split
  ·exact⟨dD.told,dU,by show (aq v j).k.now≤_;omega⟩
  ·exact⟨dD,dU,by omega⟩
 ·obtain⟨j,hj,rfl⟩:=aau (d:=[]) he;rw[h3]at hj;rw[FQ v h.ev hi];have h4:=h.kK _ (AP (d:=[]) hj);have h5:=(h.pl j (by rw[← h.ev];exact hj)).1.wc;split
  ·refine⟨by have:=h5.kK;rw[aK];omega,λx hx=>?_⟩;rcases eV.1 hx with hx | hx
   ·exact h4.2 x hx
   ·exact h5.bF x hx
  ·exact⟨by omega,h4.2⟩
theorem bI.drain (h:bI p cf c v):bI p cf (c+1) (lh v):=h.cw (bh _)
theorem bI.go (h:bI p cf c v):bI p cf (c+2) (ee p s v):=by
 unfold ee;split
 ·exact h.more (by omega)
 ·exact h.step.drain
end
end
section
structure c4 where
 frm:Int
 to:Int
 ad:Option Addr
 c:Nat
 bs:List UInt8
abbrev c4.cells (m:c4):List Value:=[.int .i64 m.frm,.int .i64 m.to,.slice m.ad m.bs.length m.c]
def iC (ms:List c4):List Value:=ms.flatMap c4.cells
def c4.own (m:c4):SP:=Sl 5 1 m.ad m.bs.length m.c (bc m.bs)
def fJ (ms:List c4):SP:=λh=>ck (ms.map c4.own) h
theorem AQ (l m:List c4):iC (l++m)=iC l++iC m:=by simp[iC]
theorem Mj (l:List c4)(i:Nat):(iC l).drop (i*3)=iC (l.drop i):=by
 induction i generalizing l with
 | zero=>simp
 | succ i ih =>
  cases l with
  | nil=>simp[iC]
  | cons x l =>
   rw[show (i+1)*3=i*3+3 from by omega];simp only[iC,flatMap_cons,List.drop_succ_cons,c4.cells] at *;rw[← ih l];simp
theorem aav (l:List c4)(i:Nat):(iC l).take (i*3)=iC (l.take i):=by
 induction i generalizing l with
 | zero=>simp[iC]
 | succ i ih =>
  cases l with
  | nil=>simp[iC]
  | cons x l =>
   rw[show (i+1)*3=i*3+3 from by omega];simp only[iC,flatMap_cons,take_succ_cons,c4.cells] at *;rw[← ih l];simp
theorem aaw (l:List c4)(i:Nat)(h:i<l.length):((iC l).drop (i*3)).take 3=l[i].cells:=by
 rw[Mj,j6 h];simp only[iC,flatMap_cons,c4.cells,cons_append,nil_append,take_succ_cons,take_zero]
theorem fJ.nil {W w:World}{L:List SP}(I:V W w L):V W w (fJ []::L) :=
 ⟨I.below,let ⟨h,p,q⟩:=I.sat;⟨h,p,λ_=>none,h,λ_=>.inl rfl,λ_ _ e=>(by cases e),Hp.Sub.refl _,trivial,q⟩⟩
theorem fJ.out {W w:World}{L:List SP}{a b:List c4}{m:c4}(I:V W w (fJ (a++m::b)::L)):V W w (m.own::fJ (a++b)::L):=by
 have h1:=I.open (M:=(a++m::b).map c4.own) (λ_ x=>x);have h2:((a++m::b).map c4.own++L).Perm (m.own::((a++b).map c4.own++L)):=by
  rw[← cons_append,← map_cons];exact ((perm_middle (a:=m) (l₁:=a) (l₂:=b)).map c4.own).append_right L
 have h3:=h1.perm h2;have h4:=h3.perm (List.perm_append_comm (l₁:=[m.own]) (l₂:=(a++b).map c4.own++L));have h5:V W w ((a++b).map c4.own++(L++[m.own])):=by simpa using h4
 have h6:=V.shut (A:=fJ (a++b)) h5 (λ_ x=>x);exact h6.perm (List.Perm.trans (List.perm_append_comm (l₁:=fJ (a++b)::L) (l₂:=[m.own])) (List.Perm.refl _))
theorem fJ.Mk {W w:World}{L:List SP}{a b:List c4}{m:c4}(I:V W w (m.own::fJ (a++b)::L)):V W w (fJ (a++m::b)::L):=by
 have h1:V W w (fJ (a++b)::([m.own]++L)):=I.perm (List.Perm.swap _ _ _);have h2:=h1.open (M:=(a++b).map c4.own) (λ_ x=>x);refine V.shut (M:=(a++m::b).map c4.own) (h2.perm ?_) (λ_ x=>x);have h3:((a++b).map c4.own++([m.own]++L)).Perm (m.own::((a++b).map c4.own++L)):=by
  have:=perm_middle (a:=m.own) (l₁:=(a++b).map c4.own) (l₂:=L);simpa using this
 refine h3.trans ?_;rw[← cons_append,← map_cons];exact (((perm_middle (a:=m) (l₁:=a) (l₂:=b)).map c4.own).symm).append_right L
theorem fJ.rd {W w:World}{L R:List SP}{xs:List c4}(I:V W w L)[k:pF L (fJ xs) R](i:Nat)(h:i<xs.length):a6 w xs[i].ad xs[i].bs.length xs[i].bs:=by
 have h1:=I.pick (fJ xs);rw[show xs=xs.take i++xs[i]::xs.drop (i+1) from by rw[← j6 h,jz]]at h1;have h2:=fJ.out h1;refine⟨rfl,λe=>?_,λx hx hp=>?_⟩
 ·rcases Nat.eq_zero_or_pos xs[i].bs.length with h0 | h0
  ·exact h0
  ·obtain⟨b,off,e2,_⟩:=V.bY (L:=xs[i].own::_) (e:=5) (sz:=1) (n:=xs[i].bs.length) (c:=xs[i].c) (cs:=bc xs[i].bs) (k:=⟨List.Perm.refl _⟩) h2 xs[i].ad h0;rw[e]at e2;cases e2
 ·obtain⟨b,off,e2,hr⟩:=V.bY (L:=xs[i].own::_) (e:=5) (sz:=1) (n:=xs[i].bs.length) (c:=xs[i].c) (cs:=bc xs[i].bs) (k:=⟨List.Perm.refl _⟩) h2 xs[i].ad hp;exact⟨b,off,by rw[hx]at e2;cases e2;rfl,hr⟩
abbrev oy:=Int×Int×List UInt8
def c4.m (x:c4):oy:=(x.frm,x.to,x.bs)
def bD (q:Nat)(ms:List oy):SP:=λh=>∃ i:(Option Addr×Nat)×List c4,(i.2.map c4.m=ms∧ms.length≤300∧∀ x∈i.2,x.bs.length≤1000) ∧
 ck [aa q 110 [.slice i.1.1 i.2.length i.1.2],Sl 124 3 i.1.1 i.2.length i.1.2 (iC i.2),fJ i.2] h
theorem bD.open {W w:World}{L:List SP}{q:Nat}{ms:List oy}(I:V W w (bD q ms::L)) :
   ∃ ad c xs,ms=xs.map c4.m∧(xs.length≤300∧∀ x∈xs,x.bs.length≤1000)∧V W w (aa q 110 [.slice ad xs.length c]::Sl 124 3 ad xs.length c (iC xs)::fJ xs::L):=by
 obtain⟨i,⟨h1,h2,h3⟩,h⟩:=I.jj (B:=λi:(Option Addr×Nat)×List c4=>ck [aa q 110 [.slice i.1.1 i.2.length i.1.2],Sl 124 3 i.1.1 i.2.length i.1.2 (iC i.2),fJ i.2]) (λ_ h=>h);exact⟨i.1.1,i.1.2,i.2,h1.symm,⟨by rw[← h1]at h2;simpa using h2,h3⟩,h.open (λ_ x=>x)⟩
theorem bD.shut {W w:World}{L R R2 R3:List SP}{q n c:Nat}{ad:Option Addr}{cs:List Value}{xs:List c4}{ms:List oy}(I:V W w L)[k:fC L q 110 [.slice ad n c] R][k2:fL R ad n c 124 3 cs R2][k3:pF R2 (fJ xs) R3]
   (hn:n=xs.length) (hc:cs=iC xs) (hm:ms=xs.map c4.m) (h3:xs.length≤300) (h4:∀ x∈xs,x.bs.length≤1000):V W w (bD q ms::R3):=by
 subst hn;subst hc;subst hm;have h1:=(I.perm k.perm).perm (List.Perm.cons _ (k2.perm.trans (List.Perm.cons _ k3.perm)));exact V.shut (M:=[_,_,_]) h1 λ_ x=>⟨((ad,c),xs),⟨rfl,by simpa using h3,h4⟩,x⟩
theorem FR {w:World}{b off:Nat}{xs:List c4}(h:Rd w b off (iC xs))(k:Nat)(hk:k<xs.length) :
   Rd w b (off+k*3) xs[k].cells∧w.cell? ⟨b,off+k*3,none⟩=some (.int .i64 xs[k].frm)∧w.cell? ⟨b,off+k*3+1,none⟩=some (.int .i64 xs[k].to)∧w.cell? ⟨b,off+k*3+2,none⟩=some (.slice xs[k].ad xs[k].bs.length xs[k].c):=by
 have hr:=h.part (k*3) 3;rw[aaw xs k hk]at hr;exact⟨hr,hr 0 _ rfl,hr 1 _ rfl,hr 2 _ rfl⟩
theorem aax {W w:World}{L:List SP}{c:Nat}(I:V W w L) :
   Calls prog 95 #[.slice none 0 c] w λe w'=>e=.returned (.slice none 0 0)∧V W w' L:=by
 refine EN func95 ntmps95 rfl rfl λa E=>?_;refine RN 6 E I λa E=>?_;replace E:=E.eo 4;refine RT 3 E I ?_;exact⟨rfl,I⟩
theorem aay {W w:World}{L:List SP}{x:Addr}{c:Nat}(I:V W w L) :
   Calls prog 95 #[.slice (some x) 0 c] w λe w'=>∃ av,e=.returned (.slice av 0 0)∧V W w' (Sl 5 1 av 0 0 []::L):=by
 refine EN func95 ntmps95 rfl rfl λa E=>?_;refine RN 6 E I λa E=>?_;replace E:=E.aN 4;refine RN 2 E I λa E=>?_;refine tc E rfl I underlying22 Ty.t5 rfl λb5 a w E I ho=>?_;clear ho;refine RN 1 E I λa E=>?_;refine BE E rfl underlying22 Ty.t5 rfl (bh _) λa E=>?_;refine RT 1 E I ?_;exact⟨_,rfl,I⟩
theorem aaz {W w:World}{L:List SP}{b off c:Nat}{bs:List UInt8}(I:V W w L)(hr:Rd w b off (bc bs))(h0:0<bs.length)(hl:bs.length≤140737488355328) :
   Calls prog 95 #[.slice (some ⟨b,off,none⟩) bs.length c] w λe w'=>∃ av c',e=.returned (.slice av bs.length c')∧V W w' (Sl 5 1 av bs.length c' (bc bs)::L):=by
 refine EN func95 ntmps95 rfl rfl λa E=>?_;refine RN 6 E I λa E=>?_;replace E:=E.aN 4;refine RN 2 E I λa E=>?_;refine tc E rfl I underlying22 Ty.t5 rfl λb5 a w E I ho=>?_;replace hr:=ho.rd hr;clear ho;refine RN 1 E I λa E=>?_;refine cJ E rfl I underlying22 Ty.t5 rfl rfl hr (by rw[dx,Nat.mul_one]) (ek bs) h0 (by decide) (by omega) λrQ qx a w E I=>?_;refine RT 1 E I ?_;rw[Nat.zero_add] at *;exact⟨_,_,rfl,I⟩
theorem aaA {W w:World}{L:List SP}{ad:Option Addr}{n c:Nat}{bs:List UInt8}(I:V W w L)(hr:a6 w ad n bs)(hl:n≤140737488355328) :
   Calls prog 95 #[.slice ad n c] w λe w'=>∃ av c',e=.returned (.slice av n c')∧V W w' (Sl 5 1 av n c' (bc bs)::L):=by
 obtain⟨rfl,h2,h3⟩:=hr;cases ad with
 | none =>
  have h0:=h2 rfl;obtain rfl:=g6 h0;exact (aax I).mono λe w' ⟨h,I⟩=>⟨none,0,h,I.bH _ _ _⟩
 | some x =>
  rcases Nat.eq_zero_or_pos bs.length with h0 | h0
  ·obtain rfl:=g6 h0;exact (aay I).mono λe w' ⟨av,h,I⟩=>⟨av,0,h,I⟩
  ·obtain⟨b,off,rfl,hr⟩:=h3 x rfl h0;exact aaz I hr h0 hl
theorem Mm {W w:World}{L:List SP}{ad:Option Addr}{n c:Nat}{f t:Int}{bs:List UInt8}(I:V W w L)(hr:∀ w',V W w' L→a6 w' ad n bs)(hl:n≤140737488355328) :
   Calls prog 76 #[.agg #[.int .i64 f,.int .i64 t,.slice ad n c]] w λe w'=>∃ av c',e=.returned (.agg #[.int .i64 f,.int .i64 t,.slice av n c'])∧V W w' (Sl 5 1 av n c' (bc bs)::L):=by
 refine EN func76 ntmps76 rfl rfl λa E=>?_;refine BX 1 E I λb1 a w E I=>?_;refine AL 0 E I λb2 a w E I=>?_;refine a2 3 E I (aaA I (hr _ I.sub) hl) λav c' a w E I=>?_;refine ST 1 E I (λa w E I=>?_);refine SA 2 E I λa w E I=>?_;refine RT 0 E I ?_;exact⟨_,_,rfl,I.sub⟩
theorem Mn {W w:World}{L R:List SP}{q e:Nat}{s:Option Addr}{n c:Nat}(I:V W w L) [fC L q e [.slice s n c] R] :
   Calls prog 23 #[pt q] w λe w'=>e=.returned (.int .i64 n)∧V W w' L:=by
 refine EN func23 ntmps23 rfl rfl λa E=>?_;refine RN 6 E I λa E=>?_;replace E:=E.aN 4;refine RT 8 E I ?_;exact⟨rfl,I⟩
theorem Mo {W w:World}{L:List SP}{q:Nat}{ms:List oy}(I:V W w (bD q ms::L)) :
   Calls prog 23 #[pt q] w λe w'=>e=.returned (.int .i64 ms.length)∧V W w' (bD q ms::L):=by
 obtain⟨ad,c,xs,rfl,hx,I⟩:=bD.open I;refine (Mn (q:=q) I).mono λe w' ⟨h,I⟩=>⟨by rw[h];simp,bD.shut (q:=q) (ad:=ad) (xs:=xs) I rfl rfl rfl hx.1 hx.2⟩
theorem AR {W w:World}{L R:List SP}{q e:Nat}{s:Option Addr}{n c:Nat}{i:Int}(I:V W w L) [fC L q e [.slice s n c] R] :
   Calls prog 75 #[pt q,.int .i64 i] w λe w'=>e=.returned (.bool (decide (0≤i)&&decide (i<n)))∧V W w' L:=by
 refine EN func75 ntmps75 rfl rfl λa E=>?_;refine BY 6 E I (λbw a E=>?_) λbw a E=>?_
 ·
  refine CL 2 E I (Mn (q:=q) I) λa w E I=>?_;refine RT 3 E I ?_;exact⟨by rw[dd (p:=0≤i) (by omega),Bool.true_and],I⟩
 refine RT 6 E I ?_;exact⟨by rw[bq (p:=0≤i) (by omega),Bool.false_and],I⟩
theorem aaB {W w:World}{L:List SP}(I:V W w L) :
   Calls prog 42 #[] w λe w'=>∃ q,e=.returned (pt q)∧V W w' (bD q []::L):=by
 refine EN func42 ntmps42 rfl rfl λa E=>?_;refine BX 4 E I λb2 a w E I=>?_;refine RT 1 E I ?_;exact⟨_,rfl,by
  have h1:=(fJ.nil (I.bH 124 3 none));exact (bD.shut (q:=b2) (xs:=[]) (ms:=[]) h1 rfl rfl rfl (by simp) (by simp)).sub⟩
theorem Mp {p q r vs:List Value}{o:Nat}(ho:o=p.length)(h:q.length=vs.length):cC (p++q++r) o vs=p++vs++r:=by
 subst ho;have e1:(p++q++r).take p.length=p:=by rw[dw,List.take_left]
 have e2:(p++q++r).drop (p.length+vs.length)=r:=by rw[← h,show p.length+q.length=(p++q).length from by simp,drop_left]
 rw[cC,e1,e2]
theorem aaC {pre cs post:List Value}{n i:Nat}(hl:cs.length=n*3)(hi:i<n) :
   ∃ v,v.length=3∧cC (pre++cs++post) (pre.length+i*3) (cs.drop ((i+1)*3))=(pre++(cs.take (i*3)++cs.drop ((i+1)*3)))++v++post:=by
 refine⟨(cs.drop (i*3)).drop ((n-1-i)*3),by rw[c7,c7];omega,?_⟩;have qI:cs=cs.take (i*3)++((cs.drop (i*3)).take ((n-1-i)*3)++(cs.drop (i*3)).drop ((n-1-i)*3)):=by rw[jz,jz]
 have e:pre++cs++post=(pre++cs.take (i*3))++(cs.drop (i*3)).take ((n-1-i)*3)++((cs.drop (i*3)).drop ((n-1-i)*3)++post):=by
  conv=>lhs;rw[qI]
  simp only[dw]
 rw[e,Mp (by rw[aK,en];omega) (by rw[en,c7,c7];omega)];simp only[dw]
theorem aaD {W w:World}{L:List SP}{ad:Option Addr}{c n i:Nat}{cs:List Value}(I:V W w (Sl 124 3 ad n c cs::L))(hi:i<n)(hn:n≤140737488355328)(fN:∀ v∈cs,v.oneCell'=true) :
   Calls prog 103 #[.slice ad n c,.int .i64 i,.int .i64 ((i+1:Nat):Int)] w λe w'=>e=.returned (.slice ad (n-1) c)∧V W w' (Sl 124 3 ad (n-1) c (cs.take (i*3)++cs.drop ((i+1)*3))::L):=by
 have aj:=(I.sl ad);obtain⟨b,pre,post,⟨h1,h2,rfl,h4⟩,gx⟩:=I.ln (by omega);replace I:=gx;clear gx;have nC:∃ pO,fm (some ⟨b,pre.length,none⟩) (i+1) c 3=some ⟨b,pO,none⟩∧∀ w,V W w (aa b 124 (pre++cs++post)::L)→Rd w b pO (cs.drop ((i+1)*3)):=by
  by_cases Mq:c=i+1
  ·refine⟨pre.length,by simp[fm,Mq],λw _=>?_⟩;rw[List.drop_of_length_le (by omega)];intro j v hj;simp at hj
  ·refine⟨pre.length+(i+1)*3,oG Mq,λw I=>?_⟩;intro j v hj;have hlt:=(a1.1 hj).1;rw[c7]at hlt;rw[I.cell,dw,getElem?_append_right (by omega),show pre.length+(i+1)*3+j-pre.length=(i+1)*3+j from by omega,lM (by omega)];rw[getElem?_drop]at hj;exact hj
 obtain⟨pO,ye,nC⟩:=nC;refine EN func103 ntmps103 rfl rfl λa E=>?_;refine RN 8 E I λa E=>?_;refine SS E (O7 E underlying108 Ty.t124 (by omega) (by omega) (by omega)) λa E=>?_;refine RN 5 E I λa E=>?_;rw[show decide ((i:Int)=((i+1:Nat):Int))=false from bq (by omega)]at E;replace E:=E.aN 16;refine bL 6 [] [0,1,2,3,4,5,1006,7] E I λa w E I hH U=>?_;refine RH 6 E I hH U λa E=>?_;rw[ye,oG (by omega:c≠0)]at E;refine Pa E rfl I underlying108 Ty.t124 rfl (nC _ I) (by simp;omega) (λv hv=>fN v (List.mem_of_mem_drop hv)) (by omega) (by simp;omega) λa w E I=>?_;obtain⟨v,hv,Dz⟩:=aaC (pre:=pre) (post:=post) (n:=n) (i:=i) h1 hi;rw[show pre.length+0*3+(i-0)*3=pre.length+i*3 from by omega,Dz]at I;rw[show i-0+(n-(i+1))=n-1 from by omega,show pre.length+0*3=pre.length from by omega]at E;have hP:(pre++(cs.take (i*3)++cs.drop ((i+1)*3))).length=pre.length+(n-1)*3:=by
  simp only[aK,en,c7];omega
 refine RN 1 E I λa E=>?_;refine RN 6 E I λa E=>?_;rw[oG (by omega)]at E;have hle:pre.length+(n-1)*3+(n-(n-1))*3≤(pre++(cs.take (i*3)++cs.drop ((i+1)*3))++v++post).length:=by
  rw[aK,aK,hP,hv];omega
 refine Ha E rfl I underlying108 Ty.t124 rfl rfl hle λa w E I=>?_;refine RT 3 E I ?_;refine⟨rfl,?_⟩;generalize hz:(Builtin.zeroCells (Value.cells (.agg #[.int .i64 0,.int .i64 0,.slice none 0 0])) (n-(n-1))).toList=zs at I;have iR:zs.length=(n-(n-1))*3:=by rw[← hz];exact wD 0 (aX:=0) rfl _
 rw[Mp hP.symm (by rw[hv,iR];omega)]at I;rw[dw _ zs post]at I;exact V.iF I (by rw[aK]at hP;omega) (by omega) (by rw[aK,iR];omega)
def pz (ms:List oy)(n:Nat):Bool:=decide (ms.length<300)&&decide (n≤1000)
theorem aaE {W w:World}{L:List SP}{q:Nat}{ms:List oy}{ad:Option Addr}{n c:Nat}{f t:Int}{bs:List UInt8}(I:V W w (bD q ms::L))(hr:∀ w',V W w' L→a6 w' ad n bs) :
   Calls prog 100 #[pt q,.agg #[.int .i64 f,.int .i64 t,.slice ad n c]] w λe w'=>e=.returned (.bool (pz ms n))∧V W w' (bD q (if pz ms n then ms++[(f,t,bs)] else ms)::L):=by
 have nN:=(hr _ I.tail).1;subst nN;obtain⟨k6,eF,xs,rfl,hx,I⟩:=bD.open I;refine EN func100 ntmps100 rfl rfl λa E=>?_;refine BX 1 E I λb3 a w E I=>?_;refine RN 6 E I λa E=>?_;replace E:=E.aN 7;refine BY 8 E I (λlr a E=>?_) λlr a E=>?_
 ·
  have hm:pz (xs.map c4.m) bs.length=false:=by simp only[pz,bf,Bool.and_eq_false_iff,decide_eq_false_iff_not];left;omega
  refine RT 8 E I ?_;exact⟨by rw[hm],by rw[hm,ae (by decide)];exact (bD.shut (q:=q) (ad:=k6) (xs:=xs) I rfl rfl rfl hx.1 hx.2).sub⟩
 refine IF 5 E I (λaj a E=>?_) λaj a E=>?_
 ·
  have hm:pz (xs.map c4.m) bs.length=false:=by simp only[pz,bf,Bool.and_eq_false_iff,decide_eq_false_iff_not];right;omega
  refine RT 2 E I ?_;exact⟨by rw[hm],by rw[hm,ae (by decide)];exact (bD.shut (q:=q) (ad:=k6) (xs:=xs) I rfl rfl rfl hx.1 hx.2).sub⟩
 have hm:pz (xs.map c4.m) bs.length=true:=by simp only[pz,bf,fB,decide_eq_true_eq];omega
 refine aY 1 (λw0 w'=>w'.cell? ⟨q,0,none⟩=some (.slice k6 xs.length eF)) [5,6,7] [0,1,2,3,3004,1005,1006,1007,1008,9,10,1011] E I λa w E I hH=>?_;have U:=hH.at w (I.bu rfl);refine RH 4 E I hH U λa E=>?_;refine QH E (λw hc=>ag E (hc)) U λa E=>?_;refine RH 1 E I hH U λa E=>?_;refine a2 0 E I (Mm I (λw' h=>hr w' h.sub) (by omega)) λav c' a w E I=>?_;replace U:=hH.at w (I.bu rfl);refine RH 0 E I hH U λa E=>?_;refine cm E rfl I underlying108 Ty.t124 rfl rfl rfl rfl (by decide) (by decide) λHt a w E I ho=>?_;clear ho;replace U:=hH.at w (I.bu rfl);refine RH 0 E I hH U λa E=>?_;refine cJ E rfl I underlying108 Ty.t124 rfl rfl I.ai rfl (by simp[Value.oneCell']) (by decide) (by decide) (by omega) λKn Ko a w E I=>?_;refine ST 2 E I (λa w E I=>?_);refine RT 2 E I ?_;refine⟨by rw[hm],?_⟩;rw[hm,al rfl];have h3:=(I.pick (fJ xs)).pick (Sl 5 1 av bs.length c' (bc bs));have h4:=fJ.Mk (a:=xs) (b:=[]) (m:=⟨f,t,av,c',bs⟩) (by rw[append_nil];exact h3);refine (bD.shut (q:=q) (xs:=xs++[⟨f,t,av,c',bs⟩]) (ms:=xs.map c4.m++[(f,t,bs)]) h4 (by simp) (by rw[AQ];rfl) (by simp[c4.m]) (by simp;omega) ?_).sub;intro x dc;rcases eV.1 dc with h | h
 ·exact hx.2 x h
 ·obtain rfl:=mem_singleton.1 h;exact Int.ofNat_le.1 aj
theorem aaF {W w:World}{L:List SP}{q:Nat}{ms:List oy}{i:Int}(I:V W w (bD q ms::L))(hi:(decide (0≤i)&&decide (i<ms.length))=false) :
   Calls prog 52 #[pt q,.int .i64 i] w λe w'=>e=.returned (.tuple #[.agg #[.int .i64 0,.int .i64 0,.slice none 0 0],.bool false])∧V W w' (bD q ms::L):=by
 obtain⟨k6,eF,xs,rfl,hx,I⟩:=bD.open I;rw[bf]at hi;refine EN func52 ntmps52 rfl rfl λa E=>?_;refine AL 1 E I λb4 a w E I=>?_;refine CL 5 E I (AR (q:=q) I) λa w E I=>?_;rw[hi]at E;refine RN 1 E I λa E=>?_;replace E:=E.eo 9;refine SA 3 E I λa w E I=>?_;refine RT 1 E I ?_;exact⟨rfl,(bD.shut (q:=q) (ad:=k6) (xs:=xs) I rfl rfl rfl hx.1 hx.2).sub⟩
theorem FT {i n:Nat}(h:i<n):(decide (0≤(i:Int))&&decide ((i:Int)<(n:Int)))=true:=by
 simp;omega
theorem aaG {W w:World}{L:List SP}{q:Nat}{ms:List oy}{i:Nat}(I:V W w (bD q ms::L))(hi:i<ms.length) :
   Calls prog 52 #[pt q,.int .i64 i] w λe w'=>∃ ad c,e=.returned (.tuple #[.agg #[.int .i64 ms[i].1,.int .i64 ms[i].2.1,.slice ad ms[i].2.2.length c],.bool true])∧V W w' (Sl 5 1 ad ms[i].2.2.length c (bc ms[i].2.2)::bD q ms::L):=by
 obtain⟨k6,eF,xs,rfl,hx,I⟩:=bD.open I;have dK:i<xs.length:=by simpa using hi
 simp only[getElem_map,c4.m];refine EN func52 ntmps52 rfl rfl λa E=>?_;refine AL 1 E I λb4 a w E I=>?_;refine CL 5 E I (AR (q:=q) I) λa w E I=>?_;rw[FT dK]at E;refine RN 1 E I λa E=>?_;replace E:=E.aN 9;refine RN 2 E I λa E=>?_;obtain⟨b',dG,rfl,cK⟩:=I.bY k6 (by omega);have gH:=FR cK i dK;refine RN 6 E I λa E=>?_;refine SS E (bO E underlying124 rfl Ty.t124 (gH.1)) λa E=>?_;refine a2 0 E I (Mm I (λw' h=>fJ.rd h i dK) (by have:=hx.2 xs[i] (getElem_mem dK);omega)) λav c' a w E I=>?_;refine SA 0 E I λa w E I=>?_;refine RT 1 E I ?_;exact⟨_,_,rfl,(bD.shut (q:=q) (ad:=some ⟨b',dG,none⟩) (xs:=xs) I rfl rfl rfl hx.1 hx.2).sub⟩
theorem aaH (xs:List c4):∀ v∈iC xs,v.oneCell'=true:=by
 intro v hv;simp only[iC,List.mem_flatMap,c4.cells]at hv;obtain⟨x,_,hx⟩:=hv;simp at hx;rcases hx with rfl | rfl | rfl <;> rfl
theorem aaI {W w:World}{L:List SP}{q:Nat}{ms:List oy}{i:Nat}(I:V W w (bD q ms::L))(hi:i<ms.length) :
   Calls prog 63 #[pt q,.int .i64 i] w λe w'=>e=.returned (.bool true)∧V W w' (bD q (ms.eraseIdx i)::L):=by
 obtain⟨k6,eF,xs,rfl,hx,I⟩:=bD.open I;have dK:i<xs.length:=by simpa using hi
 refine EN func63 ntmps63 rfl rfl λa E=>?_;refine CL 6 E I (AR (q:=q) I) λa w E I=>?_;rw[FT dK]at E;refine RN 1 E I λa E=>?_;replace E:=E.aN 8;refine CL 10 E I (aaD (I.pick (Sl 124 3 k6 xs.length eF (iC xs))) dK (by omega) (aaH xs)) λa w E I=>?_;refine ST 2 E I (λa w E I=>?_);refine RT 2 E I ?_;refine⟨rfl,?_⟩;have h1:=I.pick (fJ xs);have h0:xs=xs.take i++xs[i]::xs.drop (i+1):=by rw[← j6 dK,jz]
 have h2:=h1;rw[show fJ xs=fJ (xs.take i++xs[i]::xs.drop (i+1)) from by rw[← h0]]at h2;have h3:=(fJ.out h2).tail;rw[Mj,aav,← AQ,← eraseIdx_eq_take_drop_succ]at h3;exact (bD.shut (q:=q) (ad:=k6) (xs:=xs.eraseIdx i) (ms:=(xs.map c4.m).eraseIdx i) h3 (by rw[List.length_eraseIdx];simp[dK]) rfl (by simp only[eraseIdx_eq_take_drop_succ,cU,map_take,map_drop]) (by rw[List.length_eraseIdx];simp[dK];omega) (λx h=>hx.2 x (List.mem_of_mem_eraseIdx h))).sub
theorem Mr (bs:List UInt8)(i:Nat)(x:UInt8):(bc bs).set i (.int .u8 (x.toNat:Int))=bc (bs.set i x):=by
 simp[bc,List.map_set]
theorem yh {p q r:List Value}{i:Nat}{v:Value}(h:i<q.length):(p++q++r).set (p.length+i) v=p++q.set i v++r:=by
 rw[dw,set_append_right _ _ (by omega),show p.length+i-p.length=i from by omega,set_append_left _ _ h,dw]
theorem aaJ {W w:World}{L:List SP}{q:Nat}{ms:List oy}{i:Nat}{aT:Int}{x:UInt8}(I:V W w (bD q ms::L))(hi:i<ms.length) :
   Calls prog 64 #[pt q,.int .i64 i,.int .i64 aT,.int .u8 (x.toNat:Int)] w λe w' =>
    e=.returned (.bool (decide (0≤aT)&&decide (aT<ms[i].2.2.length)))∧V W w' (bD q (if decide (0≤aT)&&decide (aT<ms[i].2.2.length) then ms.set i (ms[i].1,ms[i].2.1,ms[i].2.2.set aT.toNat (ms[i].2.2.getD aT.toNat 0 ^^^ x)) else ms)::L):=by
 obtain⟨k6,eF,xs,rfl,hx,I⟩:=bD.open I;have dK:i<xs.length:=by simpa using hi
 simp only[getElem_map,c4.m];obtain⟨b',dG,rfl,cK⟩:=I.bY k6 (by omega);clear cK;refine EN func64 ntmps64 rfl rfl λa E=>?_;refine CL 6 E I (AR (q:=q) I) λa w E I=>?_;rw[FT dK]at E;refine RN 2 E I λa E=>?_;replace E:=E.aN 13;refine BY 4 E I (λfb a E=>?_) λfb a E=>?_
 ·
  have hm:(decide (0≤aT)&&decide (aT<xs[i].bs.length))=false:=by rw[bq (by omega),Bool.false_and]
  refine RN 4 E I λa E=>?_;have gH:=FR (I.cX b' dG (by omega)) i dK;refine RT 11 E I ?_;exact⟨by rw[hm],by rw[hm,ae (by decide)];exact (bD.shut (q:=q) (ad:=some ⟨b',dG,none⟩) (xs:=xs) I rfl rfl rfl hx.1 hx.2).sub⟩
 refine RN 4 E I λa E=>?_;have gH:=FR (I.cX b' dG (by omega)) i dK;refine RN 4 E I λa E=>?_;refine bz E (cW E rfl (s:=17)) (ag E (gH.2.2.2)) rfl λa E=>?_;refine IF 3 E I (λaj a E=>?_) λaj a E=>?_
 ·
  have hm:(decide (0≤aT)&&decide (aT<xs[i].bs.length))=false:=by rw[bq (p:=aT<xs[i].bs.length) (by omega),Bool.and_false]
  refine RT 2 E I ?_;exact⟨by rw[hm],by rw[hm,ae (by decide)];exact (bD.shut (q:=q) (ad:=some ⟨b',dG,none⟩) (xs:=xs) I rfl rfl rfl hx.1 hx.2).sub⟩
 have hm:(decide (0≤aT)&&decide (aT<xs[i].bs.length))=true:=by simp;omega
 obtain⟨A,rfl⟩:∃ A:Nat,aT=A:=⟨aT.toNat,by omega⟩;have hA:A<xs[i].bs.length:=by omega
 rw[hm,al rfl,Int.toNat_natCast];have h1:=I.pick (fJ xs);have h0:xs=xs.take i++xs[i]::xs.drop (i+1):=by rw[← j6 dK,jz]
 rw[show fJ xs=fJ (xs.take i++xs[i]::xs.drop (i+1)) from by rw[← h0]]at h1;replace I:=fJ.out h1;clear h1;obtain⟨xa,tz⟩:∃ xa,xs[i].ad=xa:=⟨_,rfl⟩;have h2:=I;rw[show xs[i].own=Sl 5 1 xa xs[i].bs.length xs[i].c (bc xs[i].bs) from by rw[← tz];rfl]at h2;have cd:=(h2.sl xa).2;obtain⟨bb,pre,post,⟨h3,h4,h5,h6⟩,gx⟩:=h2.ln (by omega);rw[h5]at tz;replace I:=gx;clear gx h2;rw[tz]at gH;have hb:(pre++bc xs[i].bs++post)[pre.length+A]?=some (.int .u8 (xs[i].bs[A].toNat:Int)):=by
  rw[dw,getElem?_append_right (by omega),show pre.length+A-pre.length=A from by omega,lM (by rw[dx];exact hA)];simp[bc,hA]
 refine RN 8 E I λa E=>?_;refine SS E (ag E (gH.2.2.2)) λa E=>?_;refine RN 2 E I λa E=>?_;refine SS E (ag E (I.bu hb)) λa E=>?_;refine ST 3 E I (λa w E I=>?_) (hlt:=(by simp only[aK,dx];omega));refine RT 2 E I ?_;refine⟨rfl,?_⟩;rw[yh (by rw[dx];exact hA),Mr]at I;have h7:=V.iF (n:=xs[i].bs.length) (c:=xs[i].c) (sz:=1) (I.jy bb) (by rw[dx,br,Nat.mul_one]) h4 h6;obtain⟨m',wg⟩:∃ m':c4,m'=⟨xs[i].frm,xs[i].to,xs[i].ad,xs[i].c,xs[i].bs.set A (xs[i].bs[A] ^^^ x)⟩:=⟨_,rfl⟩;have FU:m'.own=Sl 5 1 (some ⟨bb,pre.length,none⟩) xs[i].bs.length xs[i].c (bc (xs[i].bs.set A (xs[i].bs[A] ^^^ x))):=by
  rw[wg,c4.own];simp only[br,tz]
 rw[← FU]at h7;have h8:=fJ.Mk (a:=xs.take i) (b:=xs.drop (i+1)) (m:=m') ((h7.pick (fJ (xs.take i++xs.drop (i+1)))).pick m'.own);have uT:xs.set i m'=xs.take i++m'::xs.drop (i+1):=by rw[set_eq_take_append_cons_drop,al dK]
 rw[← uT]at h8;refine (bD.shut (q:=q) (ad:=some ⟨b',dG,none⟩) (xs:=xs.set i m') (ms:=(xs.map c4.m).set i (xs[i].frm,xs[i].to,xs[i].bs.set A (xs[i].bs.getD A 0 ^^^ x))) h8 (by rw[br]) ?_ ?_ (by rw[br];exact hx.1) ?_).sub
 ·rw[uT]
  conv=>lhs;rw[h0]
  rw[AQ,AQ]
  congr 1
  simp only[iC,flatMap_cons]
  congr 1
  rw[wg,c4.cells,c4.cells];simp only[br]
 ·rw[List.map_set,wg,c4.m,bl,aO hA,Option.getD_some]
 ·intro y hy;rcases mem_or_eq_of_mem_set hy with h | h
  ·exact hx.2 y h
  ·rw[h,wg];simp only[br];exact hx.2 _ (getElem_mem dK)
end
section
theorem aaK {l:List Br}{frm:Int}{P:List (List UInt8)}(b:Br)(h:0<(l.foldl (hU frm P) b).done)(hb:b.done=0) :
   l.foldl (hU frm P) b∈l∧(l.foldl (hU frm P) b).done≤P.length∧oR ((l.foldl (hU frm P) b).ak.take (l.foldl (hU frm P) b).done) P=true:=by
 have key:∀ (l:List Br) (b:Br),(l.foldl (hU frm P) b=b)∨(l.foldl (hU frm P) b∈l∧(l.foldl (hU frm P) b).done≤P.length∧oR ((l.foldl (hU frm P) b).ak.take (l.foldl (hU frm P) b).done) P=true):=by
  intro l
  induction l with
  | nil=>intro b;exact .inl rfl
  | cons y l ih =>
   intro b;rw[foldl_cons];rcases ih (hU frm P b y) with h | ⟨h1,h2,h3⟩
   ·rw[h];unfold hU;split
    ·rename_i hc;exact .inr ⟨mem_cons_self ..,hc.2.2.1,hc.2.2.2⟩
    ·exact .inl rfl
   ·exact .inr ⟨gP _ h1,h2,h3⟩
 rcases key l b with h1 | h1
 ·rw[h1,hb]at h;omega
 ·exact h1
theorem aaL {u P:List (List UInt8)}(hl:u.length≤P.length)(h:oR u P=true):u=P.take u.length:=by
 have h1:=VU.1 h;rw[Nat.min_eq_left hl,take_length]at h1;exact h1
theorem Ms (p:Pr):∀ (a b:List (List UInt8)) (fr:Int) (g:Nat→Int),foldI p fr g (a++b)=foldI p (fr+(a.length:Nat)) (foldI p fr g a) b
 | [],b,fr,g=>by simp[foldI]
 | x::a,b,fr,g=>by
  rw[cons_append,foldI,Ms p a b,foldI,e9]
  congr 1;omega
theorem iH.drop {w:World}{ad:Option Addr}{zs:List ea}{d c:Nat}(h:iH w ad zs)(hc:zs.length≤c):iH w (fm ad d c 1) (zs.drop d):=by
 refine⟨λh0=>?_,λx hx=>h.2 x (List.mem_of_mem_drop hx)⟩;rw[c7]at h0;obtain⟨b,o,rfl,hr⟩:=h.1 (by omega);refine⟨b,o+d*1,oG (by omega),λj v hj=>?_⟩;rw[map_drop,getElem?_drop]at hj;have:=hr _ v hj;rw[Nat.mul_one,Nat.add_assoc];exact this
theorem Mt {w:World}{b nk base front:Nat}{p:Pr}{M:jg}(h:Rd w b 0 (dT p M nk base front)):Rd w b 1 (bJ p M.ao M.cO):=h.part 1 2
theorem aaM {p:Pr}{f:Nat}{g:Nat→Int}{P:List (List UInt8)}{d:Nat}(hd:d≤P.length):foldI p ((f+d:Nat):Int) (foldI p (f:Int) g (P.take d)) (P.drop d)=foldI p (f:Int) g P:=by
 have h1:=Ms p (P.take d) (P.drop d) (f:Int) g;rw[jz,en,Nat.min_eq_left hd]at h1;rw[h1];rfl
section
variable {W w:World}{L:List SP}{n c i N tq sq r base front:Nat}{ad:Option Addr}{M:jg}{B:iO}{p:Pr}{s:Pl}{m:Mu}{A:Sn}{T:Tr}{t:Nat→Nat}{px:aC}
set_option maxHeartbeats 1000000 in
theorem aaN (I:V W w (aD W M p m::L))(h:MI p M N m)(aZ:dj p)(aE:p.title.size≤1000000000):Calls prog 265 #[pt M.mb] w λr w'=>∃ ad c,r=.returned (.tuple #[.slice ad 128 c,.int .i64 (fx p M.B.gs m.s).2])∧V W w' (Sl 5 1 ad 128 c (bc (fx p M.B.gs m.s).1)::aD W M p m::L):=by
 have hw:=h.wf;have bN:=hw.wc.kL;have iz:m.s.k.ls.length≤8:=by rw[hw.wc.ls];exact hw.wc.n.2
 have gL:=hw.wc.lG;have jt:aU m.s.k.ls≤aF m.s.k:=hw.wc.nq;have fy:=h.gs;have fq:=h.front;obtain⟨t,hI⟩:=h.inv;obtain⟨i,px,ha,kE⟩:=hI.lU (mem_cons_self ..);have sf:=(hI.base px (bE ha) kE).1;have kF:=Tree.wt ((aD.open I).tree M.tq);clear h;obtain⟨s,A,T,J,ks,base,front⟩:=m;simp only at hw bN iz gL jt fq hI ha kE sf kF;subst fq;refine EN func265 ntmps265 rfl rfl λa E=>?_;refine CL 5 E I (Ap I) λa w E I=>?_;replace I:=aM.open ((aD.open I).pick (aM W M.B p s));dsimp only at I;refine CL 0 E I (sG (I.pick (az M.B.core s.k)) hw.wc) λa w E I=>?_;refine RN 1 E I λa E=>?_;replace I:=aM.fold I M.B p s;refine aY 2 (λw0 w'=>Rd w' M.mb 0 (dT p M ks.length base (ax s.k))) [8,9,10] [0,1,2,3,4,5,7,3006,1008,1009,1010,11,12,13,14,15,16,17,1018,19,20] E I λa w E I hH=>?_;have U:=hH.at w (I.ai (b:=M.mb));refine RH 3 E I hH U λa E=>?_;replace E:=E.aN 15;refine RH 4 E I hH U λa E=>?_;refine QH E (λw hc=>ag E (hc 8 _ rfl)) U λa E=>?_;replace I:=aD.fold I M p ⟨s,A,T,J,ks,base,ax s.k⟩;refine RH 0 E I hH U λa E=>?_;refine CL 0 E I (Ap I) λa w E I=>?_;replace U:=hH.at w ((aD.open I).ai (b:=M.mb));replace I:=aM.open ((aD.open I).pick (aM W M.B p s));dsimp only at I;refine RH 0 E I hH U λa E=>?_;refine CL 0 E I (oh (I.pick (az M.B.core s.k))) λa w E I=>?_;replace U:=hH.at w (I.ai (b:=M.mb));obtain⟨D,I,hD⟩:=az.qu I;refine RH 0 E I hH U λa E=>?_;refine CL 0 E I (q3 I bN iz) λa w E I=>?_;replace U:=hH.at w (I.ai (b:=M.mb));refine RH 1 E I hH U λa E=>?_;rw[show decide (((ax s.k:Nat):Int)≠((aU s.k.ls:Nat):Int))=false from Iz]at E;refine RH 2 E I hH U λa E=>?_;replace E:=E.aN 26;refine RH 4 E I hH U λa E=>?_;refine bz E (cW E rfl (s:=26)) (ag E (U 8 _ rfl)) rfl λa E=>?_;refine RH 2 E I hH U λa E=>?_;replace I:=aD.fold (aM.fold (hD _ _ I) M.B p s) M p ⟨s,A,T,J,ks,base,ax s.k⟩;refine IF 0 E I (λaj a E=>?_) λaj a E=>?_
 ·
  refine CL 2 E I (sQ I) λa w E I=>?_;replace I:=aD.open I;dsimp only at I;refine a2 0 E I (Le (I.pick (aM W M.B p s)) hw aZ aE fy) λad c a w E I=>?_;refine RT 4 E I ?_;exact⟨ad,c,rfl,(aD.fold I M p ⟨s,A,T,J,ks,base,ax s.k⟩).sub⟩
 have hhf:ax s.k<aF s.k:=by omega
 refine RN 1 E I λa E=>?_;replace I:=aD.open I;dsimp only at I;refine aY 0 (λw0 w'=>Rd w' M.mb 0 (dT p M ks.length base (ax s.k))) [1,2] [0,3,4,5,8,3006,1001,1002,1007,1009,10] E I λa w E I hH=>?_;have U:=hH.at w (I.ai (b:=M.mb));refine RH 5 E I hH U λa E=>?_;refine QH E (λw hc=>ag E (hc 0 _ rfl)) U λa E=>?_;replace I:=aD.fold I M p ⟨s,A,T,J,ks,base,ax s.k⟩;refine RH 0 E I hH U λa E=>?_;refine CL 0 E I (Ap I) λa w E I=>?_;replace U:=hH.at w ((aD.open I).ai (b:=M.mb));replace I:=aM.open ((aD.open I).pick (aM W M.B p s));dsimp only at I;refine RH 0 E I hH U λa E=>?_;refine CL 0 E I (oh (I.pick (az M.B.core s.k))) λa w E I=>?_;replace U:=hH.at w (I.ai (b:=M.mb));replace I:=aM.fold I M.B p s;refine RH 0 E I hH U λa E=>?_;refine CL 0 E I (Lo (I.pick (aM W M.B p s))) λa w E I=>?_;replace I:=aM.open (I.pick (aM W M.B p s));obtain⟨D,I,hD⟩:=az.qu (I.pick (az M.B.core s.k));refine jD 0 E I (EY (r:=0) (to:=aF s.k) (.inl rfl) (by decide) I fy bN iz hw.wc.mY gL (λw' dh=>(dh.pick (Sl 5 1 M.B.adT M.B.gs.table.length M.B.cT (bc M.B.gs.table))).cF M.B.adT _ rfl rfl)) λfS ga X a w E ⟨⟨sO,ib⟩,I⟩=>?_;have mj:=ib rfl;subst mj;rw[vS]at I;replace I:=I.sub (M:=Qu M.B.core.qb M.B.core.aB s.k.ls::D::b0 fS (aF s.k-aU s.k.ls) ga (ds M.B.gs s.k.ls (aF s.k))::aa M.B.pb 192 (gl p M.B s.g)::aA W p M.B.ao M.B.cO::Sl 5 1 M.B.adT M.B.gs.table.length M.B.cT (bc M.B.gs.table)::aa M.mb 177 (dT p M ks.length base (ax s.k))::aA W p M.ao M.cO::Sl 179 1 M.dt ks.length M.dF (gK ks)::ah (e0 p M.ao M.cO M.tq M.jq M.sq) ks::Tree M.tq M.sq T::aw M.sq M.r A::bC M.jq J::L);replace I:=aD.fold (aM.fold (hD _ _ I) M.B p s) M p ⟨s,A,T,J,ks,base,ax s.k⟩;have hO:(ds M.B.gs s.k.ls (aF s.k)).length=aF s.k-aU s.k.ls:=vF _ _ _;have mn:∀ b∈ds M.B.gs s.k.ls (aF s.k),b.length≤1099511627776:=λb hb=>by
  rw[ds,c8]at hb;obtain⟨i,_,rfl⟩:=hb;rw[mW,iN,bf];omega
 have Mv:fx p M.B.gs s=(gh (foldI p (ax s.k) s.g (ds M.B.gs s.k.ls (aF s.k))),aF s.k):=by rw[fx,ae (by omega)]
 clear ib sO;generalize ds M.B.gs s.k.ls (aF s.k)=P at I hO mn Mv;rw[← hO]at E I;rw[Mv];have AA:=(b0.le (I.pick (b0 fS P.length ga P))).2;refine RN 1 E I λa E=>?_;refine RN 1 E I λa E=>?_;replace I:=aD.open I;dsimp only at I;refine RN 5 E I λa E=>?_;replace I:=aD.fold I M p ⟨s,A,T,J,ks,base,ax s.k⟩;refine CL 0 E I (E2 I ha kE) λa w E I=>?_;refine AL 0 E I λcG a w E I=>?_;change V W w (aa cG 183 (ints .i32 32 (λ_=>0))::_) at I;refine SA 0 E I λa w E I=>?_;refine RN 1 E I λa E=>?_;refine bZ (M:=λa w=>∃ (d:Nat) (g1:Nat→Int),(d≤P.length∧foldI p ((ax s.k+d:Nat):Int) g1 (P.drop d)=foldI p (ax s.k:Int) s.g P∧dP g1)∧Fr a 92 [(0,pt M.mb),(4,.int .i64 (aF s.k)),(5,.slice fS P.length ga),(6,pt cG),(7,.int .i64 d)]∧V W w (aa cG 183 (ints .i32 32 g1)::b0 fS P.length ga P::aD W M p ⟨s,A,T,J,ks,base,ax s.k⟩::L)) ?_ ?_
 ·
  refine bZ (M:=λa w=>∃ (b8:Nat) (hX:Option Addr) (cb:Nat),Fr a 92 [(0,pt M.mb),(4,.int .i64 (aF s.k)),(5,.slice fS P.length ga),(6,pt cG),(7,.int .i64 0),(8,pt b8),(9,.bool (decide (0<(T.fH (ax s.k:Int) P).done)))]∧V W w (aa b8 238 (b6 (T.fH (ax s.k:Int) P) hX cb)::aa cG 183 (ints .i32 32 s.g)::b0 fS P.length ga P::aD W M p ⟨s,A,T,J,ks,base,ax s.k⟩::L)) ?_ ?_
  ·
   refine RN 0 E I λa E=>?_;rw[sf]at I;replace I:=aD.open (I.pick (aD W M p ⟨s,A,T,J,ks,base,ax s.k⟩));dsimp only at I;refine aY 0 (λw0 w'=>Rd w' M.mb 0 (dT p M ks.length base (ax s.k))) [7,13] [0,1,2,4,5,6,8,3003,3007,2009,10,11,12,1013,1014,15] E I λa w E I hH=>?_;have U:=hH.at w (I.ai (b:=M.mb));refine RH 7 E I hH U λa E=>?_;refine QH E (λw hc=>ag E (hc 4 _ rfl)) U λa E=>?_;refine QH E (λw hc=>ag E (hc 8 _ rfl)) U λa E=>?_;refine RH 0 E I hH U λa E=>?_;refine DN [(9,[10,11,12,1013,1014,15]),(13,[1009,10,11,12,1014,15])] (by kernel_rfl) rfl ⟨⟨_,rfl,?_⟩,⟨_,rfl,?_⟩,trivial⟩
   ·
    refine RH 0 E I hH U λa E=>?_;refine a2 0 E I (Ik (p:=P) (I.tree M.tq) (λw' h=>b0.rd (h.pick (b0 fS P.length ga P))) AA ⟨by omega,mn⟩) λhX cb a w E I=>?_;refine RN 3 E I λa E=>?_;refine eS E rfl I Ty.t238 rfl λb8 a w E I ho=>?_;clear ho;replace U:=hH.at w (I.ai (b:=M.mb));refine RH 0 E I hH U λa E=>?_;refine SA 0 E I λa w E I=>?_;refine RN 1 E I λa E=>?_;exact⟨_,hX,cb,E.ab [0,4,5,6,7,8,9],(aD.fold I M p ⟨s,A,T,J,ks,base,ax s.k⟩).sub⟩
   refine RH 0 E I hH U λa E=>?_;refine eS E rfl I Ty.t238 rfl λb8 a w E I ho=>?_;clear ho;replace U:=hH.at w (I.ai (b:=M.mb));refine RH 0 E I hH U λa E=>?_;refine a2 0 E I (Ik (p:=P) (I.tree M.tq) (λw' h=>b0.rd (h.pick (b0 fS P.length ga P))) AA ⟨by omega,mn⟩) λhX cb a w E I=>?_;refine SA 3 E I λa w E I=>?_;refine RN 1 E I λa E=>?_;exact⟨_,hX,cb,E.ab [0,4,5,6,7,8,9],(aD.fold I M p ⟨s,A,T,J,ks,base,ax s.k⟩).sub⟩
  clear E;(try clear I);rintro a w ⟨b8,hX,cb,E,I⟩;refine IF 2 E I (λan a E=>?_) λan a E=>?_
  ·
   obtain⟨pq,nN,Mw⟩:=aaK (l:=T.l) (frm:=(ax s.k:Int)) (P:=P) lY (by simpa [Tr.fH] using an) rfl;change T.fH (ax s.k:Int) P∈T.l at pq;obtain⟨j,pb,FV,My⟩:=hI.IB pq;have aaO:=(hI.fY _ pq).2 pb (bE FV) My;have aaP:=(hI.ar pb (bE FV)).2;refine aY 0 (λw0 w'=>Rd w' b8 0 (b6 (T.fH (ax s.k:Int) P) hX cb)) [3,5,6] [0,1,4,3002,3005,1003,1006,7] E I λa w E I hH=>?_;have U:=hH.at w (I.ai (b:=b8));refine RH 3 E I hH U λa E=>?_;refine QH E (λw hc=>ag E (hc 4 _ rfl)) U λa E=>?_;refine QH E (λw hc=>ag E (hc 3 _ rfl)) U λa E=>?_;refine RH 0 E I hH U λa E=>?_;refine CL 0 E I (E2 (I.pick (aD W M p ⟨s,A,T,J,ks,base,ax s.k⟩)) FV My) λa w E I=>?_;replace U:=hH.at w (I.ai (b:=b8));refine RH 0 E I hH U λa E=>?_;refine SA 0 E I λa w E I=>?_;replace U:=hH.at w (I.ai (b:=b8));refine RH 1 E I hH U λa E=>?_;change (T.fH (ax s.k:Int) P).done≤P.length at nN;change oR ((T.fH (ax s.k:Int) P).ak.take (T.fH (ax s.k:Int) P).done) P=true at Mw;have dm:=(kF.ok _ pq).2.1;generalize T.fH (ax s.k:Int) P=bb at *;have e1:bb.ak.take bb.done=P.take bb.done:=by
    have:=aaL (u:=bb.ak.take bb.done) (P:=P) (by rw[en];omega) Mw
    rwa [en,Nat.min_eq_left dm]at this
   exact⟨bb.done,pb.g,⟨nN,by rw[aaO,e1];exact aaM nN,aaP⟩,E.ab [0,4,5,6,7],I.sub⟩
  refine RN 0 E I λa E=>?_;exact⟨0,s.g,⟨Nat.zero_le _,rfl,hw.ph aZ⟩,E.ab [0,4,5,6,7],I.sub⟩
 clear E;(try clear I);rintro a w ⟨d,g1,⟨l5,AF,aaQ⟩,E,I⟩;refine RN 1 E I λa E=>?_;replace I:=aD.open (I.pick (aD W M p ⟨s,A,T,J,ks,base,ax s.k⟩));dsimp only at I;obtain⟨zs,c5,eN,I⟩:=b0.open (I.pick (b0 fS P.length ga P));have iR:zs.length=P.length:=by rw[← c5,bf]
 refine aY 0 (λw0 w'=>Rd w' M.mb 0 (dT p M ks.length base (ax s.k))∧Rd w' cG 0 (ints .i32 32 g1)) [4,8,10] [0,1,2,5,6,7,9,11,12,13,16,3003,3004,1008,1010,1014,1015,17,18] E I λa w E I hH=>?_;have U:=hH.at w ⟨I.ai (b:=M.mb),I.ai (b:=cG)⟩;refine RH 10 E I hH U λa E=>?_;rw[show P.length-d=(P.drop d).length from (c7 ..).symm]at E;refine RH 1 E I hH U λa E=>?_;refine QH E (λw hc=>bO E underlying45 rfl Ty.t45 (Mt hc.1)) U λa E=>?_;refine QH E (λw hc=>bO E underlying183 rfl Ty.t183 (hc.2)) U λa E=>?_;refine RH 0 E I hH U λa E=>?_;refine SS E (ag E (U.1 8 _ rfl)) λa E=>?_;refine RH 1 E I hH U λa E=>?_;rw[show ((ax s.k:Nat):Int)+(d:Int)=((ax s.k+d:Nat):Int) from rfl]at E;refine CL 0 E I (KN (P:=P.drop d) (zs:=zs.drop d) (fr:=((ax s.k+d:Nat):Int)) (I.pick (aA W p M.ao M.cO)) aZ aE aaQ ⟨by rw[c7];omega,λb hb=>mn b (List.mem_of_mem_drop hb)⟩ ⟨by omega,by have:ax s.k≤1000:=gO jt gL;omega⟩ (by rw[map_drop,c5]) (λw' h=>(V.lS (h.sub (M:=Sl 22 1 fS P.length ga (zs.map aI)::ah a7 zs::[]))).drop (by omega))) λa w E I=>?_;refine a2 0 E I (xH I) λad2 c2 a w E I=>?_;refine RN 2 E I λa E=>?_;refine RT 0 E I ?_;rw[AF]at I;exact⟨ad2,c2,rfl,(aD.fold I M p ⟨s,A,T,J,ks,base,ax s.k⟩).sub⟩
end
end
section
section
variable {W w:World}{L:List SP}{n c cP cT nb nw rm me aH bo:Nat}{adP adT:Option Addr}{M:jg}{B:iO}{x:UInt8}{p:Pr}{s:Pl}{m:Mu}{tb:List UInt8}{cf:Cf}{y id ba order cr workers room:Int}
set_option maxHeartbeats 1000000 in
theorem aaR (I:V W w (aA W p adP cP::L))(hm:fg ⟨n,me,id,aH,bo,ba,order,nb,nw,rm⟩)(aZ:dj p)(fy:c1 ⟨ba,order,tb⟩)(aE:p.title.size≤1000000000)(dX:p.ops.length≤1000000000)(eL:tb.length≤1099511627776)(hT:∀ w',V W w' (aA W p adP cP::L)→a6 w' adT tb.length tb) :
   Calls prog 59 #[.agg (b7 ⟨n,me,id,aH,bo,ba,order,nb,nw,rm⟩).toArray,.agg (bJ p adP cP).toArray,.slice adT tb.length cT] w λr w'=>∃ (M:jg) (m:Mu),r=.returned (.tuple #[pt M.mb,.int .i64 0]) ∧
    (M.B.gs=⟨ba,order,tb⟩∧m.s=ez p ⟨n,me,id,aH,bo,ba,order,nb,nw,rm⟩∧MI p M 1 m∧m.T.l=[]∧m.J=[]∧∀ k∈m.ks,k.1=kB)∧V W w' (aD W M p m::aA W p adP cP::L):=by
 obtain⟨cf,df⟩:∃ cf:Cf,cf=⟨n,me,id,aH,bo,ba,order,nb,nw,rm⟩:=⟨_,rfl⟩;have cD:=hm;simp only[fg,fv]at cD;obtain⟨⟨h1,h2,h3⟩,⟨h4,h5,h6,h7⟩,h8,h9,fF,mH⟩:=cD;rw[← df];refine EN func59 ntmps59 rfl rfl λa E=>?_;refine BX 1 E I λb3 a w E I=>?_;change V W w (aa b3 28 (b7 cf)::_) at I;refine BX 0 E I λb4 a w E I=>?_;change V W w (aa b4 45 (bJ p adP cP)::_) at I;refine RN 6 E I λa E=>?_;rw[df]at E;refine bd 0 E I (Lg (tb:=tb) (I.pick (aA W p adP cP)) hm aZ fy aE dX eL (λw' hw=>hT w' hw.sub)) λB a w E ⟨Mz,I⟩=>?_;rw[← df]at I;refine RN 9 E I λa E=>?_;replace E:=E.aN 19;refine RN 2 E I λa E=>?_;replace I:=I.bH 114 4 none;rw[bJ]at I;refine RN 2 E I λa E=>?_;refine gW E rfl I underlying43 Ty.t114 rfl rfl (by decide) (λh0=>(I.pick (aA W p adP cP)).qH adP h0) (by rw[iT Cv]) (yK Ip _) (by omega) λgj gk a w E I=>?_;rw[nil_append,Nat.zero_add]at I;rw[Nat.zero_add]at E;refine ST 1 E I (λa w E I=>?_);refine RN 1 E I λa E=>?_;replace I:=(I.pick (Sl 114 4 gj p.ops.length gk (rows dO p.ops))).Cx;refine aY 0 (λw0 w'=>Rd w' b3 0 (b7 cf)∧Rd w' b4 0 [.string p.title,.slice gj p.ops.length gk]) [3,4,5] [0,2,3001,1003,1004,1005,6,1007,8] E I λa w E I hH=>?_;have U:=hH.at w ⟨I.ai (b:=b3),I.ai (b:=b4)⟩;refine RH 2 E I hH U λa E=>?_;refine QH E (λw hc=>bO E underlying45 rfl Ty.t45 (hc.2)) U λa E=>?_;refine RH 0 E I hH U λa E=>?_;refine SS E (ag E (U.1 9 _ rfl)) λa E=>?_;rw[show cf.room=(rm:Int) from by rw[df]]at E;refine RH 0 E I hH U λa E=>?_;refine a2 0 E I (Ti (n:=rm) I (by omega)) λsq r a w E I=>?_;replace U:=hH.at w ⟨I.ai (b:=b3),I.ai (b:=b4)⟩;refine RH 0 E I hH U λa E=>?_;refine bd 0 E I (T8 I) λjq a w E I=>?_;replace U:=hH.at w ⟨I.ai (b:=b3),I.ai (b:=b4)⟩;refine RH 1 E I hH U λa E=>?_;refine gF E rfl I rfl λgC a w E I ho=>?_;clear ho;change V W w (aa gC 177 [pt B.pb,.string p.title,.slice gj p.ops.length gk,pt sq,.pointer none,pt jq,.slice none 0 0,.int .i64 0,.int .i64 0]::_) at I;refine RN 1 E I λa E=>?_;refine aY 1 (λw0 w'=>Rd w' b3 0 (b7 cf)∧w'.cell? ⟨gC,3,none⟩=some (pt sq)) [6] [0,1,2,3,5,3004,1006,1007,8,9,1010] E I λa w E I hH=>?_;have U:=hH.at w ⟨I.ai (b:=b3),(I.ai (b:=gC)) 3 _ rfl⟩;refine RH 5 E I hH U λa E=>?_;refine QH E (λw hc=>ag E (hc.2)) U λa E=>?_;refine RH 0 E I hH U λa E=>?_;refine SS E (ag E (U.1 7 _ rfl)) λa E=>?_;rw[show cf.cr=(nb:Int) from by rw[df]]at E;refine RH 0 E I hH U λa E=>?_;refine bd 0 E I (Tu (m:=(nb:Int)) I) λtq a w E I=>?_;rw[show (min (max (nb:Int) 0) 8).toNat=nb from by omega]at I;refine ST 2 E I (λa w E I=>?_);refine RN 3 E I λa E=>?_;refine SS E (ag E ((I.ai (b:=b3)) 8 _ rfl)) λa E=>?_;rw[show cf.workers=(nw:Int) from by rw[df]]at E;refine RN 1 E I λa E=>?_;refine aS (λμ a w=>∃ (ks:List Kx) (dt:Option Addr) (dF:Nat),(μ=nw-ks.length∧ks.length≤nw∧(∀ k∈ks,k.1=kB))∧Fr a 93 [(3,pt b3),(8,pt B.pb),(10,pt gC),(44,.int .i64 nw),(45,.int .i64 ks.length)]∧V W w (aa gC 177 (dT p ⟨gC,B,sq,r,tq,jq,dt,dF,gj,gk⟩ ks.length 0 0)::Sl 179 1 dt ks.length dF (gK ks)::ah (e0 p gj gk tq jq sq) ks::aa b3 28 (b7 cf)::aM W B p (ez p cf)::aA W p gj gk::aA W p adP cP::Tree tq sq ⟨nb,[],0,0⟩::aw sq r ⟨0,4*rm,0,[]⟩::bC jq []::L)) (nw) (⟨[],none,0,⟨by simp,by simp,λk hk=>by cases hk⟩,E.ab [3,8,10,44,45],(show V W w (Sl 179 1 none ([]:List Kx).length 0 (gK [])::ah (e0 p gj gk tq jq sq) []::aa gC 177 (dT p ⟨gC,B,sq,r,tq,jq,none,0,gj,gk⟩ ([]:List Kx).length 0 0)::_) from (I.iG (f:=e0 p gj gk tq jq sq)).bH 179 1 none).sub⟩) ?_;clear E I;rintro μ a w ⟨ks,dt,dF,⟨rfl,eK,yi⟩,E,I⟩;refine IF 3 E I (λan a E=>?_) λan a E=>?_
 ·
  refine aY 1 (λw0 w'=>Rd w' gC 0 (dT p ⟨gC,B,sq,r,tq,jq,dt,dF,gj,gk⟩ ks.length 0 0)) [8,12,16,20,21,22] [0,1,2,3,5,6,7,9,10,11,13,14,15,17,18,19,3004,3008,3012,3016,1020,1021,1022,1023,24,25,1026] E I λa w E I hH=>?_;have U:=hH.at w (I.ai (b:=gC));refine RH 16 E I hH U λa E=>?_;refine QH E (λw hc=>ag E (hc 6 _ rfl)) U λa E=>?_;refine QH E (λw hc=>bO E underlying45 rfl Ty.t45 (Mt hc)) U λa E=>?_;refine QH E (λw hc=>ag E (hc 4 _ rfl)) U λa E=>?_;refine QH E (λw hc=>ag E (hc 5 _ rfl)) U λa E=>?_;refine RH 0 E I hH U λa E=>?_;refine SS E (ag E (U 3 _ rfl)) λa E=>?_;refine RH 0 E I hH U λa E=>?_;refine bd 0 E I (VY I) λwb a w E I=>?_;replace U:=hH.at w (I.ai (b:=gC));refine RH 0 E I hH U λa E=>?_;refine cm E rfl I underlying175 Ty.t179 rfl rfl rfl rfl (by decide) (by decide) λb69 a w E I ho=>?_;clear ho;replace U:=hH.at w (I.ai (b:=gC));refine RH 0 E I hH U λa E=>?_;refine cJ E rfl I underlying175 Ty.t179 rfl rfl I.ai rfl (by simp[Value.oneCell']) (by decide) (by decide) (by omega) λux uy a w E I=>?_;refine ST 2 E I (λa w E I=>?_);have o2:V W w (aa gC 177 (dT p ⟨gC,B,sq,r,tq,jq,ux,uy,gj,gk⟩ (ks++[(kB,wb)]).length 0 0)::Sl 179 1 ux (ks++[(kB,wb)]).length uy (gK (ks++[(kB,wb)]))::aa wb 247 (ct p gj gk tq jq sq kB)::ah (e0 p gj gk tq jq sq) ks::aa b3 28 (b7 cf)::aM W B p (ez p cf)::aA W p gj gk::aA W p adP cP::Tree tq sq ⟨nb,[],0,0⟩::aw sq r ⟨0,4*rm,0,[]⟩::bC jq []::L):=by
   have e1:(ks++[(kB,wb)]).length=ks.length+1:=by simp
   have e2:gK (ks++[(kB,wb)])=gK ks++[pt wb]:=by simp[gK]
   rw[e1,e2];change V W w (aa gC 177 (dT p ⟨gC,B,sq,r,tq,jq,ux,uy,gj,gk⟩ (ks.length+1) 0 0)::Sl 179 1 ux (ks.length+1) uy (gK ks++[pt wb])::_) at I;exact I.sub
  have MA:=V.jB (f:=e0 p gj gk tq jq sq) (x:=(kB,wb)) (l:=ks) (o2.sub (M:=aa wb 247 (ct p gj gk tq jq sq kB)::ah (e0 p gj gk tq jq sq) ks::aa gC 177 (dT p ⟨gC,B,sq,r,tq,jq,ux,uy,gj,gk⟩ (ks++[(kB,wb)]).length 0 0)::Sl 179 1 ux (ks++[(kB,wb)]).length uy (gK (ks++[(kB,wb)]))::aa b3 28 (b7 cf)::aM W B p (ez p cf)::aA W p gj gk::aA W p adP cP::Tree tq sq ⟨nb,[],0,0⟩::aw sq r ⟨0,4*rm,0,[]⟩::bC jq []::L));replace I:=MA;clear o2 MA;refine RN 2 E I λa E=>?_;have aaS:(ks++[(kB,wb)]).length=ks.length+1:=by simp
  refine⟨nw-(ks.length+1),by omega,ks++[(kB,wb)],ux,uy,⟨by omega,by omega,λk hk=>?_⟩,?_,I.sub⟩
  ·rcases eV.1 hk with hk | hk
   ·exact yi k hk
   ·rw[mem_singleton.1 hk]
  ·rw[aaS];exact E.ab [3,8,10,44,45]
 refine aY 1 (λw0 w'=>Rd w' gC 0 (dT p ⟨gC,B,sq,r,tq,jq,dt,dF,gj,gk⟩ ks.length 0 0)) [6] [0,1,2,3,5,3004,1006,1007,8,9,10,11,12,1013] E I λa w E I hH=>?_;have U:=hH.at w (I.ai (b:=gC));refine RH 5 E I hH U λa E=>?_;refine QH E (λw hc=>ag E (hc 3 _ rfl)) U λa E=>?_;refine RH 0 E I hH U λa E=>?_;refine CL 0 E I (Lm (I.pick (aM W B p (ez p cf)))) λa w E I=>?_;replace U:=hH.at w (I.ai (b:=gC));refine RH 0 E I hH U λa E=>?_;refine bd 0 E I (H2 (g:=(ez p cf).g) (I.store sq) (by simp[Sn.used,Th];omega) (by simp)) λt a w E ⟨⟨Za,E5⟩,I⟩=>?_;refine ST 5 E I (λa w E I=>?_);refine RN 3 E I λa E=>?_;refine SS E (ag E ((I.ai (b:=b3)) 3 _ rfl)) λa E=>?_;rw[show cf.aH=(aH:Int) from by rw[df]]at E;refine ST 2 E I (λa w E I=>?_);change V W w (aa gC 177 (dT p ⟨gC,B,sq,r,tq,jq,dt,dF,gj,gk⟩ ks.length 1 aH)::_) at I;refine RT 4 E I ?_;obtain rfl:ks.length=nw:=by omega
 have uz:=aD.fold I ⟨gC,B,sq,r,tq,jq,dt,dF,gj,gk⟩ p ⟨ez p cf,(⟨0,4*rm,0,[]⟩:Sn).add (ez p cf).g t,⟨nb,[],0,0⟩,[],ks,1,aH⟩;refine⟨⟨gC,B,sq,r,tq,jq,dt,dF,gj,gk⟩,⟨ez p cf,(⟨0,4*rm,0,[]⟩:Sn).add (ez p cf).g t,⟨nb,[],0,0⟩,[],ks,1,aH⟩,rfl,⟨Mz,rfl,?_,rfl,rfl,yi⟩,uz.sub⟩;obtain⟨ps,ev,mr,hk⟩:∃ ps ev mr,(ez p cf).k={ fh cf with ps:=ps,ev:=ev,mr:=mr }:=(vM (p:=p) (c:=cf) (by rw[df];exact hm)).ey.2.2;have FW:cx p (ez p cf):=cx.new (by rw[df];exact hm);have hfd:ax (ez p cf).k=aH:=by
  obtain⟨l,kx,lV⟩:=zW FW.wc.kL;rw[ax,lV];rw[hk]at kx;have FX:l∈List.replicate cf.n.toNat (List.replicate cf.aH.toNat 0):=kx;rw[(List.mem_replicate.1 FX).2,j8,df];rfl
 have bU:∀ k∈ks.map (·.1),k=kB:=λk hk=>by
  obtain⟨y,hy,rfl⟩:=c8.1 hk;exact yi y hy
 exact { wf:=FW,gs:=by rw[Mz];exact fy,front:=hfd.symm,fY:=λy hy=>(by cases hy),J:=by simp,most:=by rw[hk,df];rfl,workers:=by rw[hk,df];rfl,ks:=by dsimp only;omega,room:=⟨by rw[hk,df];simp only[Sn.add,fh];omega,by simp only[Sn.add];omega⟩,n:=⟨bh _,Nat.zero_le _,Nat.zero_le _⟩,inv:=⟨t,by
  refine⟨?_,λx hx=>?_,λx hx _=>?_,λy hy=>(by cases hy),λk hk=>?_⟩
  ·rw[Lp (λk hk=>by rw[bU k hk];rfl)];exact List.Perm.refl _
  ·rw[mem_singleton.1 hx];exact⟨rfl,FW.ph aZ⟩
  ·rw[mem_singleton.1 hx];exact⟨rfl,rfl⟩
  ·rw[bU k hk];exact⟨Int.le_refl _,λh=>(by cases h)⟩⟩ }
end
end
end Go.Proofs.YteoldcfapaiobaaGreat
