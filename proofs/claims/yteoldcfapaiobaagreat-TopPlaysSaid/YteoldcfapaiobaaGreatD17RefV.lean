/- The document's players: what can be read of all of them. -/
import Derived.Test.YteoldcfapaiobaaGreatD16HonW
import Derived.Test.YteoldcfapaiobaaGreatD13RefC
import Derived.Test.YteoldcfapaiobaaGreatD14RefG
import Derived.Test.YteoldcfapaiobaaGreatD15ArgC
import Derived.Test.YteoldcfapaiobaaGreatRows
import Derived.KernelRfl
import Derived.JoinedOf
namespace Go.Proofs.YteoldcfapaiobaaGreat
open List (mem_cons_self map_cons length_nil getElem?_range getElem_mem mem_append_left)
open Go.RowKit
set_option linter.unusedVariables false
set_option linter.unusedSimpArgs false
set_option maxRecDepth 10000
set_option synthInstance.maxSize 4000
set_option synthInstance.maxHeartbeats 400000
section
abbrev oR:=(fS×Pl)×(mD×List dX)
def kb (W:World)(p:Pr)(y:oR):SP:=λh=>bj y.2.2=y.1.2.k.ls∧cj [aa y.1.1.pb 51 (eS p y.1.1 y.1.2.g),aa y.1.1.core.cb 72 (cR y.1.2.k y.1.1.core y.2.1),Sl 65 1 (some ⟨y.1.1.core.lb,y.1.1.core.lo,none⟩) y.1.2.k.ls.length y.1.1.core.cL (y.2.2.map aK),ah a7 y.2.2,
 aa y.1.1.core.hb 3 (e5 y.1.2.k.ps),aa y.1.1.core.dT 3 (eR y.1.2.k.ps),aa y.1.1.core.wb 313 (rows e7 y.1.2.k.ps),aa y.1.1.core.xb 4 (e6 y.1.2.k.ps),Sl 100 1 y.2.1.cd y.1.2.k.mr.length y.2.1.cM (c0 y.1.2.k.mr),Sl 102 3 y.2.1.adE y.1.2.k.ev.length y.2.1.cE (rows bT y.1.2.k.ev),aA W p y.1.1.aq y.1.1.cO] h
structure y4 (w:World)(p:Pr)(y:oR):Prop where
 pb:Rd w y.1.1.pb 0 (eS p y.1.1 y.1.2.g)
 cb:Rd w y.1.1.core.cb 0 (cR y.1.2.k y.1.1.core y.2.1)
 ls:hU w (some ⟨y.1.1.core.lb,y.1.1.core.lo,none⟩) y.2.2
 eq:bj y.2.2=y.1.2.k.ls
 mr:0<y.1.2.k.mr.length→∃ b o,y.2.1.cd=some ⟨b,o,none⟩∧Rd w b o (c0 y.1.2.k.mr)
section
variable {W w:World}{L:List SP}{n i:Nat}{p:Pr}{xs:List (fS×Pl)}{ys:List oR}{y:oR}{k:Ks}{C:nH}{A:mD}{xl:List dX}
theorem acU {x:fS×Pl}(I:U W w (da W p x::L)):∃ z,U W w (kb W p (x,z)::L):=by
 replace I:U W w (bY W x.1 p x.2::L):=I;obtain⟨A,I⟩:=aZ.open ((bY.open I).pick (aZ x.1.core x.2.k));obtain⟨xl,bV,I⟩:=bM.open (I.pick (bM x.1.core.lb x.1.core.lo x.1.core.cL x.2.k.ls));refine⟨(A,xl),U.shut (M:=[_,_,_,_,_,_,_,_,_,_,_]) (I.sub (M:=aa x.1.pb 51 (eS p x.1 x.2.g)::aa x.1.core.cb 72 (cR x.2.k x.1.core A)::Sl 65 1 (some ⟨x.1.core.lb,x.1.core.lo,none⟩) x.2.k.ls.length x.1.core.cL (xl.map aK)::ah a7 xl::aa x.1.core.hb 3 (e5 x.2.k.ps)::aa x.1.core.dT 3 (eR x.2.k.ps)::aa x.1.core.wb 313 (rows e7 x.2.k.ps)::aa x.1.core.xb 4 (e6 x.2.k.ps)::Sl 100 1 A.cd x.2.k.mr.length A.cM (c0 x.2.k.mr)::Sl 102 3 A.adE x.2.k.ev.length A.cE (rows bT x.2.k.ev)::aA W p x.1.aq x.1.cO::L)) λ_ h=>⟨bV,h⟩⟩
theorem kb.open (I:U W w (kb W p y::L)):bj y.2.2=y.1.2.k.ls∧U W w (aa y.1.1.pb 51 (eS p y.1.1 y.1.2.g)::aa y.1.1.core.cb 72 (cR y.1.2.k y.1.1.core y.2.1)::Sl 65 1 (some ⟨y.1.1.core.lb,y.1.1.core.lo,none⟩) y.1.2.k.ls.length y.1.1.core.cL (y.2.2.map aK)::ah a7 y.2.2 ::
 aa y.1.1.core.hb 3 (e5 y.1.2.k.ps)::aa y.1.1.core.dT 3 (eR y.1.2.k.ps)::aa y.1.1.core.wb 313 (rows e7 y.1.2.k.ps)::aa y.1.1.core.xb 4 (e6 y.1.2.k.ps)::Sl 100 1 y.2.1.cd y.1.2.k.mr.length y.2.1.cM (c0 y.1.2.k.mr)::Sl 102 3 y.2.1.adE y.1.2.k.ev.length y.2.1.cE (rows bT y.1.2.k.ev)::aA W p y.1.1.aq y.1.1.cO::L) :=
 ⟨I.tell λ_ h=>h.1,I.open (M:=[_,_,_,_,_,_,_,_,_,_,_]) λ_ h=>h.2⟩
theorem acV (I:U W w (kb W p y::L)):U W w (da W p y.1::L):=by
 obtain⟨bV,I⟩:=kb.open I;replace I:=bM.close ((I.pick (ah a7 y.2.2)).pick (Sl 65 1 (some ⟨y.1.1.core.lb,y.1.1.core.lo,none⟩) y.1.2.k.ls.length y.1.1.core.cL (y.2.2.map aK))) bV;replace I:=aZ.fold I y.1.1.core y.1.2.k y.2.1;exact bY.fold I y.1.1 p y.1.2
theorem B3:∀ {xs:List (fS×Pl)} {L:List SP},U W w (ah (da W p) xs::L)→∃ ys:List oR,ys.map (·.1)=xs∧U W w (ah (kb W p) ys::L)
 | [],_,I=>⟨[],rfl,U.iK I.tail⟩
 | x::xs,L,I=>by
  have h1:U W w (da W p x::ah (da W p) xs::L):=U.fq (l:=x::xs) (i:=0) I (by simp);obtain⟨z,h2⟩:=acU h1;obtain⟨ys,h3,h4⟩:=B3 (h2.pick (ah (da W p) xs));exact⟨(x,z)::ys,by rw[map_cons,h3],U.vu (h4.pick (kb W p (x,z)))⟩
theorem B4:∀ {ys:List oR} {L:List SP},U W w (ah (kb W p) ys::L)→U W w (ah (da W p) (ys.map (·.1))::L)
 | [],_,I=>U.iK I.tail
 | y::ys,L,I=>by
  have h1:U W w (kb W p y::ah (kb W p) ys::L):=U.fq (l:=y::ys) (i:=0) I (by simp);have h2:=B4 ((acV h1).pick (ah (kb W p) ys));exact U.vu (h2.pick (da W p y.1))
theorem B5 (I:U W w (ah (kb W p) ys::L))(hy:ys[i]?=some y):y4 w p y:=by
 obtain⟨hi,h1⟩:=a2.1 hy;replace I:=I.fq hi;rw[h1]at I;obtain⟨h2,I⟩:=kb.open I;refine⟨I.ai (b:=y.1.1.pb),I.ai (b:=y.1.1.core.cb),?_,h2,λh0=>?_⟩
 ·exact U.oI ((I.pick (ah a7 y.2.2)).pick (Sl 65 1 (some ⟨y.1.1.core.lb,y.1.1.core.lo,none⟩) y.1.2.k.ls.length y.1.1.core.cL (y.2.2.map aK)))
 ·exact (I.pick (Sl 100 1 y.2.1.cd y.1.2.k.mr.length y.2.1.cM (c0 y.1.2.k.mr))).bU y.2.1.cd h0
theorem GZ (I:U W w L)(hk:WC k)(bV:bj xl=k.ls)(hp:∀ w',U W w' L→Rd w' C.cb 0 (cR k C A)∧hU w' (some ⟨C.lb,C.lo,none⟩) xl) :
   Calls Tryz.prog 19 #[pt C.cb] w λr w'=>r=.returned (.int .i64 (aw k))∧U W w' L:=by
 have hn:=hk.n;have eP:=hk.ls;have gD:k.ls.length=xl.length:=by rw[← bV,fR]
 refine EN Tryz.func19 Tryz.ntmps19 rfl rfl λa E=>?_;refine RN 6 E I λa E=>?_;refine SS E (ae E ((hp _ I).1 10 _ rfl)) λa E=>?_;rw[gD]at E;refine CL 0 E I (Bd (xs:=xl) I (by omega) (by omega) (λw' hw=>(hp w' hw).2)) λa w E I=>?_;rw[bV]at E;refine RT 1 E I ?_;exact⟨rfl,I⟩
theorem acW (I:U W w L)(hk:WC k)(bV:bj xl=k.ls)(hp:∀ w',U W w' L→Rd w' C.cb 0 (cR k C A)∧hU w' (some ⟨C.lb,C.lo,none⟩) xl) :
   Calls Tryz.prog 20 #[pt C.cb] w λr w'=>r=.returned (.int .i64 (aE k))∧U W w' L:=by
 have hn:=hk.n;have eP:=hk.ls;have ej:=hk.me;have gD:k.ls.length=xl.length:=by rw[← bV,fR]
 refine EN Tryz.func20 Tryz.ntmps20 rfl rfl λa E=>?_;refine bP 3 [8] [0,1,2,4,5,6,7,3003,1008,9,10,1011,12,13] E I λa w E I hH hC=>?_;obtain⟨wF,Od⟩:=hp _ I;obtain⟨lV,ol,y,uM,hy,nc,oH⟩:=Od.at (i:=k.me) (by omega);cases uM;have iE:aE k=y.2.2.length:=by
  show (k.ls.getD k.me []).length=_;rw[← bV,rI hy]
 clear Od;refine RH 7 E I hH hC λa E=>?_;refine QH E (λw hc=>ae E (hc.cell (wF 10 _ rfl))) hC λa E=>?_;rw[gD]at E;refine RH 0 E I hH hC λa E=>?_;refine SS E (ae E (wF 1 _ rfl)) λa E=>?_;refine RH 2 E I hH hC λa E=>?_;refine SS E (ae E (nc)) λa E=>?_;rw[aK]at E;refine RH 2 E I hH hC λa E=>?_;refine RT 0 E I ?_;exact⟨by rw[iE],I⟩
end
end
section
section
variable {W w:World}{L:List SP}{c i:Nat}{p:Pr}{v:Wd}{B:js}{D:nK}{t:fG}{cf:Cf}{tb:List UInt8}{gw:Bool}
instance fI.isNil (z:fI):tw z.mul (!z.yZ):=⟨by
 cases z with
 | mu M=>exact .inr ⟨⟨_,rfl⟩,rfl⟩
 | pl B=>exact .inl ⟨rfl,rfl⟩⟩
theorem fI.acX {z:fI}(h:z.yZ=true):∃ M,z=.mu M:=by
 cases z with
 | mu M=>exact⟨M,rfl⟩
 | pl B=>cases h
theorem acY {adL adE iw:Option Addr}{cL cE ix:Nat}{xs:List (fz×Pl)}{es:List j9}{l:List j5}(I:U W w (aa B.mb 107 [.slice adL xs.length cL,pt B.q,.slice adE es.length cE]::Sl 81 1 adL xs.length cL (xs.map cF)::Sl 90 1 adE es.length cE (es.map bx)::ah ey es::L))(hi:i<xs.length)(k6:es[i]?=some (iw,ix,l))(hl:l.length≤1000000000) :
   Calls Tryz.prog 34 #[pt B.mb,.int .i64 i] w λe w'=>∃ ad c',e=.returned (.slice ad l.length c')∧U W w' (Sl 135 1 ad l.length c' (l.map cA)::aa B.mb 107 [.slice adL xs.length cL,pt B.q,.slice adE es.length cE]::Sl 81 1 adL xs.length cL (xs.map cF)::Sl 90 1 adE es.length cE (es.map bx)::ah ey es::L):=by
 obtain⟨wZ,oN⟩:=a2.1 k6;refine EN Tryz.func34 Tryz.ntmps34 rfl rfl λa E=>?_;refine CL 6 E I (rO I hi) λa w E I=>?_;refine RN 1 E I λa E=>?_;replace E:=E.aM 8;refine RN 2 E I λa E=>?_;obtain⟨iH,oE,rfl,gk⟩:=(I.pick (Sl 90 1 adE es.length cE (es.map bx))).bU adE (by omega);have lM:=gk i (.slice iw l.length ix) (by rw[bm,k6];rfl);refine RN 6 E I λa E=>?_;refine SS E (ae E (lM)) λa E=>?_;replace I:=(I.pick (ah ey es)).fq wZ;rw[oN]at I;change U W w (Sl 135 1 iw l.length ix (l.map cA)::_) at I;refine aY 0 E I (Nu I hl) λad2 c2 a w E I=>?_;refine RT 1 E I ?_;refine⟨ad2,c2,rfl,?_⟩;have h4:=(I.pick (ah ey (es.eraseIdx i))).pick (Sl 135 1 iw l.length ix (l.map cA));have h5:U W w (ah ey es::_):=U.wS (f:=ey) wZ (by rw[oN];exact h4);exact h5.sub
theorem G0 {xs:List (fz×Pl)}{x:fz}{s:Pl}(I:U W w (x.J W p c s::ah (cB W p c) (xs.eraseIdx i)::L))(hx:xs[i]?=some (x,s)):U W w (ah (cB W p c) xs::L):=by
 obtain⟨hi,h1⟩:=a2.1 hx;refine U.wS hi ?_;rw[h1];exact I
set_option maxHeartbeats 2000000 in
theorem acZ (I:U W w (aN W B p c v::bE W D p v::L))(w1:D.mb=B.mb)(hB:B.Ok p c)(hv:bK p cf c v)(hP:u4 B.fp cf tb gw v.ps.length)(qx:B2 W D.mF cf tb)(fy:cX ⟨cf.bf,cf.order,tb⟩)(jW:9*c+100≤1000000000) :
   Calls Tryz.prog 33 #[pt D.wb] w λe w'=>e=.returned (.bool true)∧U W w' (aN W B p c v::bE W D p v::L):=by
 replace I:=aN.wV I;obtain⟨adL,cL,adE,cE,xs,es,⟨eE,dg,eH⟩,I⟩:=I;replace I:=bE.open (I.pick (bE W D p v));obtain⟨adP,cP,adN,cN,gx,gh,rs,fs,⟨gV,iN,lU⟩,I⟩:=I;rw[w1]at I;obtain⟨ys,nL,iE,I⟩:=ch.open (I.pick (ch 60 adN v.net.length cN v.net));have bV:xs.length=v.ps.length:=by rw[← dg,a8]
 have gk:rs.length=v.ps.length:=by rw[← iN,a8]
 have lD:ys.length=v.net.length:=by rw[← nL,a8]
 have oa:=hv.net.1;have acE:es.length=v.ps.length:=by rw[← hv.ev,← eH,a8]
 have afu:fs.length=v.ps.length:=by rw[← hv.ev,← lU,a8]
 have NC:=hv.ev;have wN:=hv.len;replace I:U W w (aa B.mb 107 [.slice adL xs.length cL,pt B.q,.slice adE es.length cE]::Sl 81 1 adL xs.length cL (xs.map cF)::ah (cB W p c) xs::bJ B.q (v.net.map cS)::Sl 90 1 adE es.length cE (es.map bx)::ah ey es::aa D.wb 40 [pt B.mb,.slice adP rs.length cP,.slice adN v.net.length cN,.slice gx fs.length gh]::Sl 34 1 adP rs.length cP (rs.map dz)::ah (da W p) rs::Sl 60 3 adN v.net.length cN (rows b0 ys)::ah b6 ys::Sl 70 1 gx fs.length gh (fs.map bx)::ah eT fs::L):=I.sub;refine EN Tryz.func33 Tryz.ntmps33 rfl rfl λa E=>?_;refine aX 4 (λw0 w'=>Rd w' D.wb 0 [pt B.mb,.slice adP rs.length cP,.slice adN v.net.length cN,.slice gx fs.length gh]) [4,5,9,10] [0,1,2,6,7,8,3003,3009,3010,1004,1005,11] E I λa w E I hH=>?_;have hC:=hH.at w (I.ai (b:=D.wb));refine RH 6 E I hH hC λa E=>?_;refine QH E (λw hc=>ae E (hc 0 _ rfl)) hC λa E=>?_;refine QH E (λw hc=>ae E (hc 2 _ rfl)) hC λa E=>?_;refine RH 1 E I hH hC λa E=>?_;refine CL 0 E I (BD (I.pick (aa B.mb 107 [.slice adL xs.length cL,pt B.q,.slice adE es.length cE]))) λa w E I=>?_;replace hC:=hH.at w (I.ai (b:=D.wb));refine RH 0 E I hH hC λa E=>?_;refine CL 0 E I (M9 (I.pick (bJ B.q (v.net.map cS)))) λa w E I=>?_;replace hC:=hH.at w (I.ai (b:=D.wb));rw[a8]at E;refine RH 1 E I hH hC λa E=>?_;rw[bn (by simp)]at E;refine RN 4 E I λa E=>?_;refine aO (λμ a w=>∃ (i:Nat),(μ=v.net.length-i∧i≤v.net.length)∧Fr a 150 [(0,pt D.wb),(3,.int .i64 i)]∧U W w (aa B.mb 107 [.slice adL xs.length cL,pt B.q,.slice adE es.length cE]::Sl 81 1 adL xs.length cL (xs.map cF)::ah (cB W p c) xs::bJ B.q (v.net.map cS)::Sl 90 1 adE es.length cE (es.map bx)::ah ey es::aa D.wb 40 [pt B.mb,.slice adP rs.length cP,.slice adN v.net.length cN,.slice gx fs.length gh]::Sl 34 1 adP rs.length cP (rs.map dz)::ah (da W p) rs::Sl 60 3 adN v.net.length cN (rows b0 ys)::ah b6 ys::Sl 70 1 gx fs.length gh (fs.map bx)::ah eT fs::L)) (v.net.length) (⟨0,⟨rfl,by omega⟩,E.ab [0,3],I.sub⟩) ?_;clear E I;rintro μ a w ⟨i,⟨rfl,hi⟩,E,I⟩;refine IF 9 E I (λao a E=>?_) λao a E=>?_
 ·
  have aH:i<v.net.length:=by omega
  obtain⟨y,hy,ac0⟩:∃ y,ys[i]?=some y∧v.net[i]?=some y.2.2:=by
   refine⟨_,aD (by omega),?_⟩;rw[← nL,bm,aD (by omega)];rfl
  obtain⟨bA,on,rfl,_⟩:=(I.pick (Sl 60 3 adN v.net.length cN (rows b0 ys))).bU adN (by omega);refine CL 6 E I (BD (I.pick (aa B.mb 107 [.slice adL xs.length cL,pt B.q,.slice adE es.length cE]))) λa w E I=>?_;refine aY 1 E I (GF (I.pick (bJ B.q (v.net.map cS))) ac0) λam jt a w E I=>?_;refine AL 3 E I λb4 a w E I=>?_;refine SA 0 E I λa w E I=>?_;refine aX 2 (λw0 w'=>(Rd w' b4 0 [.int .i64 y.2.2.1,.int .i64 y.2.2.2.1,.slice am y.2.2.2.2.length jt]∧Rd w' D.wb 0 [pt B.mb,.slice adP rs.length cP,.slice (some ⟨bA,on,none⟩) v.net.length cN,.slice gx fs.length gh])∧Rd w' bA (on+i*3) (b0 y)∧aT w' am y.2.2.2.2.length y.2.2.2.2∧aT w' y.1 y.2.2.2.2.length y.2.2.2.2) [8,10,11,12,21,23,24,25,35,37,38,39,40] [0,1,2,3,5,6,7,9,3004,1008,1010,1011,1012,13,14,15,16,18,19,20,22,3017,1021,1023,1024,1025,26,27,28,29,32,33,34,36,3030,3031,1035,1037,1038,1039,1040,41,42] E I λa w E I hH=>?_;have hC:=hH.at w ⟨⟨I.ai (b:=b4),I.ai (b:=D.wb)⟩,jl oC (I.cJ bA on (by omega)) hy,I.cr am _ rfl rfl,GS (I.pick (ah b6 ys)) hy⟩;refine RH 3 E I hH hC λa E=>?_;replace E:=E.aM 41;refine RH 5 E I hH hC λa E=>?_;refine QH E (λw hc=>ae E (hc.1.1 0 _ rfl)) hC λa E=>?_;refine RH 0 E I hH hC λa E=>?_;refine bt E (cm E rfl (s:=41)) (ae E (hC.1.2 2 _ rfl)) rfl λa E=>?_;refine RH 2 E I hH hC λa E=>?_;refine bt E (cm E rfl (s:=41)) (ae E (hC.2.1 0 _ rfl)) rfl λa E=>?_;refine RH 3 E I hH hC λa E=>?_;rw[bn (by omega)]at E;refine RH 5 E I hH hC λa E=>?_;refine QH E (λw hc=>ae E (hc.1.1 1 _ rfl)) hC λa E=>?_;refine RH 0 E I hH hC λa E=>?_;refine bt E (cm E rfl (s:=54)) (ae E (hC.1.2 2 _ rfl)) rfl λa E=>?_;refine RH 2 E I hH hC λa E=>?_;refine bt E (cm E rfl (s:=54)) (ae E (hC.2.1 1 _ rfl)) rfl λa E=>?_;refine RH 3 E I hH hC λa E=>?_;rw[bn (by omega)]at E;refine RH 5 E I hH hC λa E=>?_;refine QH E (λw hc=>ae E (hc.1.1 2 _ rfl)) hC λa E=>?_;refine QH E (λw hc=>ld E Tryz.underlying22 Tryz.underlying5 Tryz.underlying9 (hc.2.2.1)) hC λa E=>?_;refine RH 0 E I hH hC λa E=>?_;refine bt E (cm E rfl (s:=67)) (ae E (hC.1.2 2 _ rfl)) rfl λa E=>?_;refine RH 2 E I hH hC λa E=>?_;refine bt E (cm E rfl (s:=67)) (ae E (hC.2.1 2 _ rfl)) rfl λa E=>?_;refine RH 0 E I hH hC λa E=>?_;refine bt E (cm E rfl (s:=67)) (ld E Tryz.underlying22 Tryz.underlying5 Tryz.underlying9 (hC.2.2.2)) rfl λa E=>?_;refine RH 0 E I hH hC λa E=>?_;refine QP E (λw=>JQ E) λa E=>?_;rw[p5,beq_self_eq_true,Bool.not_true]at E;refine RH 1 E I hH hC λa E=>?_;replace E:=E.aM 81;refine RN 4 E I λa E=>?_;exact⟨v.net.length-(i+1),by omega,i+1,⟨rfl,by omega⟩,E.ab [0,3],I.sub⟩
 refine RN 3 E I λa E=>?_;refine aO (λμ a w=>∃ (i:Nat),(μ=v.ps.length-i∧i≤v.ps.length)∧Fr a 150 [(0,pt D.wb),(6,.int .i64 i)]∧U W w (aa B.mb 107 [.slice adL xs.length cL,pt B.q,.slice adE es.length cE]::Sl 81 1 adL xs.length cL (xs.map cF)::ah (cB W p c) xs::bJ B.q (v.net.map cS)::Sl 90 1 adE es.length cE (es.map bx)::ah ey es::aa D.wb 40 [pt B.mb,.slice adP rs.length cP,.slice adN v.net.length cN,.slice gx fs.length gh]::Sl 34 1 adP rs.length cP (rs.map dz)::ah (da W p) rs::Sl 60 3 adN v.net.length cN (rows b0 ys)::ah b6 ys::Sl 70 1 gx fs.length gh (fs.map bx)::ah eT fs::L)) (v.ps.length) (⟨0,⟨rfl,by omega⟩,E.ab [0,6],I.sub⟩) ?_;clear E I;rintro μ a w ⟨i,⟨rfl,hi⟩,E,I⟩;refine IF 9 E I (λbk a E=>?_) λbk a E=>?_
 ·
  have aH:i<v.ps.length:=by omega
  obtain⟨x,hx,oM⟩:∃ x,xs[i]?=some (x,an v i)∧B.fp[i]?=some x:=GH eE dg (by omega);obtain⟨_,gU⟩:=a2.1 hx;obtain⟨r,hr⟩:∃ r,rs[i]?=some (r,an v i):=BR iN (by omega);have tm:(rs.map dz)[i]?=some (pt r.pb):=by rw[bm,hr];rfl
  have lz:r∈D.mF:=by rw[← gV];exact cV.2 ⟨_,bG hr,rfl⟩
  obtain⟨G1,DZ⟩:=qx r lz;have hxG:=hP.2 x (bG oM);have hM:=x.qs (W:=W) (p:=p) hB.pr hB.sz (hB.gs x (bG oM));obtain⟨hw,c9,wU⟩:=hv.pl i aH;have jX:=hB.c;obtain⟨iw,ix,l,k6⟩:∃ iw ix l,es[i]?=some (iw,ix,l):=⟨_,_,_,aD (by omega)⟩;obtain⟨wZ,oN⟩:=a2.1 k6;have qq:v.ev.getD i []=l:=by rw[← eH,bl,bm,k6];rfl
  obtain⟨y5,y6,ou⟩:∃ y5 y6,fs[i]?=some (y5,y6,l):=by
   have h1:(fs.map (·.2.2))[i]?=some l:=by rw[lU,← qq,bl,aD (by omega)];rfl
   rw[bm,aD (by omega)]at h1;refine⟨fs[i].1,fs[i].2.1,?_⟩;rw[aD (by omega),← Option.some.inj h1]
  obtain⟨wC,Oe⟩:=a2.1 ou;obtain⟨gD,hlo⟩:=hv.kA l (by rw[← qq];exact Bz (by omega));have hO:l.length≤1000000000:=by omega
  obtain⟨bp,op,rfl,_⟩:=(I.pick (Sl 34 1 adP rs.length cP (rs.map dz))).bU adP (by omega);obtain⟨iT,oF,rfl,_⟩:=(I.pick (Sl 70 1 gx fs.length gh (fs.map bx))).bU gx (by omega);refine aX 3 (λw0 w'=>(Rd w' D.wb 0 [pt B.mb,.slice (some ⟨bp,op,none⟩) rs.length cP,.slice adN v.net.length cN,.slice (some ⟨iT,oF,none⟩) fs.length gh]∧Rd w' bp op (rs.map dz))∧Rd w' iT oF (fs.map bx)) [5,9,11,12,21,22,26,28,29] [0,1,2,4,6,7,8,10,3003,3009,3011,3012,1005,1013,14,15,16,17,18,20,23,24,25,27,3019,3026,3028,3029,1021,1022,1030,31,32] E I λa w E I hH=>?_;have hC:=hH.at w ⟨⟨I.ai (b:=D.wb),I.cJ bp op (by omega)⟩,I.cJ iT oF (by omega)⟩;refine RH 8 E I hH hC λa E=>?_;refine QH E (λw hc=>ae E (hc.1.1 0 _ rfl)) hC λa E=>?_;refine QH E (λw hc=>ae E (hc.1.1 1 _ rfl)) hC λa E=>?_;refine RH 1 E I hH hC λa E=>?_;refine QH E (λw hc=>ae E (hc.1.2 i _ tm)) hC λa E=>?_;refine RH 0 E I hH hC λa E=>?_;refine CL 0 E I (rO ((I.pick (Sl 81 1 adL xs.length cL (xs.map cF))).pick (aa B.mb 107 [.slice adL xs.length cL,pt B.q,.slice adE es.length cE])) (by omega)) λa w E I=>?_;replace hC:=hH.at w ⟨⟨I.ai (b:=D.wb),I.cJ bp op (by omega)⟩,I.cJ iT oF (by omega)⟩;rw[show cF xs[i]=.iface x.z.t (.pointer (some x.z.ad)) from by rw[gU]]at E;replace I:=BS (I.pick (ah (da W p) rs)) hr;replace I:=BI (I.pick (ah (cB W p c) xs)) hx;refine RH 0 E I hH hC λa E=>?_;refine CL 0 E I (abd hM (by omega) ((I.pick (bY W r p (an v i))).pick (x.J W p c (an v i))) hw hB.pr hB.sz (by rw[G1];exact fy) (by rw[G1,hxG.1]) (by rw[G1];exact DZ)) λa w E I=>?_;replace hC:=hH.at w ⟨⟨I.ai (b:=D.wb),I.cJ bp op (by omega)⟩,I.cJ iT oF (by omega)⟩;replace I:=G0 ((I.pick (ah (cB W p c) (xs.eraseIdx i))).pick (x.J W p c (an v i))) hx;replace I:=BT ((I.pick (ah (da W p) (rs.eraseIdx i))).pick (bY W r p (an v i))) hr;refine RH 2 E I hH hC λa E=>?_;replace E:=E.aM 106;refine RH 8 E I hH hC λa E=>?_;refine QH E (λw hc=>ae E (hc.1.1 0 _ rfl)) hC λa E=>?_;refine QH E (λw hc=>ae E (hc.1.1 3 _ rfl)) hC λa E=>?_;refine RH 1 E I hH hC λa E=>?_;refine QH E (λw hc=>ae E (hc.2 i (.slice y5 l.length y6) (by rw[bm,ou];rfl))) hC λa E=>?_;replace I:=I.sub (M:=aa B.mb 107 [.slice adL xs.length cL,pt B.q,.slice adE es.length cE]::Sl 81 1 adL xs.length cL (xs.map cF)::Sl 90 1 adE es.length cE (es.map bx)::ah ey es::ah (da W p) rs::ah (cB W p c) xs::bJ B.q (v.net.map cS)::aa D.wb 40 [pt B.mb,.slice (some ⟨bp,op,none⟩) rs.length cP,.slice adN v.net.length cN,.slice (some ⟨iT,oF,none⟩) fs.length gh]::Sl 34 1 (some ⟨bp,op,none⟩) rs.length cP (rs.map dz)::Sl 60 3 adN v.net.length cN (rows b0 ys)::ah b6 ys::Sl 70 1 (some ⟨iT,oF,none⟩) fs.length gh (fs.map bx)::ah eT fs::L);refine RH 0 E I hH hC λa E=>?_;refine aY 0 E I (acY I (by omega) k6 hO) λlr eM a w E I=>?_;replace hC:=hH.at w ⟨⟨I.ai (b:=D.wb),I.cJ bp op (by omega)⟩,I.cJ iT oF (by omega)⟩;refine RH 0 E I hH hC λa E=>?_;refine aY 0 E I (acQ I hO hlo) λad2 c2 a w E I=>?_;replace hC:=hH.at w ⟨⟨I.ai (b:=D.wb),I.cJ bp op (by omega)⟩,I.cJ iT oF (by omega)⟩;replace I:=(I.pick (ah eT fs)).fq wC;rw[Oe]at I;change U W w (Sl 102 3 y5 l.length y6 (rows bT l)::_) at I;refine RH 0 E I hH hC λa E=>?_;refine CL 0 E I (acR (I.pick (Sl 102 3 ad2 l.length c2 (rows bT l))) hO) λa w E I=>?_;have uX:U W w (ah eT fs::_):=U.wS (f:=eT) wC (by rw[Oe];exact ((I.pick (ah eT (fs.eraseIdx i))).pick (Sl 102 3 y5 l.length y6 (rows bT l))));replace I:=uX;clear uX;refine RN 2 E I λa E=>?_;replace E:=E.aM 123;refine CL 7 E I (GC ((I.pick (Sl 81 1 adL xs.length cL (xs.map cF))).pick (aa B.mb 107 [.slice adL xs.length cL,pt B.q,.slice adE es.length cE])) (by omega)) λa w E I=>?_;rw[show xs[i].1.z.mul=x.z.mul from by rw[gU]]at E;refine BY 5 E I (λbD a E=>?_) λbD a E=>?_
  ·
   obtain⟨M,Of⟩:∃ M,x.z=.mu M:=fI.acX (by simpa using bD);have Og:x.J W p c (an v i)=fg W M p x.cf c (an v i):=by unfold fz.J;rw[Of]
   have ac1:fe (an v i).k=x.cf:=by
    have h1:(B.fp.map (·.cf))[i]?=some x.cf:=by rw[bm,oM];rfl
    rw[hP.1,bm,getElem?_range aH]at h1;rw[c9];exact Option.some.inj h1
   replace I:=BI (I.pick (ah (cB W p c) xs)) hx;rw[Og]at I;obtain⟨zs,s9,I⟩:=B3 (I.pick (ah (da W p) rs));obtain⟨z,hz,w5⟩:∃ z,zs[i]?=some z∧z.1=(r,an v i):=by
    rw[← s9,bm]at hr;cases h1:zs[i]? with
    | none=>rw[h1]at hr;cases hr
    | some z=>rw[h1]at hr;exact⟨z,rfl,Option.some.inj hr⟩
   rw[show x.z.mul=pt M.mb from by rw[Of];rfl]at E;refine RN 7 E I λa E=>?_;refine bt E (cm E rfl (s:=132)) (ae E ((I.cJ bp op (by omega)) i _ tm)) rfl λa E=>?_;refine RN 2 E I λa E=>?_;refine bt E (cm E rfl (s:=132)) (ae E (by have h9:=(B5 (I.pick (ah (kb W p) zs)) hz).pb 0 _ rfl;rw[w5]at h9;exact h9)) rfl λa E=>?_;refine RN 2 E I λa E=>?_;refine bt E (cm E rfl (s:=132)) (bR E Tryz.underlying28 rfl Ty.t28 (by have h9:=((B5 (I.pick (ah (kb W p) zs)) hz).cb).part 0 10;rw[w5]at h9;exact h9)) rfl λa E=>?_;rw[show List.take 10 (List.drop 0 (cR (r,an v i).2.k (r,an v i).1.core z.2.1))=bS x.cf from by rw[← ac1];rfl]at E;refine CL 0 E I (acS (I.pick (fg W M p x.cf c (an v i)))) λa w E I=>?_;rw[← Og]at I;have uX:=B4 (I.pick (ah (kb W p) zs));rw[s9]at uX;replace I:=G0 ((uX.pick (ah (cB W p c) (xs.eraseIdx i))).pick (x.J W p c (an v i))) hx;refine RN 2 E I λa E=>?_;replace E:=E.aM 149;refine RN 4 E I λa E=>?_;exact⟨v.ps.length-(i+1),by omega,i+1,⟨rfl,by omega⟩,E.ab [0,6],I.sub⟩
  refine RN 21 E I λa E=>?_;exact⟨v.ps.length-(i+1),by omega,i+1,⟨rfl,by omega⟩,E.ab [0,6],I.sub⟩
 refine RT 2 E I ?_;have h8:=ch.close (n:=v.net.length) (c:=cN) ((I.pick (ah b6 ys)).pick (Sl 60 3 adN v.net.length cN (rows b0 ys))) nL rfl;rw[← w1]at h8;have h9:U W w (bE W D p v::_):=bE.close (h8.sub (M:=aa D.wb 40 [pt D.mb,.slice adP rs.length cP,.slice adN v.net.length cN,.slice gx fs.length gh]::Sl 34 1 adP rs.length cP (rs.map dz)::ah (da W p) rs::ch 60 adN v.net.length cN v.net::Sl 70 1 gx fs.length gh (fs.map bx)::ah eT fs::aa D.mb 107 [.slice adL xs.length cL,pt B.q,.slice adE es.length cE]::Sl 81 1 adL xs.length cL (xs.map cF)::ah (cB W p c) xs::bJ B.q (v.net.map cS)::Sl 90 1 adE es.length cE (es.map bx)::ah ey es::L)) gV iN lU;rw[w1]at h9;refine⟨rfl,aN.u0 (adL:=adL) (cL:=cL) (adE:=adE) (cE:=cE) (xs:=xs) (es:=es) ?_ eE dg eH⟩;exact h9.sub
end
end
section
section
variable {W w:World}{L:List SP}{c i:Nat}{p:Pr}{v:Wd}{B:js}{t:fG}{cf:Cf}
def mG:Cf:=⟨2,0,0,0,4,1,0,2,1,5⟩
theorem y7 (I:U W w (aN W B p c v::L))(hB:B.Ok p (c+10))(hv:bK p cf c v)(jW:9*c+100≤1000000000)(hf:t.fn≠7) :
   Calls Tryz.prog 29 #[pt B.mb,.agg (dR t).toArray] w λe w'=>e=.returned (.int .i64 (bw p t v).1)∧U W w' (aN W B p (c+10) (cv p t v)::L) :=
 (NB I hB hv jW).mono λe w' ⟨z,h1,h2,_,I⟩=>⟨by rw[h1,h2 hf],by rw[cv,ag hf];exact I⟩
theorem Oh (hf:t.fn<1∨8<t.fn):bw p t v=(1,v):=by rw[bw,ak hf]
set_option maxHeartbeats 2000000 in
theorem ac2 (I:U W w L):Calls Tryz.prog 26 #[] w λe w'=>e=.returned (.bool true)∧U W w' L:=by
 have th:eQ mG:=by decide
 have fU:nf (dy mG 0) cy []:=⟨th,qD,by decide⟩;refine EN Tryz.func26 Tryz.ntmps26 rfl rfl λa E=>?_;refine bh 4 E I (MT I) λadP a w E I=>?_;refine bh 0 E I (NT (cf:=mG) (tb:=[]) (adT:=none) (cT:=0) fU I rfl (by decide) (by decide) (by decide) (λw' h=>aT.nil)) λB a w E ⟨hP,I⟩=>?_;refine RN 5 E I λa E=>?_;have fy:∀ x∈B.fp,cX x.z.gs:=λx hx=>by rw[(hP.2 x hx).1];decide
 have L0:Lv cy mG (λ_=>0) (fW cy mG mG.n.toNat):=Lv.new th;have w6:(fW cy mG mG.n.toNat).ps.length=2:=rT;have tW:(fW cy mG mG.n.toNat).net=[]:=rfl;have sX:∀ x y,x<2→y<2→bq (fW cy mG mG.n.toNat) x y=0:=λx y hx hy=>y1 th hx hy;have B6:=GU (p:=cy) th;generalize fW cy mG mG.n.toNat=v0 at I L0 w6 tW sX B6;have VB:mG.br.toNat=4:=rfl;obtain⟨Oi,e1,wa,k1,z1⟩:=L0.al (i:=0) (by omega) 5 0;have k00:=sX 0 0 (by omega) (by omega);replace z1:=z1 (by omega);have o1:=B6.go (s:=⟨1,(0:Nat),5,0⟩);obtain⟨Oj,e2,sI,k2,z2⟩:=Oi.al (i:=1) (by omega) 6 0;have B7:=sX 1 1 (by omega) (by omega);have Ol:=k1 1 1;rw[ag (by omega)]at Ol;replace z2:=z2 (by omega);have p6:=o1.go (s:=⟨1,(1:Nat),6,0⟩);obtain⟨Om,e3,On,k3,Oo,z3⟩:=Oj.tick (i:=0) (by decide) (by omega) (by rw[e2,e1,tW,sI,wa,w6];decide) 0 0;have G2:=p6.go (s:=⟨2,(0:Nat),0,0⟩);have t3:oP (cv cy ⟨1,(1:Nat),6,0⟩ (cv cy ⟨1,(0:Nat),5,0⟩ v0)) 0=[(0,1,aR (dL (an (cv cy ⟨1,(1:Nat),6,0⟩ (cv cy ⟨1,(0:Nat),5,0⟩ v0)) 0).k 1))]:=by
  rw[oP,sI,wa,w6];rfl
 rw[e2,e1,tW,t3]at e3;obtain⟨L4,iV,Oq,k4,z4,_⟩:=Om.send e3 0 0;have w7:=G2.go (s:=⟨3,0,0,0⟩);have h5:pP (0,1,aR (dL (an (cv cy ⟨1,(1:Nat),6,0⟩ (cv cy ⟨1,(0:Nat),5,0⟩ v0)) 0).k 1))=1:=by
  rw[Oo _ (by rw[t3];exact mem_cons_self),k2 0 0,ag (by omega),k1 0 0,ak (by omega),k00]
 have f4:aw (an (cv cy ⟨3,0,0,0⟩ (cv cy ⟨2,(0:Nat),0,0⟩ (cv cy ⟨1,(1:Nat),6,0⟩ (cv cy ⟨1,(0:Nat),5,0⟩ v0)))) 1).k=1:=by
  have sw:=k4 1 0;rw[ak ⟨rfl,rfl⟩,k3,k2,ag (by omega),k1,ag (by omega),sX 1 0 (by omega) (by omega),h5]at sw;have q1:=k4 1 1;rw[ag (by show ¬ ((1:Nat)=1∧(1:Nat)=0);omega),k3,k2,ak (by omega),Ol]at q1;refine L4.front (j:=0) (by omega) (λj hj=>?_) (by omega) (by rw[sw];rfl);have:j=0∨j=1:=by omega
  rcases this with rfl | rfl
  ·rw[sw];decide
  ·rw[q1];omega
 clear sX k1 k2 k3 k4 t3 h5 Oo;refine RN 2 E I λa E=>?_;obtain⟨adL,cL,adE,cE,xs,es,⟨eE,dg,eH⟩,I⟩:=aN.wV I;have bV:xs.length=2:=by rw[← w6,← dg,a8]
 have IK:xs[1].1.z.yZ=true:=(hP.2 _ (by rw[← eE];exact cV.2 ⟨xs[1],getElem_mem _,rfl⟩)).2;refine RN 3 E I λa E=>?_;replace E:=E.aM 17;refine RN 4 E I λa E=>?_;replace E:=E.aM 21;refine CL 1 E I (rO (i:=0) ((I.pick (Sl 81 1 adL xs.length cL (xs.map cF))).pick (aa B.mb 107 [.slice adL xs.length cL,pt B.q,.slice adE es.length cE])) (by omega)) λa w E I=>?_;refine RN 3 E I λa E=>?_;replace E:=E.aM 26;refine CL 1 E I (GC (i:=1) ((I.pick (Sl 81 1 adL xs.length cL (xs.map cF))).pick (aa B.mb 107 [.slice adL xs.length cL,pt B.q,.slice adE es.length cE])) (by omega)) λa w E I=>?_;refine RN 1 E I λa E=>?_;rw[IK,Bool.not_true]at E;refine RN 2 E I λa E=>?_;replace E:=E.aM 31;refine CL 1 E I (BD (I.pick (aa B.mb 107 [.slice adL xs.length cL,pt B.q,.slice adE es.length cE]))) λa w E I=>?_;refine RN 2 E I λa E=>?_;replace E:=E.aM 35;refine RN 2 E I λa E=>?_;replace I:=aN.u0 (I.sub (M:=aa B.mb 107 [.slice adL xs.length cL,pt B.q,.slice adE es.length cE]::Sl 81 1 adL xs.length cL (xs.map cF)::ah (cB W cy 0) xs::bJ B.q (v0.net.map cS)::Sl 90 1 adE es.length cE (es.map bx)::ah ey es::L)) eE dg eH;refine CL 2 E I (y7 (t:=⟨1,(0:Nat),5,0⟩) I ⟨qD,by decide,fy,by decide⟩ B6 (by decide) (by decide)) λa w E I=>?_;rw[z1]at E;refine CL 4 E I (y7 (t:=⟨1,(1:Nat),6,0⟩) I ⟨qD,by decide,fy,by decide⟩ (o1.more (by decide)) (by decide) (by decide)) λa w E I=>?_;rw[z2]at E;refine CL 4 E I (y7 (t:=⟨2,(0:Nat),0,0⟩) I ⟨qD,by decide,fy,by decide⟩ (p6.more (by decide)) (by decide) (by decide)) λa w E I=>?_;rw[z3]at E;refine CL 4 E I (y7 (t:=⟨3,0,0,0⟩) I ⟨qD,by decide,fy,by decide⟩ (G2.more (by decide)) (by decide) (by decide)) λa w E I=>?_;rw[z4]at E;have n5:=Oq.trans (On.trans (sI.trans (wa.trans w6)));clear B6 o1 p6 G2 L0 Oi Oj Om z1 z2 z3 z4 e1 e2 e3 w6 wa sI On Oq;generalize cv cy ⟨3,0,0,0⟩ (cv cy ⟨2,(0:Nat),0,0⟩ (cv cy ⟨1,(1:Nat),6,0⟩ (cv cy ⟨1,(0:Nat),5,0⟩ v0)))=v at I w7 L4 f4 iV n5;refine RN 2 E I λa E=>?_;obtain⟨adL,cL,adE,cE,xs,es,⟨eE,dg,eH⟩,I⟩:=aN.wV I;have bV:xs.length=2:=by rw[← n5,← dg,a8]
 obtain⟨x,hx,oM⟩:∃ x,xs[1]?=some (x,an v 1)∧B.fp[1]?=some x:=GH eE dg (by omega);obtain⟨_,gU⟩:=a2.1 hx;have hM:=x.qs (W:=W) (p:=cy) qD (by decide) (fy x (bG oM));have hw:=(w7.pl 1 (by omega)).1;refine CL 1 E I (rO (i:=1) ((I.pick (Sl 81 1 adL xs.length cL (xs.map cF))).pick (aa B.mb 107 [.slice adL xs.length cL,pt B.q,.slice adE es.length cE])) (by omega)) λa w E I=>?_;rw[show cF xs[1]=.iface x.z.t (.pointer (some x.z.ad)) from by rw[gU]]at E;replace I:=BI (I.pick (ah (cB W cy 40) xs)) hx;refine RN 0 E I λa E=>?_;refine jx E rfl hM.Bt hM.Bu rfl (hM.Bv _ _ 40 (an v 1) (by decide) hw (I.pick (x.J W cy 40 (an v 1)))) (by rfl) ?_;clear E I;rintro e w ⟨lr,eM,rfl,I⟩;refine⟨_,rfl,λa E=>?_⟩;refine RN 5 E I λa E=>?_;rw[show (ly (an v 1)).2=1 from f4]at E;replace I:=G0 ((I.pick (ah (cB W cy 40) (xs.eraseIdx 1))).pick (x.J W cy 40 (an v 1))) hx;replace I:=aN.u0 (I.sub (M:=aa B.mb 107 [.slice adL xs.length cL,pt B.q,.slice adE es.length cE]::Sl 81 1 adL xs.length cL (xs.map cF)::ah (cB W cy 40) xs::bJ B.q (v.net.map cS)::Sl 90 1 adE es.length cE (es.map bx)::ah ey es::L)) eE dg eH;refine RN 4 E I λa E=>?_;replace E:=E.eg 56;refine RN 4 E I λa E=>?_;replace E:=E.eg 60;refine RN 4 E I λa E=>?_;replace E:=E.eg 64;refine RN 4 E I λa E=>?_;replace E:=E.eg 68;refine RN 4 E I λa E=>?_;replace E:=E.eg 72;refine RN 1 E I λa E=>?_;obtain⟨adL,cL,adE,cE,xs,es,⟨eE,dg,eH⟩,I⟩:=aN.wV I;refine CL 0 E I (BD (I.pick (aa B.mb 107 [.slice adL xs.length cL,pt B.q,.slice adE es.length cE]))) λa w E I=>?_;refine CL 0 E I (M9 (I.pick (bJ B.q (v.net.map cS)))) λa w E I=>?_;rw[a8,iV]at E;replace I:=aN.u0 (I.sub (M:=aa B.mb 107 [.slice adL xs.length cL,pt B.q,.slice adE es.length cE]::Sl 81 1 adL xs.length cL (xs.map cF)::ah (cB W cy 40) xs::bJ B.q (v.net.map cS)::Sl 90 1 adE es.length cE (es.map bx)::ah ey es::L)) eE dg eH;refine RN 3 E I λa E=>?_;replace E:=E.eg 78;refine CL 2 E I (y7 (t:=⟨0,0,0,0⟩) I ⟨qD,by decide,fy,by decide⟩ (w7.more (by decide)) (by decide) (by decide)) λa w E I=>?_;rw[Oh (.inl (by decide))]at E;rw[cv,ag (by decide),Oh (.inl (by decide)),L4.still]at I;refine RN 3 E I λa E=>?_;replace E:=E.eg 84;refine aY 1 E I (acD (i:=0) I (by omega) w7.ev (by rw[L4.ev _ (Bz (d:=[]) (by rw[w7.ev];omega))];decide)) λad2 c2 a w E I=>?_;rw[L4.ev _ (Bz (d:=[]) (by rw[w7.ev];omega))]at E;refine RT 4 E I ?_;exact⟨rfl,I.sub⟩
end
end
section
structure tr (W:World)(p:Pr)(B:js)(D:nK)(cf:Cf)(tb:List UInt8)(gw:Bool):Prop where
 mb:D.mb=B.mb
 fp:u4 B.fp cf tb gw cf.n.toNat
 mF:B2 W D.mF cf tb
 gs:cX ⟨cf.bf,cf.order,tb⟩
 pr:di p
 sz:p.title.size≤1000000000
section
variable {W w:World}{L:List SP}{c:Nat}{p:Pr}{v:Wd}{B:js}{D:nK}{t:fG}{cf:Cf}{tb:List UInt8}{gw:Bool}
theorem u4.gs {fp:List fz}{n:Nat}(h:u4 fp cf tb gw n)(hg:cX ⟨cf.bf,cf.order,tb⟩):∀ x∈fp,cX x.z.gs:=λx hx=>by rw[(h.2 x hx).1];exact hg
theorem tr.ok (h:tr W p B D cf tb gw)(hc:c≤1000000):B.Ok p c:=⟨h.pr,h.sz,h.fp.gs h.gs,hc⟩
theorem ac3 (I:U W w (aN W B p c v::bE W D p v::L))(jH:tr W p B D cf tb gw)(hv:bK p cf c v)(hc:c≤1000000) :
   Calls Tryz.prog 33 #[pt D.wb] w λe w'=>e=.returned (.bool true)∧U W w' (aN W B p c v::bE W D p v::L) :=
 acZ I jH.mb (jH.ok hc) hv (by rw[hv.n];exact jH.fp) jH.mF jH.gs (by omega)
theorem ac4 (I:U W w (aN W B p c v::bE W D p v::L))(jH:tr W p B D cf tb gw)(hv:bK p cf c v)(B0:pQ v)(hc:c≤900000) :
   Calls Tryz.prog 32 #[pt D.wb,.agg (dR t).toArray] w λe w'=>e=.returned (.bool true)∧U W w' (aN W B p (c+10) (cv p t v)::bE W D p (cv p t v)::L) :=
 acI I jH.mb (jH.ok (by omega)) hv B0 (by omega) λw u hu hcu I=>ac3 I jH hu (by omega)
structure Wc (p:Pr)(cf:Cf)(c:Nat)(v:Wd):Prop where
 ok:bK p cf c v
 calm:pQ v
theorem Wc.go (h:Wc p cf c v):Wc p cf (c+10) (cv p t v):=⟨h.ok.go.more (by omega),acH h.calm⟩
theorem Wc.new (h:eQ cf):Wc p cf 0 (fW p cf cf.n.toNat):=⟨GU h,N6 h⟩
end
end
section
open Go.RowKit Go.ChangeShapes Go.WideShapes Go.ChangeAt
set_option linter.constructorNameAsVariable false
set_option maxRecDepth 100000
section
variable {W W' w:World}{L:List SP}
theorem ac5 {L:List SP}(hb:Below W.heap.size W W')(I:U W' w L):Below W.heap.size W w:=hb.trans (I.below.mono hb.size)
end
end
section
noncomputable def ts (p:Pr)(tk:Nat→Bool)(b:Int)(v:Wd):Nat→Wd
 | 0=>v
 | i+1=>if tk i=true then cv p ⟨2,i,0,0⟩ (cv p ⟨1,i,b+i,0⟩ (ts p tk b v i)) else cv p ⟨1,i,b+i,0⟩ (ts p tk b v i)
noncomputable def va (p:Pr)(v:Wd):Wd:=oQ p v.net.length v
structure tt (p:Pr)(cf:Cf)(t:Nat)(h:Nat→Nat)(v:Wd):Prop where
 mH:Lv p cf (λ_=>t) v
 net:v.net=[]
 hd:∀ x,x<v.ps.length→bq v x x=h x
 fr:∀ x,x<v.ps.length→h x<cf.br.toNat+aw (an v x).k
structure oS (p:Pr)(cf:Cf)(t h:Nat)(v:Wd):Prop where
 mH:Lv p cf (λ_=>t) v
 net:v.net=[]
 kn:∀ x y,x<v.ps.length→y<v.ps.length→bq v x y=h
section
variable {p:Pr}{cf:Cf}{v u:Wd}{i j x y k t:Nat}{h:Nat→Nat}{tk:Nat→Bool}
theorem oS.new (hm:eQ cf):oS p cf 0 cf.aJ.toNat (fW p cf cf.n.toNat) :=
 ⟨Lv.new hm,rfl,λx y hx hy=>by rw[rT]at hx hy;exact y1 hm hx hy⟩
theorem oS.front (e:oS p cf t k v)(hi:i<v.ps.length):aw (an v i).k=k∧aE (an v i).k=k:=by
 have h1:=e.kn i i hi hi;exact⟨e.mH.front hi (λj hj=>by rw[e.kn i j hi hj];exact bd _) hi h1,by rw[e.mH.head hi,h1]⟩
theorem oS.base (e:oS p cf t k v):tt p cf t (λ_=>k) v:=by
 obtain⟨c,hv⟩:=e.mH.ok;exact⟨e.mH,e.net,λx hx=>e.kn x x hx hx,λx hx=>by rw[(e.front hx).1];have:=hv.NL.1;omega⟩
structure qI (p:Pr)(cf:Cf)(t:Nat)(h:Nat→Nat)(tk:Nat→Bool)(i:Nat)(v u:Wd):Prop where
 mH:Lv p cf (λj=>if j<i then t+1 else t) u
 len:u.ps.length=v.ps.length
 G3:u.net.length≤i*v.ps.length
 kn:∀ x y,x<v.ps.length→y<v.ps.length→bq u x y=if x=y∧x<i then h x+1 else bq v x y
 on:∀ x y,x<v.ps.length→y<i→x≠y→tk y=true→∃ m∈u.net,(m.1=y∧m.2.1=x)∧pP m=h y+1
 of:∀ m∈u.net,m.1<i
theorem tt.half (e:tt p cf t h v):qI p cf t h tk 0 v v :=
 ⟨e.mH.more λi hi=>by rw[ag (Nat.not_lt_zero _)];exact bd _,rfl,by rw[e.net];exact Nat.zero_le _,λx y hx hy=>by rw[ag (λh=>Nat.not_lt_zero _ h.2)],λx y _ hy=>absurd hy (Nat.not_lt_zero _),λm hm=>by rw[e.net]at hm;cases hm⟩
theorem qI.al (e:qI p cf t h tk i v u)(hB:tt p cf t h v)(hi:i<v.ps.length)(hh:∀ x,x<v.ps.length→h x<1000)(b n:Int):qI p cf t h (λj=>decide (j≠i)&&tk j) (i+1) v (cv p ⟨1,i,b,n⟩ u)∧(cv p ⟨1,i,b,n⟩ u).net=u.net∧Lv p cf (λj=>if j<i then t+1 else t) (cv p ⟨1,i,b,n⟩ u):=by
 obtain⟨h1,h2,h3,h4,_⟩:=e.mH.al (i:=i) (by rw[e.len];exact hi) b n;have hhi:=hh i hi;have h5:bq u i i=h i:=by rw[e.kn i i hi hi,ag (by omega),hB.hd i hi]
 have h6:aw (an v i).k≤aw (an u i).k:=e.mH.N9 (by rw[e.len];exact hi) λj hj=>by
  rw[e.len]at hj;have h7:=hB.mH.N8 hi hj;rw[e.kn i j hi hj,ag (by omega)];exact h7
 have h8:=hB.fr i hi;refine⟨⟨h1.more λj hj=>?_,h3.trans e.len,?_,λx y hx hy=>?_,λx y hx hy bB jh=>?_,λm hm=>?_⟩,h2,h1⟩
 ·split <;> split <;> omega
 ·rw[h2,Nat.succ_mul];have:=e.G3;omega
 ·rw[h4,e.kn x y hx hy];by_cases e1:x=i∧y=i
  ·obtain⟨rfl,rfl⟩:=e1;rw[ag (by omega),ak ⟨⟨rfl,rfl⟩,by omega,by omega⟩,ak (by omega),hB.hd _ hi]
  ·rw[ag (c:=(x=i∧y=i)∧_) (λh=>e1 h.1),Nat.add_zero];by_cases e2:x=y∧x<i
   ·rw[ak e2,ak (by omega)]
   ·rw[ag e2,ag (by omega)]
 ·simp only[fj,decide_eq_true_eq]at jh;rw[h2];exact e.on x y hx (by omega) bB jh.2
 ·rw[h2]at hm;have:=e.of m hm;omega
theorem qI.next (e:qI p cf t h tk i v u)(hB:tt p cf t h v)(hi:i<v.ps.length)(hh:∀ x,x<v.ps.length→h x<1000)(ht:t<39)(b n b' n':Int):qI p cf t h tk (i+1) v (cv p ⟨2,i,b',n'⟩ (cv p ⟨1,i,b,n⟩ u))∧(cv p ⟨2,i,b',n'⟩ (cv p ⟨1,i,b,n⟩ u)).net=u.net++oP (cv p ⟨1,i,b,n⟩ u) i:=by
 obtain⟨e1,h2,h1⟩:=e.al hB hi hh b n;have h3:=e1.len;have hL:=h1.len.2.2;have cC:i*v.ps.length≤8*8:=Nat.mul_le_mul (by omega) (by omega);have oa:=e.G3;obtain⟨g1,jy,nq,nr,qm,_⟩:=h1.tick (i:=i) (by show (if i<i then t+1 else t)<39;rw[ag (by omega)];exact ht) (by rw[h3];exact hi) (by rw[h2,h3];omega) b' n';refine⟨⟨g1.more λj hj=>?_,nq.trans h3,?_,λx y hx hy=>by rw[nr];exact e1.kn x y hx hy,λx y hx hy bB jh=>?_,λm hm=>?_⟩,by rw[jy,h2]⟩
 ·show (if j=i then (if j<i then t+1 else t)+1 else if j<i then t+1 else t)≤if j<i+1 then t+1 else t
  split <;> split <;> (try split) <;> omega
 ·have:=acM (v:=cv p ⟨1,i,b,n⟩ u) (i:=i);rw[jy,h2,aL,Nat.succ_mul];omega
 ·rw[jy,h2];by_cases e2:y=i
  ·subst e2;obtain⟨m,hm,h5,h6⟩:=acL (v:=cv p ⟨1,y,b,n⟩ u) (i:=y) (j:=x) (by rw[h3];exact hx) bB;exact⟨m,List.mem_append_right _ hm,⟨h5,h6⟩,by rw[qm m hm,e1.kn y y hi hi,ak ⟨rfl,by omega⟩]⟩
  ·obtain⟨m,hm,h5⟩:=e.on x y hx (by omega) bB jh;exact⟨m,mem_append_left _ hm,h5⟩
 ·rw[jy,h2]at hm;rcases eN.1 hm with hm | hm
  ·have:=e.of m hm;omega
  ·obtain⟨j,_,rfl⟩:=cV.1 hm;show i<i+1;omega
theorem tt.Ot (hB:tt p cf t h v)(hh:∀ x,x<v.ps.length→h x<1000)(ht:t<39)(tk:Nat→Bool)(b:Int):∀ i,i≤v.ps.length→qI p cf t h tk i v (ts p tk b v i)
 | 0,_=>hB.half
 | i+1,hi=>by
  have h1:=hB.Ot hh ht tk b i (by omega);rw[ts];split
  ·exact (h1.next hB (by omega) hh ht _ _ _ _).1
  ·rename_i hk;have h2:=(h1.al hB (by omega) hh (b+i) 0).1;exact⟨h2.mH,h2.len,h2.G3,h2.kn,λx y hx hy bB jh=>h2.on x y hx hy bB (by
    simp only[fj,decide_eq_true_eq];exact⟨λe=>hk (by rw[← e];exact jh),jh⟩),h2.of⟩
structure ac6 (p:Pr)(cf:Cf)(t:Nat)(h:Nat→Nat)(tk:Nat→Bool)(v u:Wd):Prop where
 mH:Lv p cf (λ_=>t+1) u
 len:u.ps.length=v.ps.length
 net:u.net=[]
 hd:∀ x,x<v.ps.length→bq u x x=h x+1
 up:∀ x y,x<v.ps.length→y<v.ps.length→bq v x y≤bq u x y
 all:∀ x y,x<v.ps.length→y<v.ps.length→tk y=true→bq u x y=h y+1
theorem qI.B1 (e:qI p cf t h tk v.ps.length v u)(hB:tt p cf t h v):ac6 p cf t h tk v (va p u):=by
 obtain⟨h1,h2,h3,h4,h5,h6,_⟩:=e.mH.B1 (l:=u.net) rfl;have hl:=h3.trans e.len;have G4:∀ y,y<v.ps.length→bq (oQ p u.net.length u) y y=h y+1:=λy hy=>by
  rw[h5 y (by rw[e.len];exact hy),e.kn y y hy hy,ak ⟨rfl,hy⟩]
 refine⟨h1.more λj hj=>by rw[hl]at hj;rw[ak hj];exact bd _,hl,h2,G4,λx y hx hy=>?_,λx y hx hy jh=>?_⟩
 ·refine fA ?_ (h4 x y);rw[e.kn x y hx hy];split
  ·rename_i e1;rw[e1.1,hB.hd y hy];omega
  ·exact bd _
 ·by_cases e1:x=y
  ·subst e1;exact G4 x hx
  ·obtain⟨m,hm,⟨h7,h8⟩,h9⟩:=e.on x y hx hy e1 jh;have e9:=h6 m hm;rw[h7,h8,h9]at e9;have lk:=h1.acJ (i:=x) (j:=y) (by rw[hl];exact hx) (by rw[hl];exact hy);rw[G4 y hy]at lk;exact Nat.le_antisymm lk e9
noncomputable def vb (p:Pr)(b:Int)(v:Wd):Wd:=va p (ts p (λ_=>true) b v v.ps.length)
theorem oS.round (e:oS p cf t k v)(hh:k<1000)(ht:t<39)(b:Int):oS p cf (t+1) (k+1) (vb p b v)∧(vb p b v).ps.length=v.ps.length:=by
 have h1:=(e.base.Ot (λ_ _=>hh) ht (λ_=>true) b _ (bd _)).B1 e.base;exact⟨⟨h1.mH,h1.net,λx y hx hy=>h1.all x y (by rw[← h1.len];exact hx) (by rw[← h1.len];exact hy) rfl⟩,h1.len⟩
end
end
section
structure TK where
 tb:Nat
 n:Nat
 B:js
 D:nK
abbrev rU (K:TK):List Value:=[pt K.D.wb,.int .i64 K.n,.bool true]
def TS (W:World)(K:TK)(p:Pr)(c:Nat)(v:Wd):SP:=λh=>cj [aa K.tb 33 (rU K),aN W K.B p c v,bE W K.D p v] h
abbrev pR (n:Nat):Cf:=⟨n,0,77,2,8,2,1,3,2,7⟩
section
variable {W w:World}{L:List SP}{c i n:Nat}{p:Pr}{v:Wd}{K:TK}{t:fG}{cf:Cf}{tb:List UInt8}{gw:Bool}
theorem TS.open (I:U W w (TS W K p c v::L)):U W w (aa K.tb 33 (rU K)::aN W K.B p c v::bE W K.D p v::L):=I.open (M:=[_,_,_]) λ_ h=>h
theorem TS.close (I:U W w (aa K.tb 33 (rU K)::aN W K.B p c v::bE W K.D p v::L)):U W w (TS W K p c v::L):=U.shut (M:=[_,_,_]) I λ_ h=>h
structure TRd (w:World)(K:TK)(sH ac7 tu:Nat)(adP adN adE:Option Addr)(cP cN cE:Nat):Prop where
 t:Rd w K.tb 0 (rU K)
 d:Rd w K.D.wb 0 [pt K.D.mb,.slice adP sH cP,.slice adN ac7 cN,.slice adE tu cE]
theorem TS.rd (I:U W w (TS W K p c v::L)):∃ (sH tu:Nat) (adP adN adE:Option Addr) (cP cN cE:Nat),TRd w K sH v.net.length tu adP adN adE cP cN cE:=by
 replace I:=TS.open I;have h1:=I.ai (b:=K.tb);obtain⟨adP,cP,adN,cN,adE,cE,xs,es,_,I⟩:=bE.open (I.pick (bE W K.D p v));exact⟨_,_,adP,adN,adE,cP,cN,cE,h1,I.ai (b:=K.D.wb)⟩
theorem ac8 (I:U W w L):Calls Tryz.prog 39 #[] w λe w'=>e=.returned (.bool true)∧U W w' L:=by
 refine EN Tryz.func39 Tryz.ntmps39 rfl rfl λa E=>?_;refine CL 3 E I (ac2 I) λa w E I=>?_;refine RT 1 E I ?_;exact⟨rfl,I⟩
theorem ac9 (I:U W w L):Calls Tryz.prog 13 #[] w λe w'=>e=.returned (.bool true)∧U W w' L:=by
 refine EN Tryz.func13 Tryz.ntmps13 rfl rfl λa E=>?_;refine CL 3 E I (ac8 I) λa w E I=>?_;refine RT 1 E I ?_;exact⟨rfl,I⟩
theorem ada {x L:Int}(h:0<L):-L<x.tmod L∧x.tmod L<L:=by
 have h1:=Int.natAbs_tmod x L;have h2:=Nat.mod_lt x.natAbs (show 0<L.natAbs by omega);omega
theorem Ou (I:U W w L){x:Int}{k:Nat}(hk:0<k)(b9:k≤1000):Calls Tryz.prog 14 #[.int .i64 x,.int .i64 k] w λe w'=>∃ y:Nat,e=.returned (.int .i64 y)∧y<k∧U W w' L:=by
 have hb:=ada (x:=x) (L:=k) (by omega);refine EN Tryz.func14 Tryz.ntmps14 rfl rfl λa E=>?_;refine IF 11 E I (λaj a E=>?_) λaj a E=>?_
 ·
  refine RT 6 E I ?_;exact⟨(x.tmod k).natAbs,by rw[fY (by omega) (by omega),show (((x.tmod k).natAbs:Nat):Int)=0-x.tmod k from by omega],by omega,I⟩
 refine RT 3 E I ?_;exact⟨(x.tmod k).natAbs,by rw[show (((x.tmod k).natAbs:Nat):Int)=x.tmod k from by omega],by omega,I⟩
theorem adb (I:U W w L):Calls Tryz.prog 16 #[.int .i64 n] w λe w'=>e=.returned (.agg (bS (pR n)).toArray)∧U W w' L:=by
 refine EN Tryz.func16 Tryz.ntmps16 rfl rfl λa E=>?_;refine AL 1 E I λb2 a w E I=>?_;refine SA 3 E I λa w E I=>?_;refine RT 0 E I ?_;exact⟨rfl,I.sub⟩
theorem G5 (I:U W w (TS W K p c v::L))(jH:tr W p K.B K.D cf tb gw)(hc:Wc p cf c v)(jX:c≤900000):Calls Tryz.prog 21 #[pt K.tb,.agg (dR t).toArray] w λe w'=>e=.returned (.tuple #[])∧U W w' (TS W K p (c+10) (cv p t v)::L):=by
 replace I:=TS.open I;refine EN Tryz.func21 Tryz.ntmps21 rfl rfl λa E=>?_;refine BX 1 E I λb3 a w E I=>?_;change U W w (aa b3 58 (dR t)::_) at I;refine RN 5 E I λa E=>?_;replace E:=E.eg 7;refine RN 1 E I λa E=>?_;obtain⟨adP,cP,adN,cN,adE,cE,xs,es,hx,_⟩:=bE.open (I.pick (bE W K.D p v));refine aX 0 (λw0 w'=>Rd w' K.tb 0 (rU K)∧Rd w' b3 0 (dR t)) [5] [0,1,2,3,3004,1005,1006,7,8,1009] E I λa w E I hH=>?_;have hC:=hH.at w ⟨I.ai (b:=K.tb),I.ai (b:=b3)⟩;refine RH 4 E I hH hC λa E=>?_;refine QH E (λw hc=>ae E (hc.1 0 _ rfl)) hC λa E=>?_;refine RH 0 E I hH hC λa E=>?_;refine SS E (bR E Tryz.underlying58 rfl Ty.t58 (hC.2)) λa E=>?_;refine RH 0 E I hH hC λa E=>?_;refine CL 0 E I (ac4 ((I.pick (bE W K.D p v)).pick (aN W K.B p c v)) jH hc.ok hc.calm jX) λa w E I=>?_;refine ST 2 E I (λa w E I=>?_);refine RT 0 E I ?_;exact⟨rfl,TS.close I.sub⟩
theorem ade (p:Pr){m:Ml}{r:List Ml}(hm:v.net=m::r)(a b:Int):(cv p ⟨3,a,b,0⟩ v).net=r:=by
 rw[cv,ag (by show ¬ (3:Int)=7;omega),GW p hm];exact (qF _ _).2.1
theorem adf (I:U W w (TS W K p c v::L))(jH:tr W p K.B K.D cf tb gw)(hc:Wc p cf c v)(jX:c≤800000):Calls Tryz.prog 38 #[pt K.tb] w λe w'=>e=.returned (.tuple #[])∧(Wc p cf (c+10*v.net.length) (va p v)∧(va p v).net=[])∧U W w' (TS W K p (c+10*v.net.length) (va p v)::L):=by
 have hn:=hc.ok.net.1;refine EN Tryz.func38 Tryz.ntmps38 rfl rfl λa E=>?_;refine RN 2 E I λa E=>?_;refine aO (λμ a w=>∃ (i:Nat) (u:Wd),(μ=v.net.length-i∧(i≤v.net.length∧u.net.length=v.net.length-i)∧Wc p cf (c+10*i) u∧oQ p (v.net.length-i) u=va p v)∧Fr a 27 [(0,pt K.tb),(2,.int .i64 i)]∧U W w (TS W K p (c+10*i) u::L)) (v.net.length) (⟨0,v,⟨rfl,⟨by omega,rfl⟩,hc,rfl⟩,E.ab [0,2],I⟩) ?_;clear E I;rintro μ a w ⟨i,u,⟨rfl,⟨hi,o2⟩,rV,dY⟩,E,I⟩;refine RN 2 E I λa E=>?_;obtain⟨sH,tu,adP,adN,adE,cP,cN,cE,hT⟩:=TS.rd I;refine RN 3 E I λa E=>?_;rw[dh (by omega)]at E;refine RN 3 E I λa E=>?_;refine bt E (cm E rfl (s:=5)) (ae E (hT.t 2 _ rfl)) rfl λa E=>?_;refine RN 2 E I λa E=>?_;replace E:=E.eg 11;refine RN 3 E I λa E=>?_;refine bt E (cm E rfl (s:=11)) (ae E (hT.t 0 _ rfl)) rfl λa E=>?_;refine RN 2 E I λa E=>?_;refine bt E (cm E rfl (s:=11)) (ae E (hT.d 2 _ rfl)) rfl λa E=>?_;refine IF 3 E I (λaj a E=>?_) λaj a E=>?_
 ·
  obtain⟨m,r,hm⟩:∃ m r,u.net=m::r:=by
   cases h:u.net with
   | nil=>have h9:=congrArg List.length h;rw[length_nil]at h9;omega
   | cons m r=>exact⟨m,r,rfl⟩
  have eJ:=ade p hm 0 0;have gk:r.length=v.net.length-(i+1):=by rw[hm,eL]at o2;omega
  refine CL 3 E I (G5 (t:=⟨3,0,0,0⟩) I jH rV (by omega)) λa w E I=>?_;refine RN 3 E I λa E=>?_;refine⟨v.net.length-(i+1),by omega,i+1,cv p ⟨3,0,0,0⟩ u,⟨rfl,⟨by omega,by rw[eJ];exact gk⟩,rV.go,?_⟩,E.ab [0,2],I⟩;rw[← dY,show v.net.length-i=(v.net.length-(i+1))+1 from by omega];rfl
 refine RT 0 E I ?_;obtain rfl:i=v.net.length:=by omega
 rw[Nat.sub_self]at dY;replace dY:u=va p v:=dY;subst dY;exact⟨rfl,⟨rV,gT (by omega)⟩,I⟩
theorem adg (I:U W w (TS W K p c v::L))(jH:tr W p K.B K.D cf tb gw)(hc:Wc p cf c v)(jX:c≤700000)(hn:v.ps.length=K.n){b:Nat}(hb:b<256):Calls Tryz.prog 17 #[pt K.tb,.int .u8 b] w λe w'=>e=.returned (.tuple #[])∧(∃ c',c'≤c+4000∧Wc p cf c' (vb p b v)∧U W w' (TS W K p c' (vb p b v)::L)):=by
 have hL:=hc.ok.len;refine EN Tryz.func17 Tryz.ntmps17 rfl rfl λa E=>?_;refine RN 3 E I λa E=>?_;refine aO (λμ a w=>∃ (i:Nat),(μ=K.n-i∧i≤K.n∧Wc p cf (c+20*i) (ts p (λ_=>true) b v i))∧Fr a 27 [(0,pt K.tb),(1,.int .u8 b),(4,.int .i64 i)]∧U W w (TS W K p (c+20*i) (ts p (λ_=>true) b v i)::L)) (K.n) (⟨0,⟨rfl,by omega,hc⟩,E.ab [0,1,4],I⟩) ?_;clear E I;rintro μ a w ⟨i,⟨rfl,hi,rV⟩,E,I⟩;refine RN 2 E I λa E=>?_;obtain⟨sH,tu,adP,adN,adE,cP,cN,cE,hT⟩:=TS.rd I;refine RN 4 E I λa E=>?_;refine SS E (ae E (hT.t 1 _ rfl)) λa E=>?_;refine IF 1 E I (λaj a E=>?_) λaj a E=>?_
 ·
  refine SX 5 E I (fY (by omega) (by omega)) λa E=>?_;refine CL 3 E I (G5 (t:=⟨1,i,(b:Int)+i,0⟩) I jH rV (by omega)) λa w E I=>?_;refine CL 3 E I (G5 (t:=⟨2,i,0,0⟩) I jH rV.go (by omega)) λa w E I=>?_;refine RN 3 E I λa E=>?_;rw[show c+20*i+10+10=c+20*(i+1) from by omega]at I;exact⟨K.n-(i+1),by omega,i+1,⟨rfl,by omega,by rw[show c+20*(i+1)=c+20*i+10+10 from by omega];exact (rV.go (t:=⟨1,i,(b:Int)+i,0⟩)).go (t:=⟨2,i,0,0⟩)⟩,E.ab [0,1,4],I⟩
 obtain rfl:i=K.n:=by omega
 refine CL 1 E I (adf I jH rV (by omega)) λa w E ⟨hf,I⟩=>?_;refine RT 0 E I ?_;have h9:=rV.ok.net.1;exact⟨rfl,c+20*K.n+10*(ts p (λ_=>true) b v K.n).net.length,by omega,by rw[vb,hn];exact hf.1,by rw[vb,hn];exact I⟩
set_option maxHeartbeats 1000000 in
theorem adh (I:U W w L)(fU:nf (dy cf 0) cy [])(hn:cf.n=n):Calls Tryz.prog 15 #[.agg (bS cf).toArray,.bool gw] w λe w'=>∃ (W2:World) (K:TK),e=.returned (pt K.tb)∧(K.n=n∧Below W.heap.size W W2∧tr W2 cy K.B K.D cf [] gw∧Wc cy (dy cf 0) 0 (fW cy cf n))∧U W2 w' (TS W2 K cy 0 (fW cy cf n)::[]):=by
 have th:=fU.1;have nz:cf.n.toNat=n:=by omega
 refine EN Tryz.func15 Tryz.ntmps15 rfl rfl λa E=>?_;refine BX 1 E I λb2 a w E I=>?_;change U W w (aa b2 28 (bS cf)::_) at I;refine aX 2 (λw0 w'=>Rd w' b2 0 (bS cf)) [1] [2,3000,1001,1003,4] E I λa w E I hH=>?_;have hC:=hH.at w (I.ai (b:=b2));refine RH 1 E I hH hC λa E=>?_;refine QH E (λw hc=>bR E Tryz.underlying28 rfl Ty.t28 (hc)) hC λa E=>?_;refine RH 0 E I hH hC λa E=>?_;refine bh 0 E I (MT I) λadP a w E I=>?_;replace hC:=hH.at w (I.ai (b:=b2));have pd:Rd w b2 0 (bS cf):=I.ai (b:=b2);have uF:b2<w.heap.size:=Rd.lt pd;have y3:y2 w cy adP 12:=U.roW (I.pick (aA W cy adP 12));have ua:=I.below;obtain⟨W2,Ov⟩:∃ W2,W2=w:=⟨_,rfl⟩;replace I:U W2 w []:=by rw[Ov];exact U.start w
 rw[← Ov]at pd uF y3 ua;have c4:∀ w' L,U W2 w' L→Rd w' b2 0 (bS cf):=λw' L I j v hj=>(I.below.cell uF).trans (pd j v hj);refine RH 0 E I hH hC λa E=>?_;refine aY 0 E I (acT (cf:=cf) (tb:=[]) (adT:=none) (cT:=0) fU I y3 rfl qD (by decide) (by decide) (by decide) (λw' h=>aT.nil)) λB D a w E ⟨hN,I⟩=>?_;refine RN 1 E I λa E=>?_;refine RN 3 E I λa E=>?_;refine SS E (ae E (c4 _ _ I 0 _ rfl)) λa E=>?_;rw[hn]at E;refine BX 3 E I λqn a w E I=>?_;refine RT 1 E I ?_;rw[nz]at I hN;refine⟨W2,⟨qn,n,B,D⟩,rfl,⟨rfl,ua,⟨hN.1,by rw[nz];exact hN.2.1,hN.2.2,fU.2.2,qD,by decide⟩,?_⟩,?_⟩
 ·have h1:=Wc.new (p:=cy) th;rw[show (dy cf 0).n.toNat=n from nz]at h1;exact h1
 ·exact TS.close (K:=⟨qn,n,B,D⟩) I
end
end
section
section
variable {W w:World}{L:List SP}{n c i f:Nat}{p:Pr}{cf:Cf}{v:Wd}{D:nK}
theorem G6 {w:World}{y:oR}{p:Pr}(h:y4 w p y)(hf:f<y.1.2.k.mr.length):∃ b o,y.2.1.cd=some ⟨b,o,none⟩∧w.cell? ⟨b,o+f,none⟩=some (.int .u32 (y.1.2.k.mr.getD f 0:Nat)):=by
 obtain⟨b,o,h1,h2⟩:=h.mr (by omega);refine⟨b,o,h1,h2 f _ ?_⟩;rw[c0,bm,aD hf,bl,aD hf];rfl
theorem Ow {w:World}{y:oR}{p:Pr}{b o:Nat}(h:y4 w p y)(he:y.2.1.cd=some ⟨b,o,none⟩)(hf:f<y.1.2.k.mr.length):w.cell? ⟨b,o+f,none⟩=some (.int .u32 (y.1.2.k.mr.getD f 0:Nat)):=by
 obtain⟨b',o',h1,h2⟩:=G6 h hf;rw[he]at h1;cases h1;exact h2
theorem Ox {P:Program}{ops:Array Oper}{Q:Exit→Act→World→Prop}{C C':World→Prop}{bg:List Nat}(k:∀ w,C' w→C w):∀ (fuel:Nat) (bC:Array Bool) (a:Act) (w:World),g8 P ops Q C' bg fuel bC a w→g8 P ops Q C bg fuel bC a w
 | 0,_,_,_,h=>h
 | fuel+1,_,_,_,h=>⟨h.1,λi hi=>wpOp_mono (λa' w' h'=>⟨λhn=>k _ (h'.1 hn),Ox k fuel _ a' w' h'.2⟩) (h.2 i hi)⟩
theorem Oy {P:Program}{ops:Array Oper}{Q:Exit→Act→World→Prop}{C:World→Prop}{bg od:List Nat}{fuel m:Nat}{a:Act}{w:World}{b:Bool}(C':World→Prop)(k:∀ w,C' w→C w)(hC:C w)(h:ga P ops Q C' bg od fuel m a w):CN b C (ga P ops Q C bg od fuel m) a w :=
 ⟨λ_=>hC,Ox k _ _ _ _ h⟩
set_option maxHeartbeats 2000000 in
theorem adi (I:U W w (bE W D p v::L))(hv:bK p cf c v)(hA:∀ i j f,i<v.ps.length→j<v.ps.length→f<aw (an v i).k→f<aw (an v j).k→bI (an v i).k.ls f=bI (an v j).k.ls f∧(an v i).k.mr.getD f 0=(an v j).k.mr.getD f 0)
   (qH:∀ l∈v.ev,∀ e∈l,e.1≠3) (jW:9*c+100≤1000000000):Calls Tryz.prog 18 #[pt D.wb] w λe w'=>e=.returned (.bool true)∧U W w' (bE W D p v::L):=by
 replace I:=bE.open I;obtain⟨adP,cP,adN,cN,gx,gh,rs,fs,⟨gV,iN,lU⟩,I⟩:=I;obtain⟨ys,lD,I⟩:=B3 (I.pick (ah (da W p) rs));have gk:rs.length=v.ps.length:=by rw[← iN,a8]
 have iE:ys.length=v.ps.length:=by rw[← gk,← lD,a8]
 have dY:fs.length=v.ps.length:=by rw[← hv.ev,← lU,a8]
 have hn:=hv.len;have ti:∀ i,i<v.ps.length→∃ y,ys[i]?=some y∧y.1.2=an v i∧(rs.map dz)[i]?=some (pt y.1.1.pb):=λi hi=>by
  refine⟨ys[i],aD (by omega),?_,?_⟩
  ·rw[an,← iN,← lD,List.map_map,bl,bm,aD (by omega)];rfl
  ·rw[← lD,List.map_map,bm,aD (by omega)];rfl
 have ck:∀ w',U W w' (ah (kb W p) ys::aa D.wb 40 [pt D.mb,.slice adP rs.length cP,.slice adN v.net.length cN,.slice gx fs.length gh]::Sl 34 1 adP rs.length cP (rs.map dz)::ch 60 adN v.net.length cN v.net::Sl 70 1 gx fs.length gh (fs.map bx)::ah eT fs::L)→U W w' (bE W D p v::L):=λw' h=>by
  have h1:=B4 h;rw[lD]at h1;exact bE.close (h1.sub (M:=aa D.wb 40 [pt D.mb,.slice adP rs.length cP,.slice adN v.net.length cN,.slice gx fs.length gh]::Sl 34 1 adP rs.length cP (rs.map dz)::ah (da W p) rs::ch 60 adN v.net.length cN v.net::Sl 70 1 gx fs.length gh (fs.map bx)::ah eT fs::L)) gV iN lU
 replace I:=I.sub (M:=ah (kb W p) ys::aa D.wb 40 [pt D.mb,.slice adP rs.length cP,.slice adN v.net.length cN,.slice gx fs.length gh]::Sl 34 1 adP rs.length cP (rs.map dz)::ch 60 adN v.net.length cN v.net::Sl 70 1 gx fs.length gh (fs.map bx)::ah eT fs::L);generalize hM:(ah (kb W p) ys::aa D.wb 40 [pt D.mb,.slice adP rs.length cP,.slice adN v.net.length cN,.slice gx fs.length gh]::Sl 34 1 adP rs.length cP (rs.map dz)::ch 60 adN v.net.length cN v.net::Sl 70 1 gx fs.length gh (fs.map bx)::ah eT fs::L)=M at I ck;obtain⟨bp,op,CJ⟩:∃ bp op,adP=some ⟨bp,op,none⟩:=by
  rw[← hM]at I;obtain⟨bp,op,h,_⟩:=(I.pick (Sl 34 1 adP rs.length cP (rs.map dz))).bU adP (by omega);exact⟨bp,op,h⟩
 obtain⟨iT,oF,hbF⟩:∃ iT oF,gx=some ⟨iT,oF,none⟩:=by
  rw[← hM]at I;obtain⟨bp,op,h,_⟩:=(I.pick (Sl 70 1 gx fs.length gh (fs.map bx))).bU gx (by omega);exact⟨bp,op,h⟩
 have Oz:=I;clear I;subst CJ hbF;have rW:∀ w',U W w' M→Rd w' D.wb 0 [pt D.mb,.slice (some ⟨bp,op,none⟩) rs.length cP,.slice adN v.net.length cN,.slice (some ⟨iT,oF,none⟩) fs.length gh]:=λw' h=>by
  rw[← hM]at h;exact h.ai (b:=D.wb)
 have w8:∀ w',U W w' M→Rd w' bp op (rs.map dz):=λw' h=>by
  rw[← hM]at h;exact h.cJ bp op (by omega)
 have OA:∀ w',U W w' M→Rd w' iT oF (fs.map bx):=λw' h=>by
  rw[← hM]at h;exact h.cJ iT oF (by omega)
 have rY:∀ {i:Nat} {y:oR} {w':World},U W w' M→ys[i]?=some y→y4 w' p y:=λh hy=>by
  rw[← hM]at h;exact B5 h hy
 have adj:∀ {i:Nat} {x:j9} {w':World},U W w' M→fs[i]?=some x→0<x.2.2.length→∃ b o,x.1=some ⟨b,o,none⟩∧Rd w' b o (rows bT x.2.2):=λ{i x w'} h hx h0=>by
  rw[← hM]at h;obtain⟨hi,h1⟩:=a2.1 hx;have h2:=(h.pick (ah eT fs)).fq hi;rw[h1]at h2;replace h2:U W w' (Sl 102 3 x.1 x.2.2.length x.2.1 (rows bT x.2.2)::_):=h2;exact h2.bU x.1 h0
 clear hM;have I:=Oz;clear Oz;refine EN Tryz.func18 Tryz.ntmps18 rfl rfl λa E=>?_;refine RN 5 E I λa E=>?_;refine aO (λμ a w=>∃ (i:Nat),(μ=v.ps.length-i∧i≤v.ps.length)∧Fr a 142 [(0,pt D.wb),(3,.int .i64 i)]∧U W w M) (v.ps.length) (⟨0,⟨rfl,by omega⟩,E.ab [0,3],I⟩) ?_;clear E I;rintro μ a w ⟨i,⟨rfl,hi⟩,E,I⟩;refine RN 6 E I λa E=>?_;refine SS E (ae E ((rW _ I) 1 _ rfl)) λa E=>?_;refine IF 2 E I (λaj a E=>?_) λaj a E=>?_
 ·
  have aH:i<v.ps.length:=by omega
  obtain⟨y,hy,pJ,G7⟩:=ti i aH;have vc:cu p y.1.2:=by rw[pJ];exact (hv.pl i aH).1
  have vd:bj y.2.2=y.1.2.k.ls:=(rY I hy).eq;refine RN 4 E I λa E=>?_;refine aO (λμ a w=>∃ (k:Nat),(μ=i-k∧k≤i)∧Fr a 142 [(0,pt D.wb),(3,.int .i64 i),(4,.int .i64 k)]∧U W w M) (i) (⟨0,⟨rfl,by omega⟩,E.ab [0,3,4],I⟩) ?_;clear E I;rintro μ a w ⟨k,⟨rfl,hk⟩,E,I⟩;refine IF 5 E I (λao a E=>?_) λao a E=>?_
  ·
   have dM:k<v.ps.length:=by omega
   obtain⟨z,hz,qk,w5⟩:=ti k dM;have ve:cu p z.1.2:=by rw[qk];exact (hv.pl k dM).1
   have B8:bj z.2.2=z.1.2.k.ls:=(rY I hz).eq;refine aX 2 (λw0 w'=>U W w' M) [10,14,16,17,18,19,20] [0,1,2,4,11,12,13,15,3003,5,3006,7,8,3009,3014,3016,3017,3018,3019,3020,1010,1021,22,23] E I λa w E I hH=>?_;have hC:=hH.at w I;refine RH 8 E I hH hC λa E=>?_;refine QH E (λw hc=>ae E (rW _ hc 1 _ rfl)) hC λa E=>?_;refine RH 1 E I hH hC λa E=>?_;refine QH E (λw hc=>ae E (w8 _ hc i _ G7)) hC λa E=>?_;refine RH 2 E I hH hC λa E=>?_;refine QH E (λw hc=>ae E ((rY hc hy).pb 0 _ rfl)) hC λa E=>?_;refine QH E (λw hc=>ae E (rW _ hc 1 _ rfl)) hC λa E=>?_;refine RH 1 E I hH hC λa E=>?_;refine QH E (λw hc=>ae E (w8 _ hc k _ w5)) hC λa E=>?_;refine RH 2 E I hH hC λa E=>?_;refine QH E (λw hc=>ae E ((rY hc hz).pb 0 _ rfl)) hC λa E=>?_;refine RH 0 E I hH hC λa E=>?_;refine CL 0 E I (GZ (A:=y.2.1) I vc.wc vd λw' h=>⟨(rY h hy).cb,(rY h hy).ls⟩) λa w E I=>?_;replace hC:=hH.at w I;refine RH 0 E I hH hC λa E=>?_;refine CL 0 E I (GZ (A:=z.2.1) I ve.wc B8 λw' h=>⟨(rY h hz).cb,(rY h hz).ls⟩) λa w E I=>?_;refine RN 1 E I λa E=>?_;rw[show min ((aw y.1.2.k:Nat):Int) ((aw z.1.2.k:Nat):Int)=((min (aw y.1.2.k) (aw z.1.2.k):Nat):Int) from by omega]at E;refine RN 1 E I λa E=>?_;refine RN 2 E I λa E=>?_;refine aO (λμ a w=>∃ (f:Nat),(μ=min (aw y.1.2.k) (aw z.1.2.k)-f∧f≤min (aw y.1.2.k) (aw z.1.2.k))∧Fr a 142 [(0,pt D.wb),(3,.int .i64 i),(4,.int .i64 k),(5,.int .i64 (min (aw y.1.2.k) (aw z.1.2.k):Nat)),(6,.int .i64 f)]∧U W w M) (min (aw y.1.2.k) (aw z.1.2.k)) (⟨0,⟨rfl,by omega⟩,E.ab [0,3,4,5,6],I⟩) ?_;clear E I;rintro μ a w ⟨f,⟨rfl,hf⟩,E,I⟩;refine IF 5 E I (λay a E=>?_) λay a E=>?_
   ·
    have dY:f<aw y.1.2.k∧f<aw z.1.2.k:=by omega
    obtain⟨yy,om⟩:bI y.1.2.k.ls f=bI z.1.2.k.ls f∧y.1.2.k.mr.getD f 0=z.1.2.k.mr.getD f 0:=by
     rw[pJ,qk]at dY ⊢;exact hA i k f aH dM dY.1 dY.2
    have adk:y.1.2.k.ls.length=y.2.2.length:=by rw[← vd,fR]
    have adl:z.1.2.k.ls.length=z.2.2.length:=by rw[← B8,fR]
    have Bg:=vc.full;have Kr:=ve.full;have hy8:=vc.wc.ls;have hz8:=ve.wc.ls;have hyn:=vc.wc.n;have JD:=ve.wc.n;have tj:=fA vc.wc.m6 vc.wc.lv;obtain⟨by1,oy1,gV,_⟩:=G6 (f:=f) (rY I hy) (by rw[vc.full];exact dY.1);obtain⟨bz1,oz1,cU,_⟩:=G6 (f:=f) (rY I hz) (by rw[ve.full];exact dY.2);refine RN 2 E I λa E=>?_;simp only[List.append];refine aX 0 (λw0 w'=>U W w' M) [14,15,19,21,22,23,24,25,26,27,28,30,31,53,55,56,57,58,59,60,61,62,64,65] [0,1,2,4,13,16,17,18,20,29,3003,5,3006,7,8,3009,10,11,3012,3019,3021,3022,3023,3024,3025,3026,3027,3028,1014,3015,1030,1031,32,33,34,35,36,38,47,50,51,52,54,63,3037,39,3040,41,42,3043,44,45,3046,48,3049,1053,1055,1056,1057,1058,1059,1060,1061,1062,1064,1065,66,67] E I λa w E I hH=>?_;have hC:=hH.at w I;refine RH 10 E I hH hC λa E=>?_;refine QH E (λw hc=>ae E (rW _ hc 1 _ rfl)) hC λa E=>?_;refine RH 1 E I hH hC λa E=>?_;refine QH E (λw hc=>ae E (w8 _ hc i _ G7)) hC λa E=>?_;refine RH 2 E I hH hC λa E=>?_;refine QH E (λw hc=>ae E ((rY hc hy).pb 0 _ rfl)) hC λa E=>?_;refine RH 2 E I hH hC λa E=>?_;refine QH E (λw hc=>ae E ((rY hc hy).cb 10 _ rfl)) hC λa E=>?_;rw[adk]at E;refine RH 0 E I hH hC λa E=>?_;refine QH E (λw hc=>ae E (rW _ hc 1 _ rfl)) hC λa E=>?_;refine RH 1 E I hH hC λa E=>?_;refine QH E (λw hc=>ae E (w8 _ hc k _ w5)) hC λa E=>?_;refine RH 2 E I hH hC λa E=>?_;refine QH E (λw hc=>ae E ((rY hc hz).pb 0 _ rfl)) hC λa E=>?_;refine RH 2 E I hH hC λa E=>?_;refine QH E (λw hc=>ae E ((rY hc hz).cb 10 _ rfl)) hC λa E=>?_;rw[adl]at E;refine RH 0 E I hH hC λa E=>?_;refine aY 0 E I (FM (xs:=y.2.2) (f:=f) I (by omega) (by omega) (λw' hw=>(rY hw hy).ls) (by rw[vd];exact dY.1)) λvf iR a w E I=>?_;rw[vd,yy]at E I;refine Oy (λw'=>U W w' M∧aT w' vf (bI z.1.2.k.ls f).length (bI z.1.2.k.ls f)) (λ_ h=>h.1) I.tail ?_;have hH:=Hd.any (λw'=>U W w' M∧aT w' vf (bI z.1.2.k.ls f).length (bI z.1.2.k.ls f));have hC:=hH.at w ⟨I.tail,I.cr vf _ rfl rfl⟩;refine RH 0 E I hH hC λa E=>?_;refine QH E (λw hc=>ld E Tryz.underlying22 Tryz.underlying5 Tryz.underlying9 (hc.2)) hC λa E=>?_;refine RH 0 E I hH hC λa E=>?_;refine aY 0 E I (FM (xs:=z.2.2) (f:=f) I (by omega) (by omega) (λw' hw=>(rY hw.tail hz).ls) (by rw[B8];exact dY.2)) λjm afv a w E I=>?_;rw[B8]at E I;refine Oy (λw'=>(U W w' M∧aT w' vf (bI z.1.2.k.ls f).length (bI z.1.2.k.ls f))∧aT w' jm (bI z.1.2.k.ls f).length (bI z.1.2.k.ls f)) (λ_ h=>h.1) ⟨I.tail.tail,I.cr vf _ rfl rfl⟩ ?_;have hH:=Hd.any (λw'=>(U W w' M∧aT w' vf (bI z.1.2.k.ls f).length (bI z.1.2.k.ls f))∧aT w' jm (bI z.1.2.k.ls f).length (bI z.1.2.k.ls f));have hC:=hH.at w ⟨⟨I.tail.tail,I.cr vf _ rfl rfl⟩,I.cr jm _ rfl rfl⟩;refine RH 0 E I hH hC λa E=>?_;refine SS E (ld E Tryz.underlying22 Tryz.underlying5 Tryz.underlying9 (hC.2)) λa E=>?_;refine RH 0 E I hH hC λa E=>?_;refine QP E (λw=>JQ E) λa E=>?_;rw[p5,beq_self_eq_true,Bool.not_true]at E;refine RH 1 E I hH hC λa E=>?_;replace E:=E.aM 83;refine RH 10 E I hH hC λa E=>?_;refine QH E (λw hc=>ae E (rW _ hc.1.1 1 _ rfl)) hC λa E=>?_;refine RH 1 E I hH hC λa E=>?_;refine QH E (λw hc=>ae E (w8 _ hc.1.1 i _ G7)) hC λa E=>?_;refine RH 2 E I hH hC λa E=>?_;refine QH E (λw hc=>ae E ((rY hc.1.1 hy).pb 0 _ rfl)) hC λa E=>?_;refine RH 2 E I hH hC λa E=>?_;refine QH E (λw hc=>ae E ((rY hc.1.1 hy).cb 16 _ rfl)) hC λa E=>?_;rw[gV]at E;refine RH 1 E I hH hC λa E=>?_;refine QH E (λw hc=>ae E (Ow (rY hc.1.1 hy) gV (by omega))) hC λa E=>?_;rw[om]at E;refine RH 0 E I hH hC λa E=>?_;refine bt E (cm E rfl (s:=83)) (ae E (rW _ hC.1.1 1 _ rfl)) rfl λa E=>?_;refine RH 1 E I hH hC λa E=>?_;refine bt E (cm E rfl (s:=83)) (ae E (w8 _ hC.1.1 k _ w5)) rfl λa E=>?_;refine RH 2 E I hH hC λa E=>?_;refine bt E (cm E rfl (s:=83)) (ae E ((rY hC.1.1 hz).pb 0 _ rfl)) rfl λa E=>?_;refine RH 2 E I hH hC λa E=>?_;refine bt E (cm E rfl (s:=83)) (ae E ((rY hC.1.1 hz).cb 16 _ rfl)) rfl λa E=>?_;rw[cU]at E;refine RH 1 E I hH hC λa E=>?_;refine bt E (cm E rfl (s:=83)) (ae E (Ow (rY hC.1.1 hz) cU (by omega))) rfl λa E=>?_;refine RH 2 E I hH hC λa E=>?_;rw[bn (by simp)]at E;refine RN 4 E I λa E=>?_;exact⟨min (aw y.1.2.k) (aw z.1.2.k)-(f+1),by omega,f+1,⟨rfl,by omega⟩,E.ab [0,3,4,5,6],I.sub⟩
   refine RN 3 E I λa E=>?_;exact⟨i-(k+1),by omega,k+1,⟨rfl,by omega⟩,E.ab [0,3,4],I⟩
  obtain⟨x,hx⟩:∃ x,fs[i]?=some x:=⟨_,aD (by omega)⟩;have vD:(fs.map bx)[i]?=some (.slice x.1 x.2.2.length x.2.1):=by rw[bm,hx];rfl
  have bV:=(hv.kA x.2.2 (by rw[← lU];exact cV.2 ⟨x,bG hx,rfl⟩)).1;have hxE:∀ e∈x.2.2,e.1≠3:=qH x.2.2 (by rw[← lU];exact cV.2 ⟨x,bG hx,rfl⟩);refine RN 2 E I λa E=>?_;refine aO (λμ a w=>∃ (k:Nat),(μ=x.2.2.length-k∧k≤x.2.2.length)∧Fr a 142 [(0,pt D.wb),(3,.int .i64 i),(7,.int .i64 k)]∧U W w M) (x.2.2.length) (⟨0,⟨rfl,by omega⟩,E.ab [0,3,7],I⟩) ?_;clear E I;rintro μ a w ⟨k,⟨rfl,hk⟩,E,I⟩;refine RN 6 E I λa E=>?_;refine SS E (ae E ((rW _ I) 3 _ rfl)) λa E=>?_;refine RN 2 E I λa E=>?_;refine SS E (ae E ((OA _ I) i _ vD)) λa E=>?_;refine IF 2 E I (λbL a E=>?_) λbL a E=>?_
  ·
   have dM:k<x.2.2.length:=by omega
   obtain⟨be,afw,uM,lM⟩:=adj I hx (by omega);replace lM:=jl AR lM (aD dM);have l8:=hxE _ (getElem_mem dM);refine RN 5 E I λa E=>?_;refine SS E (ae E ((rW _ I) 3 _ rfl)) λa E=>?_;refine RN 2 E I λa E=>?_;refine SS E (ae E ((OA _ I) i _ vD)) λa E=>?_;rw[uM]at E;refine RN 3 E I λa E=>?_;refine SS E (ae E (lM 0 _ rfl)) λa E=>?_;refine RN 1 E I λa E=>?_;rw[bn (by omega)]at E;refine RN 4 E I λa E=>?_;exact⟨x.2.2.length-(k+1),by omega,k+1,⟨rfl,by omega⟩,E.ab [0,3,7],I⟩
  refine RN 3 E I λa E=>?_;exact⟨v.ps.length-(i+1),by omega,i+1,⟨rfl,by omega⟩,E.ab [0,3],I⟩
 refine RT 2 E I ?_;exact⟨rfl,ck _ I⟩
end
end
section
structure TV where
 bp:Nat
 op:Nat
 cP:Nat
 adN:Option Addr
 cN:Nat
 adE:Option Addr
 tu:Nat
 cE:Nat
 ys:List oR
structure adm (W:World)(K:TK)(p:Pr)(c:Nat)(v:Wd)(M L:List SP)(V:TV):Prop where
 t:∀ {w':World},U W w' M→Rd w' K.tb 0 (rU K)
 d:∀ {w':World},U W w' M→Rd w' K.D.wb 0 [pt K.D.mb,.slice (some ⟨V.bp,V.op,none⟩) v.ps.length V.cP,.slice V.adN v.net.length V.cN,.slice V.adE V.tu V.cE]
 ps:∀ {w':World} {i:Nat} {y:oR},U W w' M→V.ys[i]?=some y→w'.cell? ⟨V.bp,V.op+i,none⟩=some (pt y.1.1.pb)
 rd:∀ {w':World} {i:Nat} {y:oR},U W w' M→V.ys[i]?=some y→y4 w' p y
 get:∀ i,i<v.ps.length→∃ y,V.ys[i]?=some y∧y.1.2=an v i
 back:∀ {w':World},U W w' M→U W w' (TS W K p c v::L)
 mat:∃ M',∀ w':World,U W w' M↔U W w' (aN W K.B p c v::M')
section
variable {W w:World}{L:List SP}{c i n:Nat}{p:Pr}{v:Wd}{K:TK}{cf:Cf}{G:List (List UInt8)}{OB:Int→Prop}{D:nK}
theorem TS.view (I:U W w (TS W K p c v::L))(h0:0<v.ps.length):∃ (M:List SP) (V:TV),adm W K p c v M L V∧U W w M:=by
 replace I:=TS.open I;obtain⟨adP,cP,adN,cN,gx,gh,rs,fs,⟨gV,iN,lU⟩,I⟩:=bE.open (I.pick (bE W K.D p v));obtain⟨ys,lD,I⟩:=B3 (I.pick (ah (da W p) rs));have gk:rs.length=v.ps.length:=by rw[← iN,a8]
 have iE:ys.length=v.ps.length:=by rw[← gk,← lD,a8]
 obtain⟨bp,op,rfl,_⟩:=(I.pick (Sl 34 1 adP rs.length cP (rs.map dz))).bU adP (by omega);replace I:=I.sub (M:=ah (kb W p) ys::aa K.D.wb 40 [pt K.D.mb,.slice (some ⟨bp,op,none⟩) rs.length cP,.slice adN v.net.length cN,.slice gx fs.length gh]::Sl 34 1 (some ⟨bp,op,none⟩) rs.length cP (rs.map dz)::ch 60 adN v.net.length cN v.net::Sl 70 1 gx fs.length gh (fs.map bx)::ah eT fs::aa K.tb 33 (rU K)::aN W K.B p c v::L);refine⟨_,⟨bp,op,cP,adN,cN,gx,fs.length,gh,ys⟩,⟨λh=>h.ai (b:=K.tb),λh=>by rw[← gk];exact h.ai (b:=K.D.wb),λh hy=>?_,λh hy=>B5 h hy,λi hi=>?_,λh=>?_,⟨_,λw'=>⟨λh=>h.pick (aN W K.B p c v),λh=>h.sub⟩⟩⟩,I⟩
 ·rename_i i y;refine h.cJ bp op (by omega) i _ ?_;rw[← lD,List.map_map,bm,hy];rfl
 ·show ∃ y,ys[i]?=some y∧y.1.2=an v i;refine⟨ys[i]'(by omega),aD (by omega),?_⟩;rw[an,← iN,bl,bm,show rs[i]?=(ys.map (·.1))[i]? from by rw[lD],bm,aD (by omega)];rfl
 ·have h1:=B4 h;rw[lD]at h1;have h2:=bE.close (v:=v) (D:=K.D) (h1.sub (M:=aa K.D.wb 40 [pt K.D.mb,.slice (some ⟨bp,op,none⟩) rs.length cP,.slice adN v.net.length cN,.slice gx fs.length gh]::Sl 34 1 (some ⟨bp,op,none⟩) rs.length cP (rs.map dz)::ah (da W p) rs::ch 60 adN v.net.length cN v.net::Sl 70 1 gx fs.length gh (fs.map bx)::ah eT fs::aa K.tb 33 (rU K)::aN W K.B p c v::L)) gV iN lU;exact TS.close (h2.sub (M:=aa K.tb 33 (rU K)::aN W K.B p c v::bE W K.D p v::L))
theorem adn (I:U W w (bE W D p v::L))(hv:bK p cf c v)(ju:gv p cf OB G v)(jW:9*c+100≤1000000000):Calls Tryz.prog 18 #[pt D.wb] w λe w'=>e=.returned (.bool true)∧U W w' (bE W D p v::L) :=
 adi I hv (λi j f hi hj h1 h2=>(ju.pl i hi).agree (ju.pl j hj) h1 h2) ju.bx jW
theorem ado (I:U W w (TS W K p c v::L))(hc:Wc p cf c v)(ju:gv p cf OB G v)(jX:c≤1000000):Calls Tryz.prog 18 #[pt K.D.wb] w λe w'=>e=.returned (.bool true)∧U W w' (TS W K p c v::L) :=
 (adn ((TS.open I).pick (bE W K.D p v)) hc.ok ju (by omega)).mono λe w' ⟨h1,h2⟩=>⟨h1,TS.close h2.sub⟩
theorem OC (h:2≤n∧n≤8):eQ (pR n):=by
 have h2:eQ (pR 2):=by decide
 refine⟨⟨⟨?_,?_⟩,⟨?_,?_⟩,h2.1.2.2⟩,h2.2⟩
 ·show (2:Int)≤(n:Int);omega
 ·show (n:Int)≤8;omega
 ·show (0:Int)≤0;omega
 ·show (0:Int)≤(n:Int)-1;omega
theorem adp (h:2≤n∧n≤8):nf (dy (pR n) 0) cy []:=⟨OC h,qD,show cX ⟨2,1,[]⟩ by decide⟩
theorem aT.below {W W':World}{ad:Option Addr}{m:Nat}{bs:List UInt8}(h:aT W ad m bs)(hb:Below W.heap.size W W'):aT W' ad m bs :=
 h.fX (L:=[]) ⟨hb,λ_=>none,λ_ _ h=>(by cases h),trivial⟩
end
end
section
set_option maxHeartbeats 2000000 in
theorem adr (a0 df:Int)(dc:Option Addr)(vg vh:Nat)(z2:List Int)(gw:Bool)(W:World)(w0:(Lit.int .i64 a0).wf=true)(G8:(Lit.int .i64 df).wf=true)(w2:sO .u8 W dc vg vh z2) :
   Calls Tryz.prog 3 #[.int .i64 a0,.int .i64 df,.slice dc vg vh,.bool gw] W λe w'=>e=.returned (.bool true)∧Below W.heap.size W w':=by
 have I:=U.start W;obtain⟨P,re,hP⟩:=w2.WU;have hlen:=w2.D2;refine EN Tryz.func3 Tryz.ntmps3 rfl rfl λa E=>?_;refine CL 3 E I (ac9 I) λa w E I=>?_;refine RN 5 E I λa E=>?_;replace E:=E.aM 16;refine bh 3 E I (Ou (k:=7) I (by decide) (by decide)) λy a w E ⟨hy,I⟩=>?_;refine bh 2 E I (Ou (k:=8) I (by decide) (by decide)) λR a w E ⟨qx,I⟩=>?_;refine RN 3 E I λa E=>?_;obtain⟨n,hn⟩:∃ n:Nat,n=2+y:=⟨_,rfl⟩;rw[show (2:Int)+(y:Int)=(n:Int) from by omega]at E;refine CL 1 E I (adb I) λa w E I=>?_;refine aY 1 E I (adh (cf:=pR n) (n:=n) I (adp (by omega)) rfl) λW K a w E ⟨⟨hKn,ua,jH,aj⟩,I⟩=>?_;refine RN 1 E I λa E=>?_;replace hP:=hP.below ua;have OD:oS cy (pR n) 0 2 (fW cy (pR n) n):=oS.new (OC (by omega));have rM:(fW cy (pR n) n).ps.length=n:=rT;generalize fW cy (pR n) n=v0 at I aj OD rM;refine RN 3 E I λa E=>?_;refine aO (λμ a w=>∃ (i c:Nat) (v:Wd),(μ=R-i∧(i≤R∧c≤4000*i)∧Wc cy (pR n) c v∧oS cy (pR n) i (2+i) v∧v.ps.length=n)∧Fr a 98 [(0,.int .i64 n),(1,.int .i64 R),(2,.slice dc vg vh),(10,pt K.tb),(11,.int .i64 i)]∧U W w (TS W K cy c v::[])) (R) (⟨0,0,v0,⟨rfl,⟨by omega,by omega⟩,aj,OD,rM⟩,E.ab [0,1,2,10,11],I⟩) ?_;clear E I;rintro μ a w ⟨i,c,v,⟨rfl,⟨hi,jX⟩,hc,qH,hl⟩,E,I⟩;refine IF 5 E I (λao a E=>?_) λao a E=>?_
 ·
  refine RN 3 E I λa E=>?_;refine SS E (gb E Tryz.underlying3 Tryz.underlying5) λa E=>?_;rw[show IntKind.u8.wrap (i:Int)=(i:Int) from by rw[wrap_u8];omega]at E;refine RN 1 E I λa E=>?_;refine b7 (M:=λa w=>(∃ b:Nat,b<256∧Fr a 98 [(0,.int .i64 n),(1,.int .i64 R),(2,.slice dc vg vh),(10,pt K.tb),(11,.int .i64 i),(12,.int .u8 b)])∧U W w (TS W K cy c v::[])) ?_ ?_
  ·
   refine IF 5 E I (λay a E=>?_) λay a E=>?_
   ·
    obtain⟨bb,oo,rfl,hr⟩:=(hP.fX I).get (by omega);have hx8:=lp (P[i]'(by omega));refine RN 3 E I λa E=>?_;refine SS E (ae E (hr i _ (dJ (by omega)))) λa E=>?_;refine RN 1 E I λa E=>?_;exact⟨⟨_,hx8,E.ab [0,1,2,10,11,12]⟩,I⟩
   refine RN 0 E I λa E=>?_;exact⟨⟨i,by omega,E.ab [0,1,2,10,11,12]⟩,I⟩
  clear E;(try clear I);rintro a w ⟨⟨b,hb,E⟩,I⟩;refine CL 2 E I (adg I jH hc (by omega) (by rw[hl,hKn]) hb) λa w E ⟨c',vk,qt,I⟩=>?_;refine RN 3 E I λa E=>?_;obtain⟨yG,lg⟩:=qH.round (by omega) (by omega) (b:Int);refine⟨R-(i+1),by omega,i+1,c',vb cy b v,⟨rfl,⟨by omega,by omega⟩,qt,?_,lg.trans hl⟩,E.ab [0,1,2,10,11],I⟩;rw[show 2+(i+1)=2+i+1 from by omega];exact yG
 obtain rfl:i=R:=by omega
 obtain⟨sH,tu,adP,adN,adE,cP,cN,cE,hT⟩:=TS.rd I;obtain⟨G,ju⟩:=qH.mH.ka;refine RN 5 E I λa E=>?_;refine SS E (ae E (hT.t 2 _ rfl)) λa E=>?_;refine RN 2 E I λa E=>?_;replace E:=E.aM 49;refine RN 3 E I λa E=>?_;refine bt E (cm E rfl (s:=49)) (ae E (hT.t 0 _ rfl)) rfl λa E=>?_;refine CL 0 E I (ado I hc ju (by omega)) λa w E I=>?_;refine RN 2 E I λa E=>?_;replace E:=E.aM 56;refine RN 4 E I λa E=>?_;obtain⟨M,V,lE,I⟩:=TS.view I (by omega);refine aO (λμ a w=>∃ (j:Nat),(μ=n-j∧j≤n)∧Fr a 98 [(0,.int .i64 n),(1,.int .i64 i),(10,pt K.tb),(13,.int .i64 j)]∧U W w M) (n) (⟨0,⟨rfl,by omega⟩,E.ab [0,1,10,13],I⟩) ?_;clear E I;rintro μ a w ⟨j,⟨rfl,hj⟩,E,I⟩;refine IF 5 E I (λbL a E=>?_) λbL a E=>?_
 ·
  have eh:j<v.ps.length:=by omega
  obtain⟨y,hy,pJ⟩:=lE.get j eh;have G9:=(hc.ok.pl j eh).1.wc;rw[← pJ]at G9;obtain⟨hf,hd⟩:=qH.front eh;rw[← pJ]at hf hd;have vd:=(lE.rd I hy).eq;refine RN 5 E I λa E=>?_;refine SS E (ae E ((lE.t I) 0 _ rfl)) λa E=>?_;refine RN 2 E I λa E=>?_;refine SS E (ae E ((lE.d I) 1 _ rfl)) λa E=>?_;refine RN 2 E I λa E=>?_;refine SS E (ae E (lE.ps I hy)) λa E=>?_;refine RN 2 E I λa E=>?_;refine SS E (ae E ((lE.rd I hy).pb 0 _ rfl)) λa E=>?_;refine CL 0 E I (GZ (A:=y.2.1) I G9 vd λw' h=>⟨(lE.rd h hy).cb,(lE.rd h hy).ls⟩) λa w E I=>?_;rw[hf]at E;refine RN 4 E I λa E=>?_;rw[bn (by omega)]at E;refine RN 3 E I λa E=>?_;refine bt E (cm E rfl (s:=79)) (ae E ((lE.t I) 0 _ rfl)) rfl λa E=>?_;refine RN 2 E I λa E=>?_;refine bt E (cm E rfl (s:=79)) (ae E ((lE.d I) 1 _ rfl)) rfl λa E=>?_;refine RN 2 E I λa E=>?_;refine bt E (cm E rfl (s:=79)) (ae E (lE.ps I hy)) rfl λa E=>?_;refine RN 2 E I λa E=>?_;refine bt E (cm E rfl (s:=79)) (ae E ((lE.rd I hy).pb 0 _ rfl)) rfl λa E=>?_;refine CL 0 E I (acW (A:=y.2.1) I G9 vd λw' h=>⟨(lE.rd h hy).cb,(lE.rd h hy).ls⟩) λa w E I=>?_;rw[hd]at E;refine RN 4 E I λa E=>?_;rw[bn (by omega)]at E;refine RN 4 E I λa E=>?_;exact⟨n-(j+1),by omega,j+1,⟨rfl,by omega⟩,E.ab [0,1,10,13],I⟩
 refine RT 2 E I ?_;exact⟨rfl,ac5 ua (lE.back I)⟩
end
section
set_option maxRecDepth 100000
theorem gi {x y:Bool}(h:x=true)(k:y=true):(x&&y)=true:=by rw[h,k];rfl
theorem ads {P:Program}{f:FuncId}{fn:Func}{s:ChangeSpec}{c:OpenClaim}(k1:c.wf (OpenSpec.ofChange s)=true)(k2:laidOutB P=true)(k3:mapsRowed P=true)(k4:fn.params.all (P.readableRec ·)=true)(yg:namedTie P c.named s.vars=true)
   (adt:(c.stops==[])=true) (adu:(P.stops==[])=true) (adv:(c.knobs==[])=true) (adw:(P.stopKnobs==[])=true) (Ha:(c.inPlace==P.inPlace f)=true) (B7:(c.unfollowed==P.unfollowed f)=true) (Hb:(c.recurses==P.recurses f)=true) (Hc:(c.named==P.varsNamed f)=true)
   (k14:(c.maps==(fn.params.toList++s.plain.varTypes P).any (P.mapsRec ·))=true) (k15:(c.ifaces==(fn.params.toList++s.plain.varTypes P).any (P.ifacesRec ·))=true) (k16:(c.mapsOut==P.mapsAmong fn.resultTypes.toList)=true)
   (k17:(c.loops==(fn.params.toList++s.plain.varTypes P).any (P.loopsFrom ·))=true) (k18:(c.wideKeys==(fn.params.toList++s.plain.varTypes P++fn.resultTypes.toList).any (P.wideKeysFrom ·))=true) (k19:s.vars.all (P.varReadable ·)=true) (k20:fn.resultTypes.all (λt=>P.readableRec t&&decide (t<P.types.size))=true)
   (k21:(c.ifacesOut==fn.resultTypes.toList.any (P.ifacesRec ·))=true) (k22:(c.loopsOut==fn.resultTypes.toList.any (P.loopsFrom ·))=true) (k23:(c.plainKeys==P.plainKeys)=true) (k24:c.shortTexts.isNone=true) (k25:P.stopsHeard=true) (k26:P.mayEnter=true) (k27:(c.lifted==P.liftsFinal)=true) (k28:(P.make==some c.make)=true)
   (k29:(c.kinds==(if c.domain.isEmpty then [] else fn.params.toList.map λt=>match P.underlying t with | some (.int k)=>some k | _=>none))=true) (k30:(c.pinned==c.pinnedBy)=true) (k31:(c.veiled==(fn.params.toList++s.plain.varTypes P++fn.resultTypes.toList).any (P.veiledRec ·))=true) (k32:c.veiledFits P fn.params.toList (fn.params.toList++s.plain.varTypes P++fn.resultTypes.toList)=true):joinedFacts P f fn s c=true:=by
 unfold joinedFacts;exact gi (gi (gi (gi (gi (gi (gi (gi (gi (gi (gi (gi (gi (gi (gi (gi (gi (gi (gi (gi (gi (gi (gi (gi (gi (gi (gi (gi (gi (gi (gi k1 k2) k3) k4) yg) adt) adu) adv) adw) Ha) B7) Hb) Hc) k14) k15) k16) k17) k18) k19) k20) k21) k22) k23) k24) k25) k26) k27) k28) k29) k30) k31) k32
theorem OE:laidOutB Tryz.prog=true:=by kernel_rfl
theorem adx:mapsRowed Tryz.prog=true:=by kernel_rfl
theorem ady:Tryz.prog.stopsHeard=true:=by kernel_rfl
theorem adz:Tryz.prog.mayEnter=true:=by kernel_rfl
theorem adA (c:OpenClaim)(h:c.plainKeys=Rows.matchNoneRow.plainKeys):(c.plainKeys==Tryz.prog.plainKeys)=true:=by
 rw[h];kernel_rfl
theorem adB (c:OpenClaim)(h:c.lifted=Rows.matchNoneRow.lifted):(c.lifted==Tryz.prog.liftsFinal)=true:=by
 rw[h];kernel_rfl
theorem adC (c:OpenClaim)(h:c.make=Rows.matchNoneRow.make):(Tryz.prog.make==some c.make)=true:=by
 rw[h];kernel_rfl
end
end Go.Proofs.YteoldcfapaiobaaGreat
