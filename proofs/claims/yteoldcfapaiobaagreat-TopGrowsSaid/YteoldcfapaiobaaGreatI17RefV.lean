/- The document's players: what can be read of all of them. -/
import Derived.Test.YteoldcfapaiobaaGreatI16HonW
import Derived.Test.YteoldcfapaiobaaGreatI13RefC
import Derived.Test.YteoldcfapaiobaaGreatI14RefG
import Derived.Test.YteoldcfapaiobaaGreatI15ArgC
import Derived.Test.YteoldcfapaiobaaGreatI07PktP
import Derived.Test.YteoldcfapaiobaaGreatRows
import Derived.KernelRfl
import Derived.JoinedOf
namespace Go.Proofs.YteoldcfapaiobaaGreat
open List (length_range nil_append map_cons length_nil mem_range getElem?_range ext_getElem?)
open Go.RowKit
set_option linter.unusedVariables false
set_option linter.unusedSimpArgs false
set_option maxRecDepth 10000
set_option synthInstance.maxSize 4000
set_option synthInstance.maxHeartbeats 400000
section
abbrev oC:=(gh×Pl)×(nf×List ee)
def kC (W:World)(p:Pr)(y:oC):SP:=λh=>bm y.2.2=y.1.2.k.ls∧cp [aa y.1.1.pb 51 (e0 p y.1.1 y.1.2.g),aa y.1.1.core.cb 72 (cZ y.1.2.k y.1.1.core y.2.1),Sl 65 1 (some ⟨y.1.1.core.lb,y.1.1.core.lo,none⟩) y.1.2.k.ls.length y.1.1.core.cL (y.2.2.map aK),ah ba y.2.2,
 aa y.1.1.core.hb 3 (ff y.1.2.k.ps),aa y.1.1.core.ea 3 (eZ y.1.2.k.ps),aa y.1.1.core.wb 313 (rows fh y.1.2.k.ps),aa y.1.1.core.xb 4 (fg y.1.2.k.ps),Sl 100 1 y.2.1.cm y.1.2.k.mr.length y.2.1.cM (c6 y.1.2.k.mr),Sl 102 3 y.2.1.adE y.1.2.k.ev.length y.2.1.cE (rows bV y.1.2.k.ev),aA W p y.1.1.aq y.1.1.cO] h
structure AG (w:World)(p:Pr)(y:oC):Prop where
 pb:Rd w y.1.1.pb 0 (e0 p y.1.1 y.1.2.g)
 cb:Rd w y.1.1.core.cb 0 (cZ y.1.2.k y.1.1.core y.2.1)
 ls:iQ w (some ⟨y.1.1.core.lb,y.1.1.core.lo,none⟩) y.2.2
 eq:bm y.2.2=y.1.2.k.ls
 mr:0<y.1.2.k.mr.length→∃ b o,y.2.1.cm=some ⟨b,o,none⟩∧Rd w b o (c6 y.1.2.k.mr)
section
variable {W w:World}{L:List SP}{n i:Nat}{p:Pr}{xs:List (gh×Pl)}{ys:List oC}{y:oC}{k:Ks}{C:ow}{A:nf}{xl:List ee}
theorem aeF {x:gh×Pl}(I:U W w (dg W p x::L)):∃ z,U W w (kC W p (x,z)::L):=by
 replace I:U W w (bZ W x.1 p x.2::L):=I;obtain⟨A,I⟩:=aZ.open ((bZ.open I).pick (aZ x.1.core x.2.k));obtain⟨xl,b7,I⟩:=bP.open (I.pick (bP x.1.core.lb x.1.core.lo x.1.core.cL x.2.k.ls));refine⟨(A,xl),U.shut (M:=[_,_,_,_,_,_,_,_,_,_,_]) (I.sub (M:=aa x.1.pb 51 (e0 p x.1 x.2.g)::aa x.1.core.cb 72 (cZ x.2.k x.1.core A)::Sl 65 1 (some ⟨x.1.core.lb,x.1.core.lo,none⟩) x.2.k.ls.length x.1.core.cL (xl.map aK)::ah ba xl::aa x.1.core.hb 3 (ff x.2.k.ps)::aa x.1.core.ea 3 (eZ x.2.k.ps)::aa x.1.core.wb 313 (rows fh x.2.k.ps)::aa x.1.core.xb 4 (fg x.2.k.ps)::Sl 100 1 A.cm x.2.k.mr.length A.cM (c6 x.2.k.mr)::Sl 102 3 A.adE x.2.k.ev.length A.cE (rows bV x.2.k.ev)::aA W p x.1.aq x.1.cO::L)) λ_ h=>⟨b7,h⟩⟩
theorem kC.open (I:U W w (kC W p y::L)):bm y.2.2=y.1.2.k.ls∧U W w (aa y.1.1.pb 51 (e0 p y.1.1 y.1.2.g)::aa y.1.1.core.cb 72 (cZ y.1.2.k y.1.1.core y.2.1)::Sl 65 1 (some ⟨y.1.1.core.lb,y.1.1.core.lo,none⟩) y.1.2.k.ls.length y.1.1.core.cL (y.2.2.map aK)::ah ba y.2.2 ::
 aa y.1.1.core.hb 3 (ff y.1.2.k.ps)::aa y.1.1.core.ea 3 (eZ y.1.2.k.ps)::aa y.1.1.core.wb 313 (rows fh y.1.2.k.ps)::aa y.1.1.core.xb 4 (fg y.1.2.k.ps)::Sl 100 1 y.2.1.cm y.1.2.k.mr.length y.2.1.cM (c6 y.1.2.k.mr)::Sl 102 3 y.2.1.adE y.1.2.k.ev.length y.2.1.cE (rows bV y.1.2.k.ev)::aA W p y.1.1.aq y.1.1.cO::L) :=
 ⟨I.tell λ_ h=>h.1,I.open (M:=[_,_,_,_,_,_,_,_,_,_,_]) λ_ h=>h.2⟩
theorem aeG (I:U W w (kC W p y::L)):U W w (dg W p y.1::L):=by
 obtain⟨b7,I⟩:=kC.open I;replace I:=bP.close ((I.pick (ah ba y.2.2)).pick (Sl 65 1 (some ⟨y.1.1.core.lb,y.1.1.core.lo,none⟩) y.1.2.k.ls.length y.1.1.core.cL (y.2.2.map aK))) b7;replace I:=aZ.fold I y.1.1.core y.1.2.k y.2.1;exact bZ.fold I y.1.1 p y.1.2
theorem DX:∀ {xs:List (gh×Pl)} {L:List SP},U W w (ah (dg W p) xs::L)→∃ ys:List oC,ys.map (·.1)=xs∧U W w (ah (kC W p) ys::L)
 | [],_,I=>⟨[],rfl,U.ji I.tail⟩
 | x::xs,L,I=>by
  have h1:U W w (dg W p x::ah (dg W p) xs::L):=U.fA (l:=x::xs) (i:=0) I (by simp);obtain⟨z,h2⟩:=aeF h1;obtain⟨ys,h3,h4⟩:=DX (h2.pick (ah (dg W p) xs));exact⟨(x,z)::ys,by rw[map_cons,h3],U.wQ (h4.pick (kC W p (x,z)))⟩
theorem DY:∀ {ys:List oC} {L:List SP},U W w (ah (kC W p) ys::L)→U W w (ah (dg W p) (ys.map (·.1))::L)
 | [],_,I=>U.ji I.tail
 | y::ys,L,I=>by
  have h1:U W w (kC W p y::ah (kC W p) ys::L):=U.fA (l:=y::ys) (i:=0) I (by simp);have h2:=DY ((aeG h1).pick (ah (kC W p) ys));exact U.wQ (h2.pick (dg W p y.1))
theorem DZ (I:U W w (ah (kC W p) ys::L))(hy:ys[i]?=some y):AG w p y:=by
 obtain⟨hi,h1⟩:=a2.1 hy;replace I:=I.fA hi;rw[h1]at I;obtain⟨h2,I⟩:=kC.open I;refine⟨I.ai (b:=y.1.1.pb),I.ai (b:=y.1.1.core.cb),?_,h2,λh0=>?_⟩
 ·exact U.pA ((I.pick (ah ba y.2.2)).pick (Sl 65 1 (some ⟨y.1.1.core.lb,y.1.1.core.lo,none⟩) y.1.2.k.ls.length y.1.1.core.cL (y.2.2.map aK)))
 ·exact (I.pick (Sl 100 1 y.2.1.cm y.1.2.k.mr.length y.2.1.cM (c6 y.1.2.k.mr))).bU y.2.1.cm h0
theorem D0 (I:U W w L)(hk:WC k)(b7:bm xl=k.ls)(hp:∀ w',U W w' L→Rd w' C.cb 0 (cZ k C A)∧iQ w' (some ⟨C.lb,C.lo,none⟩) xl) :
   Calls Tryz.prog 19 #[pt C.cb] w λr w'=>r=.returned (.int .i64 (aw k))∧U W w' L:=by
 have hn:=hk.n;have fc:=hk.ls;have hR:k.ls.length=xl.length:=by rw[← b7,gr]
 refine EN Tryz.func19 Tryz.ntmps19 rfl rfl λa E=>?_;refine RN 6 E I λa E=>?_;refine SS E (ae E ((hp _ I).1 10 _ rfl)) λa E=>?_;rw[hR]at E;refine CL 0 E I (C4 (xs:=xl) I (by omega) (by omega) (λw' hw=>(hp w' hw).2)) λa w E I=>?_;rw[b7]at E;refine RT 1 E I ?_;exact⟨rfl,I⟩
end
end
section
section
variable {W w:World}{L:List SP}{c i:Nat}{p:Pr}{v:Wd}{B:jP}{D:oB}{t:fU}{cf:Cf}{tb:List UInt8}{g6:Bool}
instance fW.isNil (z:fW):uP z.mul (!z.AA):=⟨by
 cases z with
 | mu M=>exact .inr ⟨⟨_,rfl⟩,rfl⟩
 | pl B=>exact .inl ⟨rfl,rfl⟩⟩
theorem fW.aeH {z:fW}(h:z.AA=true):∃ M,z=.mu M:=by
 cases z with
 | mu M=>exact⟨M,rfl⟩
 | pl B=>cases h
theorem aeI {adL adE iM:Option Addr}{cL cE iN:Nat}{xs:List (fI×Pl)}{es:List kA}{l:List kv}(I:U W w (aa B.mb 107 [.slice adL xs.length cL,pt B.q,.slice adE es.length cE]::Sl 81 1 adL xs.length cL (xs.map cG)::Sl 90 1 adE es.length cE (es.map bB)::ah eH es::L))(hi:i<xs.length)(lI:es[i]?=some (iM,iN,l))(hl:l.length≤1000000000) :
   Calls Tryz.prog 34 #[pt B.mb,.int .i64 i] w λe w'=>∃ ad c',e=.returned (.slice ad l.length c')∧U W w' (Sl 135 1 ad l.length c' (l.map cC)::aa B.mb 107 [.slice adL xs.length cL,pt B.q,.slice adE es.length cE]::Sl 81 1 adL xs.length cL (xs.map cG)::Sl 90 1 adE es.length cE (es.map bB)::ah eH es::L):=by
 obtain⟨ym,pG⟩:=a2.1 lI;refine EN Tryz.func34 Tryz.ntmps34 rfl rfl λa E=>?_;refine CL 6 E I (sV I hi) λa w E I=>?_;refine RN 1 E I λa E=>?_;replace E:=E.aQ 8;refine RN 2 E I λa E=>?_;obtain⟨jd,oE,rfl,gD⟩:=(I.pick (Sl 90 1 adE es.length cE (es.map bB))).bU adE (by omega);have my:=gD i (.slice iM l.length iN) (by rw[bd,lI];rfl);refine RN 6 E I λa E=>?_;refine SS E (ae E (my)) λa E=>?_;replace I:=(I.pick (ah eH es)).fA ym;rw[pG]at I;change U W w (Sl 135 1 iM l.length iN (l.map cC)::_) at I;refine aY 0 E I (PT I hl) λad2 c2 a w E I=>?_;refine RT 1 E I ?_;refine⟨ad2,c2,rfl,?_⟩;have h4:=(I.pick (ah eH (es.eraseIdx i))).pick (Sl 135 1 iM l.length iN (l.map cC));have h5:U W w (ah eH es::_):=U.ye (f:=eH) ym (by rw[pG];exact h4);exact h5.sub
theorem Jm {xs:List (fI×Pl)}{x:fI}{s:Pl}(I:U W w (x.J W p c s::ah (cD W p c) (xs.eraseIdx i)::L))(hx:xs[i]?=some (x,s)):U W w (ah (cD W p c) xs::L):=by
 obtain⟨hi,h1⟩:=a2.1 hx;refine U.ye hi ?_;rw[h1];exact I
set_option maxHeartbeats 2000000 in
theorem aeJ (I:U W w (aN W B p c v::bF W D p v::L))(yn:D.mb=B.mb)(hB:B.Ok p c)(hv:bN p cf c v)(hP:wu B.fz cf tb g6 v.ps.length)(ma:DW W D.nh cf tb)(fH:c0 ⟨cf.bh,cf.order,tb⟩)(kj:9*c+100≤1000000000) :
   Calls Tryz.prog 33 #[pt D.wb] w λe w'=>e=.returned (.bool true)∧U W w' (aN W B p c v::bF W D p v::L):=by
 replace I:=aN.yh I;obtain⟨adL,cL,adE,cE,xs,es,⟨eN,dm,eR⟩,I⟩:=I;replace I:=bF.open (I.pick (bF W D p v));obtain⟨adP,cP,adN,cN,gM,gu,rs,fs,⟨hG,iR,mH⟩,I⟩:=I;rw[yn]at I;obtain⟨ys,mI,ju,I⟩:=cg.open (I.pick (cg 60 adN v.net.length cN v.net));have b7:xs.length=v.ps.length:=by rw[← dm,a8]
 have gD:rs.length=v.ps.length:=by rw[← iR,a8]
 have lJ:ys.length=v.net.length:=by rw[← mI,a8]
 have p8:=hv.net.1;have aet:es.length=v.ps.length:=by rw[← hv.ev,← eR,a8]
 have ag2:fs.length=v.ps.length:=by rw[← hv.ev,← mH,a8]
 have P1:=hv.ev;have x8:=hv.len;replace I:U W w (aa B.mb 107 [.slice adL xs.length cL,pt B.q,.slice adE es.length cE]::Sl 81 1 adL xs.length cL (xs.map cG)::ah (cD W p c) xs::bL B.q (v.net.map cU)::Sl 90 1 adE es.length cE (es.map bB)::ah eH es::aa D.wb 40 [pt B.mb,.slice adP rs.length cP,.slice adN v.net.length cN,.slice gM fs.length gu]::Sl 34 1 adP rs.length cP (rs.map dE)::ah (dg W p) rs::Sl 60 3 adN v.net.length cN (rows ca ys)::ah cd ys::Sl 70 1 gM fs.length gu (fs.map bB)::ah e4 fs::L):=I.sub;refine EN Tryz.func33 Tryz.ntmps33 rfl rfl λa E=>?_;refine aV 4 (λw0 w'=>Rd w' D.wb 0 [pt B.mb,.slice adP rs.length cP,.slice adN v.net.length cN,.slice gM fs.length gu]) [4,5,9,10] [0,1,2,6,7,8,3003,3009,3010,1004,1005,11] E I λa w E I hH=>?_;have hC:=hH.at w (I.ai (b:=D.wb));refine RH 6 E I hH hC λa E=>?_;refine QH E (λw hc=>ae E (hc 0 _ rfl)) hC λa E=>?_;refine QH E (λw hc=>ae E (hc 2 _ rfl)) hC λa E=>?_;refine RH 1 E I hH hC λa E=>?_;refine CL 0 E I (Dw (I.pick (aa B.mb 107 [.slice adL xs.length cL,pt B.q,.slice adE es.length cE]))) λa w E I=>?_;replace hC:=hH.at w (I.ai (b:=D.wb));refine RH 0 E I hH hC λa E=>?_;refine CL 0 E I (Py (I.pick (bL B.q (v.net.map cU)))) λa w E I=>?_;replace hC:=hH.at w (I.ai (b:=D.wb));rw[a8]at E;refine RH 1 E I hH hC λa E=>?_;rw[bu (by simp)]at E;refine RN 4 E I λa E=>?_;refine aL (λμ a w=>∃ (i:Nat),(μ=v.net.length-i∧i≤v.net.length)∧Fr a 150 [(0,pt D.wb),(3,.int .i64 i)]∧U W w (aa B.mb 107 [.slice adL xs.length cL,pt B.q,.slice adE es.length cE]::Sl 81 1 adL xs.length cL (xs.map cG)::ah (cD W p c) xs::bL B.q (v.net.map cU)::Sl 90 1 adE es.length cE (es.map bB)::ah eH es::aa D.wb 40 [pt B.mb,.slice adP rs.length cP,.slice adN v.net.length cN,.slice gM fs.length gu]::Sl 34 1 adP rs.length cP (rs.map dE)::ah (dg W p) rs::Sl 60 3 adN v.net.length cN (rows ca ys)::ah cd ys::Sl 70 1 gM fs.length gu (fs.map bB)::ah e4 fs::L)) (v.net.length) (⟨0,⟨rfl,by omega⟩,E.ab [0,3],I.sub⟩) ?_;clear E I;rintro μ a w ⟨i,⟨rfl,hi⟩,E,I⟩;refine IF 9 E I (λao a E=>?_) λao a E=>?_
 ·
  have aG:i<v.net.length:=by omega
  obtain⟨y,hy,Jn⟩:∃ y,ys[i]?=some y∧v.net[i]?=some y.2.2:=by
   refine⟨_,aD (by omega),?_⟩;rw[← mI,bd,aD (by omega)];rfl
  obtain⟨bE,on,rfl,_⟩:=(I.pick (Sl 60 3 adN v.net.length cN (rows ca ys))).bU adN (by omega);refine CL 6 E I (Dw (I.pick (aa B.mb 107 [.slice adL xs.length cL,pt B.q,.slice adE es.length cE]))) λa w E I=>?_;refine aY 1 E I (I4 (I.pick (bL B.q (v.net.map cU))) Jn) λam jQ a w E I=>?_;refine AL 3 E I λb4 a w E I=>?_;refine SA 0 E I λa w E I=>?_;refine aV 2 (λw0 w'=>(Rd w' b4 0 [.int .i64 y.2.2.1,.int .i64 y.2.2.2.1,.slice am y.2.2.2.2.length jQ]∧Rd w' D.wb 0 [pt B.mb,.slice adP rs.length cP,.slice (some ⟨bE,on,none⟩) v.net.length cN,.slice gM fs.length gu])∧Rd w' bE (on+i*3) (ca y)∧aX w' am y.2.2.2.2.length y.2.2.2.2∧aX w' y.1 y.2.2.2.2.length y.2.2.2.2) [8,10,11,12,21,23,24,25,35,37,38,39,40] [0,1,2,3,5,6,7,9,3004,1008,1010,1011,1012,13,14,15,16,18,19,20,22,3017,1021,1023,1024,1025,26,27,28,29,32,33,34,36,3030,3031,1035,1037,1038,1039,1040,41,42] E I λa w E I hH=>?_;have hC:=hH.at w ⟨⟨I.ai (b:=b4),I.ai (b:=D.wb)⟩,jt ot (I.cQ bE on (by omega)) hy,I.cw am _ rfl rfl,Jf (I.pick (ah cd ys)) hy⟩;refine RH 3 E I hH hC λa E=>?_;replace E:=E.aQ 41;refine RH 5 E I hH hC λa E=>?_;refine QH E (λw hc=>ae E (hc.1.1 0 _ rfl)) hC λa E=>?_;refine RH 0 E I hH hC λa E=>?_;refine bA E (cv E rfl (s:=41)) (ae E (hC.1.2 2 _ rfl)) rfl λa E=>?_;refine RH 2 E I hH hC λa E=>?_;refine bA E (cv E rfl (s:=41)) (ae E (hC.2.1 0 _ rfl)) rfl λa E=>?_;refine RH 3 E I hH hC λa E=>?_;rw[bu (by omega)]at E;refine RH 5 E I hH hC λa E=>?_;refine QH E (λw hc=>ae E (hc.1.1 1 _ rfl)) hC λa E=>?_;refine RH 0 E I hH hC λa E=>?_;refine bA E (cv E rfl (s:=54)) (ae E (hC.1.2 2 _ rfl)) rfl λa E=>?_;refine RH 2 E I hH hC λa E=>?_;refine bA E (cv E rfl (s:=54)) (ae E (hC.2.1 1 _ rfl)) rfl λa E=>?_;refine RH 3 E I hH hC λa E=>?_;rw[bu (by omega)]at E;refine RH 5 E I hH hC λa E=>?_;refine QH E (λw hc=>ae E (hc.1.1 2 _ rfl)) hC λa E=>?_;refine QH E (λw hc=>lQ E bj dF gB (hc.2.2.1)) hC λa E=>?_;refine RH 0 E I hH hC λa E=>?_;refine bA E (cv E rfl (s:=67)) (ae E (hC.1.2 2 _ rfl)) rfl λa E=>?_;refine RH 2 E I hH hC λa E=>?_;refine bA E (cv E rfl (s:=67)) (ae E (hC.2.1 2 _ rfl)) rfl λa E=>?_;refine RH 0 E I hH hC λa E=>?_;refine bA E (cv E rfl (s:=67)) (lQ E bj dF gB (hC.2.2.2)) rfl λa E=>?_;refine RH 0 E I hH hC λa E=>?_;refine QP E (λw=>Md E) λa E=>?_;rw[qS,beq_self_eq_true,Bool.not_true]at E;refine RH 1 E I hH hC λa E=>?_;replace E:=E.aQ 81;refine RN 4 E I λa E=>?_;exact⟨v.net.length-(i+1),by omega,i+1,⟨rfl,by omega⟩,E.ab [0,3],I.sub⟩
 refine RN 3 E I λa E=>?_;refine aL (λμ a w=>∃ (i:Nat),(μ=v.ps.length-i∧i≤v.ps.length)∧Fr a 150 [(0,pt D.wb),(6,.int .i64 i)]∧U W w (aa B.mb 107 [.slice adL xs.length cL,pt B.q,.slice adE es.length cE]::Sl 81 1 adL xs.length cL (xs.map cG)::ah (cD W p c) xs::bL B.q (v.net.map cU)::Sl 90 1 adE es.length cE (es.map bB)::ah eH es::aa D.wb 40 [pt B.mb,.slice adP rs.length cP,.slice adN v.net.length cN,.slice gM fs.length gu]::Sl 34 1 adP rs.length cP (rs.map dE)::ah (dg W p) rs::Sl 60 3 adN v.net.length cN (rows ca ys)::ah cd ys::Sl 70 1 gM fs.length gu (fs.map bB)::ah e4 fs::L)) (v.ps.length) (⟨0,⟨rfl,by omega⟩,E.ab [0,6],I.sub⟩) ?_;clear E I;rintro μ a w ⟨i,⟨rfl,hi⟩,E,I⟩;refine IF 9 E I (λbl a E=>?_) λbl a E=>?_
 ·
  have aG:i<v.ps.length:=by omega
  obtain⟨x,hx,pF⟩:∃ x,xs[i]?=some (x,an v i)∧B.fz[i]?=some x:=I5 eN dm (by omega);obtain⟨_,hE⟩:=a2.1 hx;obtain⟨r,hr⟩:∃ r,rs[i]?=some (r,an v i):=DM iR (by omega);have uJ:(rs.map dE)[i]?=some (pt r.pb):=by rw[bd,hr];rfl
  have l8:r∈D.nh:=by rw[← hG];exact cX.2 ⟨_,bI hr,rfl⟩
  obtain⟨Jo,Gh⟩:=ma r l8;have hxG:=hP.2 x (bI pF);have hM:=x.rk (W:=W) (p:=p) hB.pr hB.sz (hB.gs x (bI pF));obtain⟨hw,df,yg⟩:=hv.pl i aG;have kT:=hB.c;obtain⟨iM,iN,l,lI⟩:∃ iM iN l,es[i]?=some (iM,iN,l):=⟨_,_,_,aD (by omega)⟩;obtain⟨ym,pG⟩:=a2.1 lI;have rj:v.ev.getD i []=l:=by rw[← eR,br,bd,lI];rfl
  obtain⟨AH,AI,pg⟩:∃ AH AI,fs[i]?=some (AH,AI,l):=by
   have h1:(fs.map (·.2.2))[i]?=some l:=by rw[mH,← rj,br,aD (by omega)];rfl
   rw[bd,aD (by omega)]at h1;refine⟨fs[i].1,fs[i].2.1,?_⟩;rw[aD (by omega),← re h1]
  obtain⟨xU,QB⟩:=a2.1 pg;obtain⟨hR,hlo⟩:=hv.kY l (by rw[← rj];exact Ds (by omega));have hV:l.length≤1000000000:=by omega
  obtain⟨bp,op,rfl,_⟩:=(I.pick (Sl 34 1 adP rs.length cP (rs.map dE))).bU adP (by omega);obtain⟨jx,oF,rfl,_⟩:=(I.pick (Sl 70 1 gM fs.length gu (fs.map bB))).bU gM (by omega);refine aV 3 (λw0 w'=>(Rd w' D.wb 0 [pt B.mb,.slice (some ⟨bp,op,none⟩) rs.length cP,.slice adN v.net.length cN,.slice (some ⟨jx,oF,none⟩) fs.length gu]∧Rd w' bp op (rs.map dE))∧Rd w' jx oF (fs.map bB)) [5,9,11,12,21,22,26,28,29] [0,1,2,4,6,7,8,10,3003,3009,3011,3012,1005,1013,14,15,16,17,18,20,23,24,25,27,3019,3026,3028,3029,1021,1022,1030,31,32] E I λa w E I hH=>?_;have hC:=hH.at w ⟨⟨I.ai (b:=D.wb),I.cQ bp op (by omega)⟩,I.cQ jx oF (by omega)⟩;refine RH 8 E I hH hC λa E=>?_;refine QH E (λw hc=>ae E (hc.1.1 0 _ rfl)) hC λa E=>?_;refine QH E (λw hc=>ae E (hc.1.1 1 _ rfl)) hC λa E=>?_;refine RH 1 E I hH hC λa E=>?_;refine QH E (λw hc=>ae E (hc.1.2 i _ uJ)) hC λa E=>?_;refine RH 0 E I hH hC λa E=>?_;refine CL 0 E I (sV ((I.pick (Sl 81 1 adL xs.length cL (xs.map cG))).pick (aa B.mb 107 [.slice adL xs.length cL,pt B.q,.slice adE es.length cE])) (by omega)) λa w E I=>?_;replace hC:=hH.at w ⟨⟨I.ai (b:=D.wb),I.cQ bp op (by omega)⟩,I.cQ jx oF (by omega)⟩;rw[show cG xs[i]=.iface x.z.t (.pointer (some x.z.ad)) from by rw[hE]]at E;replace I:=DO (I.pick (ah (dg W p) rs)) hr;replace I:=DD (I.pick (ah (cD W p c) xs)) hx;refine RH 0 E I hH hC λa E=>?_;refine CL 0 E I (acY hM (by omega) ((I.pick (bZ W r p (an v i))).pick (x.J W p c (an v i))) hw hB.pr hB.sz (by rw[Jo];exact fH) (by rw[Jo,hxG.1]) (by rw[Jo];exact Gh)) λa w E I=>?_;replace hC:=hH.at w ⟨⟨I.ai (b:=D.wb),I.cQ bp op (by omega)⟩,I.cQ jx oF (by omega)⟩;replace I:=Jm ((I.pick (ah (cD W p c) (xs.eraseIdx i))).pick (x.J W p c (an v i))) hx;replace I:=DP ((I.pick (ah (dg W p) (rs.eraseIdx i))).pick (bZ W r p (an v i))) hr;refine RH 2 E I hH hC λa E=>?_;replace E:=E.aQ 106;refine RH 8 E I hH hC λa E=>?_;refine QH E (λw hc=>ae E (hc.1.1 0 _ rfl)) hC λa E=>?_;refine QH E (λw hc=>ae E (hc.1.1 3 _ rfl)) hC λa E=>?_;refine RH 1 E I hH hC λa E=>?_;refine QH E (λw hc=>ae E (hc.2 i (.slice AH l.length AI) (by rw[bd,pg];rfl))) hC λa E=>?_;replace I:=I.sub (M:=aa B.mb 107 [.slice adL xs.length cL,pt B.q,.slice adE es.length cE]::Sl 81 1 adL xs.length cL (xs.map cG)::Sl 90 1 adE es.length cE (es.map bB)::ah eH es::ah (dg W p) rs::ah (cD W p c) xs::bL B.q (v.net.map cU)::aa D.wb 40 [pt B.mb,.slice (some ⟨bp,op,none⟩) rs.length cP,.slice adN v.net.length cN,.slice (some ⟨jx,oF,none⟩) fs.length gu]::Sl 34 1 (some ⟨bp,op,none⟩) rs.length cP (rs.map dE)::Sl 60 3 adN v.net.length cN (rows ca ys)::ah cd ys::Sl 70 1 (some ⟨jx,oF,none⟩) fs.length gu (fs.map bB)::ah e4 fs::L);refine RH 0 E I hH hC λa E=>?_;refine aY 0 E I (aeI I (by omega) lI hV) λl3 eW a w E I=>?_;replace hC:=hH.at w ⟨⟨I.ai (b:=D.wb),I.cQ bp op (by omega)⟩,I.cQ jx oF (by omega)⟩;refine RH 0 E I hH hC λa E=>?_;refine aY 0 E I (aeB I hV hlo) λad2 c2 a w E I=>?_;replace hC:=hH.at w ⟨⟨I.ai (b:=D.wb),I.cQ bp op (by omega)⟩,I.cQ jx oF (by omega)⟩;replace I:=(I.pick (ah e4 fs)).fA xU;rw[QB]at I;change U W w (Sl 102 3 AH l.length AI (rows bV l)::_) at I;refine RH 0 E I hH hC λa E=>?_;refine CL 0 E I (aeC (I.pick (Sl 102 3 ad2 l.length c2 (rows bV l))) hV) λa w E I=>?_;have wg:U W w (ah e4 fs::_):=U.ye (f:=e4) xU (by rw[QB];exact ((I.pick (ah e4 (fs.eraseIdx i))).pick (Sl 102 3 AH l.length AI (rows bV l))));replace I:=wg;clear wg;refine RN 2 E I λa E=>?_;replace E:=E.aQ 123;refine CL 7 E I (I2 ((I.pick (Sl 81 1 adL xs.length cL (xs.map cG))).pick (aa B.mb 107 [.slice adL xs.length cL,pt B.q,.slice adE es.length cE])) (by omega)) λa w E I=>?_;rw[show xs[i].1.z.mul=x.z.mul from by rw[hE]]at E;refine BY 5 E I (λbD a E=>?_) λbD a E=>?_
  ·
   obtain⟨M,QC⟩:∃ M,x.z=.mu M:=fW.aeH (by simpa using bD);have QD:x.J W p c (an v i)=fu W M p x.cf c (an v i):=by unfold fI.J;rw[QC]
   have aeK:fq (an v i).k=x.cf:=by
    have h1:(B.fz.map (·.cf))[i]?=some x.cf:=by rw[bd,pF];rfl
    rw[hP.1,bd,getElem?_range aG]at h1;rw[df];exact re h1
   replace I:=DD (I.pick (ah (cD W p c) xs)) hx;rw[QD]at I;obtain⟨zs,ux,I⟩:=DX (I.pick (ah (dg W p) rs));obtain⟨z,hz,yq⟩:∃ z,zs[i]?=some z∧z.1=(r,an v i):=by
    rw[← ux,bd]at hr;cases h1:zs[i]? with
    | none=>rw[h1]at hr;cases hr
    | some z=>rw[h1]at hr;exact⟨z,rfl,re hr⟩
   rw[show x.z.mul=pt M.mb from by rw[QC];rfl]at E;refine RN 7 E I λa E=>?_;refine bA E (cv E rfl (s:=132)) (ae E ((I.cQ bp op (by omega)) i _ uJ)) rfl λa E=>?_;refine RN 2 E I λa E=>?_;refine bA E (cv E rfl (s:=132)) (ae E (by have h9:=(DZ (I.pick (ah (kC W p) zs)) hz).pb 0 _ rfl;rw[yq]at h9;exact h9)) rfl λa E=>?_;refine RN 2 E I λa E=>?_;refine bA E (cv E rfl (s:=132)) (bT E rU rfl Ty.t28 (by have h9:=((DZ (I.pick (ah (kC W p) zs)) hz).cb).part 0 10;rw[yq]at h9;exact h9)) rfl λa E=>?_;rw[show List.take 10 (List.drop 0 (cZ (r,an v i).2.k (r,an v i).1.core z.2.1))=bS x.cf from by rw[← aeK];rfl]at E;refine CL 0 E I (aeD (I.pick (fu W M p x.cf c (an v i)))) λa w E I=>?_;rw[← QD]at I;have wg:=DY (I.pick (ah (kC W p) zs));rw[ux]at wg;replace I:=Jm ((wg.pick (ah (cD W p c) (xs.eraseIdx i))).pick (x.J W p c (an v i))) hx;refine RN 2 E I λa E=>?_;replace E:=E.aQ 149;refine RN 4 E I λa E=>?_;exact⟨v.ps.length-(i+1),by omega,i+1,⟨rfl,by omega⟩,E.ab [0,6],I.sub⟩
  refine RN 21 E I λa E=>?_;exact⟨v.ps.length-(i+1),by omega,i+1,⟨rfl,by omega⟩,E.ab [0,6],I.sub⟩
 refine RT 2 E I ?_;have h8:=cg.close (n:=v.net.length) (c:=cN) ((I.pick (ah cd ys)).pick (Sl 60 3 adN v.net.length cN (rows ca ys))) mI rfl;rw[← yn]at h8;have h9:U W w (bF W D p v::_):=bF.close (h8.sub (M:=aa D.wb 40 [pt D.mb,.slice adP rs.length cP,.slice adN v.net.length cN,.slice gM fs.length gu]::Sl 34 1 adP rs.length cP (rs.map dE)::ah (dg W p) rs::cg 60 adN v.net.length cN v.net::Sl 70 1 gM fs.length gu (fs.map bB)::ah e4 fs::aa D.mb 107 [.slice adL xs.length cL,pt B.q,.slice adE es.length cE]::Sl 81 1 adL xs.length cL (xs.map cG)::ah (cD W p c) xs::bL B.q (v.net.map cU)::Sl 90 1 adE es.length cE (es.map bB)::ah eH es::L)) hG iR mH;rw[yn]at h9;refine⟨rfl,aN.wk (adL:=adL) (cL:=cL) (adE:=adE) (cE:=cE) (xs:=xs) (es:=es) ?_ eN dm eR⟩;exact h9.sub
end
end
section
section
variable {W w:World}{L:List SP}{c i:Nat}{p:Pr}{v:Wd}{B:jP}{t:fU}{cf:Cf}
def ni:Cf:=⟨2,0,0,0,4,1,0,2,1,5⟩
theorem AJ (I:U W w (aN W B p c v::L))(hB:B.Ok p (c+10))(hv:bN p cf c v)(kj:9*c+100≤1000000000)(hf:t.fn≠7) :
   Calls Tryz.prog 29 #[pt B.mb,.agg (dY t).toArray] w λe w'=>e=.returned (.int .i64 (bx p t v).1)∧U W w' (aN W B p (c+10) (b0 p t v)::L) :=
 (P0 I hB hv kj).mono λe w' ⟨z,h1,h2,_,I⟩=>⟨by rw[h1,h2 hf],by rw[b0,ag hf];exact I⟩
theorem QE (hf:t.fn<1∨8<t.fn):bx p t v=(1,v):=by rw[bx,aj hf]
set_option maxHeartbeats 2000000 in
theorem aeL (I:U W w L):Calls Tryz.prog 26 #[] w λe w'=>e=.returned (.bool true)∧U W w' L:=by
 have uF:eY ni:=by decide
 have gj:ox (dH ni 0) bn []:=⟨uF,rz,by decide⟩;refine EN Tryz.func26 Tryz.ntmps26 rfl rfl λa E=>?_;refine bg 4 E I (Pf I) λadP a w E I=>?_;refine bg 0 E I (Qg (cf:=ni) (tb:=[]) (adT:=none) (cT:=0) gj I rfl (by decide) (by decide) (by decide) (λw' h=>aX.nil)) λB a w E ⟨hP,I⟩=>?_;refine RN 5 E I λa E=>?_;have fH:∀ x∈B.fz,c0 x.z.gs:=λx hx=>by rw[(hP.2 x hx).1];decide
 have L0:Lv bn ni (λ_=>0) (fJ bn ni ni.n.toNat):=Lv.new uF;have yr:(fJ bn ni ni.n.toNat).ps.length=2:=s0;have vj:(fJ bn ni ni.n.toNat).net=[]:=rfl;have uh:∀ x y,x<2→y<2→bo (fJ bn ni ni.n.toNat) x y=0:=λx y hx hy=>AD uF hx hy;have D1:=Jg (p:=bn) uF;generalize fJ bn ni ni.n.toNat=v0 at I L0 yr vj uh D1;have X2:ni.bt.toNat=4:=rfl;obtain⟨QF,e1,xC,k1,z1⟩:=L0.al (i:=0) (by omega) 5 0;have k00:=uh 0 0 (by omega) (by omega);replace z1:=z1 (by omega);have o1:=D1.go (s:=⟨1,(0:Nat),5,0⟩);obtain⟨QG,e2,tR,k2,z2⟩:=QF.al (i:=1) (by omega) 6 0;have D2:=uh 1 1 (by omega) (by omega);have QI:=k1 1 1;rw[ag (by omega)]at QI;replace z2:=z2 (by omega);have qT:=o1.go (s:=⟨1,(1:Nat),6,0⟩);obtain⟨QJ,e3,QK,k3,QL,z3⟩:=QG.tick (i:=0) (by decide) (by omega) (by rw[e2,e1,vj,tR,xC,yr];decide) 0 0;have Jp:=qT.go (s:=⟨2,(0:Nat),0,0⟩);have t3:rD (b0 bn ⟨1,(1:Nat),6,0⟩ (b0 bn ⟨1,(0:Nat),5,0⟩ v0)) 0=[(0,1,aT (dW (an (b0 bn ⟨1,(1:Nat),6,0⟩ (b0 bn ⟨1,(0:Nat),5,0⟩ v0)) 0).k 1))]:=by
  rw[rD,tR,xC,yr];rfl
 rw[e2,e1,vj,t3]at e3;obtain⟨L4,ia,QM,lB,z4,_⟩:=QJ.send e3 0 0;have yt:=Jp.go (s:=⟨3,0,0,0⟩);have h5:qA (0,1,aT (dW (an (b0 bn ⟨1,(1:Nat),6,0⟩ (b0 bn ⟨1,(0:Nat),5,0⟩ v0)) 0).k 1))=1:=by
  rw[QL _ (by rw[t3];exact iq),k2 0 0,ag (by omega),k1 0 0,aj (by omega),k00]
 have f4:aw (an (b0 bn ⟨3,0,0,0⟩ (b0 bn ⟨2,(0:Nat),0,0⟩ (b0 bn ⟨1,(1:Nat),6,0⟩ (b0 bn ⟨1,(0:Nat),5,0⟩ v0)))) 1).k=1:=by
  have tE:=lB 1 0;rw[aj ⟨rfl,rfl⟩,k3,k2,ag (by omega),k1,ag (by omega),uh 1 0 (by omega) (by omega),h5]at tE;have q1:=lB 1 1;rw[ag (by show ¬ ((1:Nat)=1∧(1:Nat)=0);omega),k3,k2,aj (by omega),QI]at q1;refine L4.front (j:=0) (by omega) (λj hj=>?_) (by omega) (by rw[tE];rfl);have:j=0∨j=1:=by omega
  rcases this with rfl | rfl
  ·rw[tE];decide
  ·rw[q1];omega
 clear uh k1 k2 k3 lB t3 h5 QL;refine RN 2 E I λa E=>?_;obtain⟨adL,cL,adE,cE,xs,es,⟨eN,dm,eR⟩,I⟩:=aN.yh I;have b7:xs.length=2:=by rw[← yr,← dm,a8]
 have K4:xs[1].1.z.AA=true:=(hP.2 _ (by rw[← eN];exact cX.2 ⟨xs[1],jj _,rfl⟩)).2;refine RN 3 E I λa E=>?_;replace E:=E.aQ 17;refine RN 4 E I λa E=>?_;replace E:=E.aQ 21;refine CL 1 E I (sV (i:=0) ((I.pick (Sl 81 1 adL xs.length cL (xs.map cG))).pick (aa B.mb 107 [.slice adL xs.length cL,pt B.q,.slice adE es.length cE])) (by omega)) λa w E I=>?_;refine RN 3 E I λa E=>?_;replace E:=E.aQ 26;refine CL 1 E I (I2 (i:=1) ((I.pick (Sl 81 1 adL xs.length cL (xs.map cG))).pick (aa B.mb 107 [.slice adL xs.length cL,pt B.q,.slice adE es.length cE])) (by omega)) λa w E I=>?_;refine RN 1 E I λa E=>?_;rw[K4,Bool.not_true]at E;refine RN 2 E I λa E=>?_;replace E:=E.aQ 31;refine CL 1 E I (Dw (I.pick (aa B.mb 107 [.slice adL xs.length cL,pt B.q,.slice adE es.length cE]))) λa w E I=>?_;refine RN 2 E I λa E=>?_;replace E:=E.aQ 35;refine RN 2 E I λa E=>?_;replace I:=aN.wk (I.sub (M:=aa B.mb 107 [.slice adL xs.length cL,pt B.q,.slice adE es.length cE]::Sl 81 1 adL xs.length cL (xs.map cG)::ah (cD W bn 0) xs::bL B.q (v0.net.map cU)::Sl 90 1 adE es.length cE (es.map bB)::ah eH es::L)) eN dm eR;refine CL 2 E I (AJ (t:=⟨1,(0:Nat),5,0⟩) I ⟨rz,by decide,fH,by decide⟩ D1 (by decide) (by decide)) λa w E I=>?_;rw[z1]at E;refine CL 4 E I (AJ (t:=⟨1,(1:Nat),6,0⟩) I ⟨rz,by decide,fH,by decide⟩ (o1.more (by decide)) (by decide) (by decide)) λa w E I=>?_;rw[z2]at E;refine CL 4 E I (AJ (t:=⟨2,(0:Nat),0,0⟩) I ⟨rz,by decide,fH,by decide⟩ (qT.more (by decide)) (by decide) (by decide)) λa w E I=>?_;rw[z3]at E;refine CL 4 E I (AJ (t:=⟨3,0,0,0⟩) I ⟨rz,by decide,fH,by decide⟩ (Jp.more (by decide)) (by decide) (by decide)) λa w E I=>?_;rw[z4]at E;have n5:=QM.trans (QK.trans (tR.trans (xC.trans yr)));clear D1 o1 qT Jp L0 QF QG QJ z1 z2 z3 z4 e1 e2 e3 yr xC tR QK QM;generalize b0 bn ⟨3,0,0,0⟩ (b0 bn ⟨2,(0:Nat),0,0⟩ (b0 bn ⟨1,(1:Nat),6,0⟩ (b0 bn ⟨1,(0:Nat),5,0⟩ v0)))=v at I yt L4 f4 ia n5;refine RN 2 E I λa E=>?_;obtain⟨adL,cL,adE,cE,xs,es,⟨eN,dm,eR⟩,I⟩:=aN.yh I;have b7:xs.length=2:=by rw[← n5,← dm,a8]
 obtain⟨x,hx,pF⟩:∃ x,xs[1]?=some (x,an v 1)∧B.fz[1]?=some x:=I5 eN dm (by omega);obtain⟨_,hE⟩:=a2.1 hx;have hM:=x.rk (W:=W) (p:=bn) rz (by decide) (fH x (bI pF));have hw:=(yt.pl 1 (by omega)).1;refine CL 1 E I (sV (i:=1) ((I.pick (Sl 81 1 adL xs.length cL (xs.map cG))).pick (aa B.mb 107 [.slice adL xs.length cL,pt B.q,.slice adE es.length cE])) (by omega)) λa w E I=>?_;rw[show cG xs[1]=.iface x.z.t (.pointer (some x.z.ad)) from by rw[hE]]at E;replace I:=DD (I.pick (ah (cD W bn 40) xs)) hx;refine RN 0 E I λa E=>?_;refine jU E rfl hM.Dm hM.Dn rfl (hM.Dp _ _ 40 (an v 1) (by decide) hw (I.pick (x.J W bn 40 (an v 1)))) (by rfl) ?_;clear E I;rintro e w ⟨l3,eW,rfl,I⟩;refine⟨_,rfl,λa E=>?_⟩;refine RN 5 E I λa E=>?_;rw[show (l7 (an v 1)).2=1 from f4]at E;replace I:=Jm ((I.pick (ah (cD W bn 40) (xs.eraseIdx 1))).pick (x.J W bn 40 (an v 1))) hx;replace I:=aN.wk (I.sub (M:=aa B.mb 107 [.slice adL xs.length cL,pt B.q,.slice adE es.length cE]::Sl 81 1 adL xs.length cL (xs.map cG)::ah (cD W bn 40) xs::bL B.q (v.net.map cU)::Sl 90 1 adE es.length cE (es.map bB)::ah eH es::L)) eN dm eR;refine RN 4 E I λa E=>?_;replace E:=E.ek 56;refine RN 4 E I λa E=>?_;replace E:=E.ek 60;refine RN 4 E I λa E=>?_;replace E:=E.ek 64;refine RN 4 E I λa E=>?_;replace E:=E.ek 68;refine RN 4 E I λa E=>?_;replace E:=E.ek 72;refine RN 1 E I λa E=>?_;obtain⟨adL,cL,adE,cE,xs,es,⟨eN,dm,eR⟩,I⟩:=aN.yh I;refine CL 0 E I (Dw (I.pick (aa B.mb 107 [.slice adL xs.length cL,pt B.q,.slice adE es.length cE]))) λa w E I=>?_;refine CL 0 E I (Py (I.pick (bL B.q (v.net.map cU)))) λa w E I=>?_;rw[a8,ia]at E;replace I:=aN.wk (I.sub (M:=aa B.mb 107 [.slice adL xs.length cL,pt B.q,.slice adE es.length cE]::Sl 81 1 adL xs.length cL (xs.map cG)::ah (cD W bn 40) xs::bL B.q (v.net.map cU)::Sl 90 1 adE es.length cE (es.map bB)::ah eH es::L)) eN dm eR;refine RN 3 E I λa E=>?_;replace E:=E.ek 78;refine CL 2 E I (AJ (t:=⟨0,0,0,0⟩) I ⟨rz,by decide,fH,by decide⟩ (yt.more (by decide)) (by decide) (by decide)) λa w E I=>?_;rw[QE (.inl (by decide))]at E;rw[b0,ag (by decide),QE (.inl (by decide)),L4.still]at I;refine RN 3 E I λa E=>?_;replace E:=E.ek 84;refine aY 1 E I (aes (i:=0) I (by omega) yt.ev (by rw[L4.ev _ (Ds (d:=[]) (by rw[yt.ev];omega))];decide)) λad2 c2 a w E I=>?_;rw[L4.ev _ (Ds (d:=[]) (by rw[yt.ev];omega))]at E;refine RT 4 E I ?_;exact⟨rfl,I.sub⟩
end
end
section
structure yu (W:World)(p:Pr)(B:jP)(D:oB)(cf:Cf)(tb:List UInt8)(g6:Bool):Prop where
 mb:D.mb=B.mb
 fz:wu B.fz cf tb g6 cf.n.toNat
 nh:DW W D.nh cf tb
 gs:c0 ⟨cf.bh,cf.order,tb⟩
 pr:dp p
 sz:p.title.size≤1000000000
section
variable {W w:World}{L:List SP}{c:Nat}{p:Pr}{v:Wd}{B:jP}{D:oB}{t:fU}{cf:Cf}{tb:List UInt8}{g6:Bool}
theorem wu.gs {fz:List fI}{n:Nat}(h:wu fz cf tb g6 n)(hg:c0 ⟨cf.bh,cf.order,tb⟩):∀ x∈fz,c0 x.z.gs:=λx hx=>by rw[(h.2 x hx).1];exact hg
theorem yu.ok (h:yu W p B D cf tb g6)(hc:c≤1000000):B.Ok p c:=⟨h.pr,h.sz,h.fz.gs h.gs,hc⟩
theorem aeM (I:U W w (aN W B p c v::bF W D p v::L))(kB:yu W p B D cf tb g6)(hv:bN p cf c v)(hc:c≤1000000) :
   Calls Tryz.prog 33 #[pt D.wb] w λe w'=>e=.returned (.bool true)∧U W w' (aN W B p c v::bF W D p v::L) :=
 aeJ I kB.mb (kB.ok hc) hv (by rw[hv.n];exact kB.fz) kB.nh kB.gs (by omega)
theorem aeN (I:U W w (aN W B p c v::bF W D p v::L))(kB:yu W p B D cf tb g6)(hv:bN p cf c v)(DT:qB v)(hc:c≤900000) :
   Calls Tryz.prog 32 #[pt D.wb,.agg (dY t).toArray] w λe w'=>e=.returned (.bool true)∧U W w' (aN W B p (c+10) (b0 p t v)::bF W D p (b0 p t v)::L) :=
 aex I kB.mb (kB.ok (by omega)) hv DT (by omega) λw u hu yv I=>aeM I kB hu (by omega)
structure Wc (p:Pr)(cf:Cf)(c:Nat)(v:Wd):Prop where
 ok:bN p cf c v
 calm:qB v
theorem Wc.go (h:Wc p cf c v):Wc p cf (c+10) (b0 p t v):=⟨h.ok.go.more (by omega),aew h.calm⟩
theorem Wc.new (h:eY cf):Wc p cf 0 (fJ p cf cf.n.toNat):=⟨Jg h,Qv h⟩
end
end
section
open Go.RowKit Go.ChangeShapes Go.WideShapes Go.ChangeAt
set_option linter.constructorNameAsVariable false
set_option maxRecDepth 100000
section
variable {W W' w:World}{L:List SP}
theorem aeO {L:List SP}(hb:Below W.heap.size W W')(I:U W' w L):Below W.heap.size W w:=hb.trans (I.below.mono hb.size)
end
end
section
structure TK where
 tb:Nat
 n:Nat
 B:jP
 D:oB
abbrev s3 (K:TK):List Value:=[pt K.D.wb,.int .i64 K.n,.bool true]
def TS (W:World)(K:TK)(p:Pr)(c:Nat)(v:Wd):SP:=λh=>cp [aa K.tb 33 (s3 K),aN W K.B p c v,bF W K.D p v] h
abbrev Jq (n:Nat):Cf:=⟨n,0,77,2,8,2,1,3,2,7⟩
section
variable {W w:World}{L:List SP}{c n:Nat}{p:Pr}{v:Wd}{K:TK}{t:fU}{cf:Cf}{tb:List UInt8}{g6:Bool}
theorem TS.open (I:U W w (TS W K p c v::L)):U W w (aa K.tb 33 (s3 K)::aN W K.B p c v::bF W K.D p v::L):=I.open (M:=[_,_,_]) λ_ h=>h
theorem TS.close (I:U W w (aa K.tb 33 (s3 K)::aN W K.B p c v::bF W K.D p v::L)):U W w (TS W K p c v::L):=U.shut (M:=[_,_,_]) I λ_ h=>h
structure QN (w:World)(K:TK)(q4 aeP rE:Nat)(adP adN adE:Option Addr)(cP cN cE:Nat):Prop where
 t:Rd w K.tb 0 (s3 K)
 d:Rd w K.D.wb 0 [pt K.D.mb,.slice adP q4 cP,.slice adN aeP cN,.slice adE rE cE]
theorem TS.rd (I:U W w (TS W K p c v::L)):∃ (q4 rE:Nat) (adP adN adE:Option Addr) (cP cN cE:Nat),QN w K q4 v.net.length rE adP adN adE cP cN cE:=by
 replace I:=TS.open I;have h1:=I.ai (b:=K.tb);obtain⟨adP,cP,adN,cN,adE,cE,xs,es,_,I⟩:=bF.open (I.pick (bF W K.D p v));exact⟨_,_,adP,adN,adE,cP,cN,cE,h1,I.ai (b:=K.D.wb)⟩
theorem aeQ (I:U W w L):Calls Tryz.prog 39 #[] w λe w'=>e=.returned (.bool true)∧U W w' L:=by
 refine EN Tryz.func39 Tryz.ntmps39 rfl rfl λa E=>?_;refine CL 3 E I (aeL I) λa w E I=>?_;refine RT 1 E I ?_;exact⟨rfl,I⟩
theorem aeR (I:U W w L):Calls Tryz.prog 13 #[] w λe w'=>e=.returned (.bool true)∧U W w' L:=by
 refine EN Tryz.func13 Tryz.ntmps13 rfl rfl λa E=>?_;refine CL 3 E I (aeQ I) λa w E I=>?_;refine RT 1 E I ?_;exact⟨rfl,I⟩
theorem aeS {x L:Int}(h:0<L):-L<x.tmod L∧x.tmod L<L:=by
 have h1:=Int.natAbs_tmod x L;have h2:=Nat.mod_lt x.natAbs (show 0<L.natAbs by omega);omega
theorem D3 (I:U W w L){x:Int}{k:Nat}(hk:0<k)(ch:k≤1000):Calls Tryz.prog 14 #[.int .i64 x,.int .i64 k] w λe w'=>∃ y:Nat,e=.returned (.int .i64 y)∧y<k∧U W w' L:=by
 have hb:=aeS (x:=x) (L:=k) (by omega);refine EN Tryz.func14 Tryz.ntmps14 rfl rfl λa E=>?_;refine IF 11 E I (λak a E=>?_) λak a E=>?_
 ·
  refine RT 6 E I ?_;exact⟨(x.tmod k).natAbs,by rw[gy (by omega) (by omega),show (((x.tmod k).natAbs:Nat):Int)=0-x.tmod k from by omega],by omega,I⟩
 refine RT 3 E I ?_;exact⟨(x.tmod k).natAbs,by rw[show (((x.tmod k).natAbs:Nat):Int)=x.tmod k from by omega],by omega,I⟩
theorem aeT (I:U W w L):Calls Tryz.prog 16 #[.int .i64 n] w λe w'=>e=.returned (.agg (bS (Jq n)).toArray)∧U W w' L:=by
 refine EN Tryz.func16 Tryz.ntmps16 rfl rfl λa E=>?_;refine AL 1 E I λb2 a w E I=>?_;refine SA 3 E I λa w E I=>?_;refine RT 0 E I ?_;exact⟨rfl,I.sub⟩
theorem yw (I:U W w (TS W K p c v::L))(kB:yu W p K.B K.D cf tb g6)(hc:Wc p cf c v)(kT:c≤900000):Calls Tryz.prog 21 #[pt K.tb,.agg (dY t).toArray] w λe w'=>e=.returned (.tuple #[])∧U W w' (TS W K p (c+10) (b0 p t v)::L):=by
 replace I:=TS.open I;refine EN Tryz.func21 Tryz.ntmps21 rfl rfl λa E=>?_;refine BX 1 E I λb3 a w E I=>?_;change U W w (aa b3 58 (dY t)::_) at I;refine RN 5 E I λa E=>?_;replace E:=E.ek 7;refine RN 1 E I λa E=>?_;obtain⟨adP,cP,adN,cN,adE,cE,xs,es,hx,_⟩:=bF.open (I.pick (bF W K.D p v));refine aV 0 (λw0 w'=>Rd w' K.tb 0 (s3 K)∧Rd w' b3 0 (dY t)) [5] [0,1,2,3,3004,1005,1006,7,8,1009] E I λa w E I hH=>?_;have hC:=hH.at w ⟨I.ai (b:=K.tb),I.ai (b:=b3)⟩;refine RH 4 E I hH hC λa E=>?_;refine QH E (λw hc=>ae E (hc.1 0 _ rfl)) hC λa E=>?_;refine RH 0 E I hH hC λa E=>?_;refine SS E (bT E ER rfl Ty.t58 (hC.2)) λa E=>?_;refine RH 0 E I hH hC λa E=>?_;refine CL 0 E I (aeN ((I.pick (bF W K.D p v)).pick (aN W K.B p c v)) kB hc.ok hc.calm kT) λa w E I=>?_;refine ST 2 E I (λa w E I=>?_);refine RT 0 E I ?_;exact⟨rfl,TS.close I.sub⟩
set_option maxHeartbeats 1000000 in
theorem aeU (I:U W w L)(gj:ox (dH cf 0) bn [])(hn:cf.n=n):Calls Tryz.prog 15 #[.agg (bS cf).toArray,.bool g6] w λe w'=>∃ (W2:World) (K:TK),e=.returned (pt K.tb)∧(K.n=n∧Below W.heap.size W W2∧yu W2 bn K.B K.D cf [] g6∧Wc bn (dH cf 0) 0 (fJ bn cf n))∧U W2 w' (TS W2 K bn 0 (fJ bn cf n)::[]):=by
 have uF:=gj.1;have oe:cf.n.toNat=n:=by omega
 refine EN Tryz.func15 Tryz.ntmps15 rfl rfl λa E=>?_;refine BX 1 E I λb2 a w E I=>?_;change U W w (aa b2 28 (bS cf)::_) at I;refine aV 2 (λw0 w'=>Rd w' b2 0 (bS cf)) [1] [2,3000,1001,1003,4] E I λa w E I hH=>?_;have hC:=hH.at w (I.ai (b:=b2));refine RH 1 E I hH hC λa E=>?_;refine QH E (λw hc=>bT E rU rfl Ty.t28 (hc)) hC λa E=>?_;refine RH 0 E I hH hC λa E=>?_;refine bg 0 E I (Pf I) λadP a w E I=>?_;replace hC:=hH.at w (I.ai (b:=b2));have p7:Rd w b2 0 (bS cf):=I.ai (b:=b2);have vN:b2<w.heap.size:=Rd.lt p7;have AF:AE w bn adP 12:=U.roW (I.pick (aA W bn adP 12));have tQ:=I.below;obtain⟨W2,QO⟩:∃ W2,W2=w:=⟨_,rfl⟩;replace I:U W2 w []:=by rw[QO];exact U.start w
 rw[← QO]at p7 vN AF tQ;have da:∀ w' L,U W2 w' L→Rd w' b2 0 (bS cf):=λw' L I j v hj=>(I.below.cell vN).trans (p7 j v hj);refine RH 0 E I hH hC λa E=>?_;refine aY 0 E I (aeE (cf:=cf) (tb:=[]) (adT:=none) (cT:=0) gj I AF rfl rz (by decide) (by decide) (by decide) (λw' h=>aX.nil)) λB D a w E ⟨hN,I⟩=>?_;refine RN 1 E I λa E=>?_;refine RN 3 E I λa E=>?_;refine SS E (ae E (da _ _ I 0 _ rfl)) λa E=>?_;rw[hn]at E;refine BX 3 E I λfT a w E I=>?_;refine RT 1 E I ?_;rw[oe]at I hN;refine⟨W2,⟨fT,n,B,D⟩,rfl,⟨rfl,tQ,⟨hN.1,by rw[oe];exact hN.2.1,hN.2.2,gj.2.2,rz,by decide⟩,?_⟩,?_⟩
 ·have h1:=Wc.new (p:=bn) uF;rw[show (dH cf 0).n.toNat=n from oe]at h1;exact h1
 ·exact TS.close (K:=⟨fT,n,B,D⟩) I
end
end
section
section
variable {W w:World}{L:List SP}{n c i f:Nat}{p:Pr}{cf:Cf}{v:Wd}{D:oB}
theorem Jr {w:World}{y:oC}{p:Pr}(h:AG w p y)(hf:f<y.1.2.k.mr.length):∃ b o,y.2.1.cm=some ⟨b,o,none⟩∧w.cell? ⟨b,o+f,none⟩=some (.int .u32 (y.1.2.k.mr.getD f 0:Nat)):=by
 obtain⟨b,o,h1,h2⟩:=h.mr (by omega);refine⟨b,o,h1,h2 f _ ?_⟩;rw[c6,bd,aD hf,br,aD hf];rfl
theorem QQ {w:World}{y:oC}{p:Pr}{b o:Nat}(h:AG w p y)(he:y.2.1.cm=some ⟨b,o,none⟩)(hf:f<y.1.2.k.mr.length):w.cell? ⟨b,o+f,none⟩=some (.int .u32 (y.1.2.k.mr.getD f 0:Nat)):=by
 obtain⟨b',o',h1,h2⟩:=Jr h hf;rw[he]at h1;cases h1;exact h2
theorem QR {P:Program}{ops:Array Oper}{Q:Exit→Act→World→Prop}{C C':World→Prop}{bk:List Nat}(k:∀ w,C' w→C w):∀ (fuel:Nat) (bG:Array Bool) (a:Act) (w:World),ib P ops Q C' bk fuel bG a w→ib P ops Q C bk fuel bG a w
 | 0,_,_,_,h=>h
 | fuel+1,_,_,_,h=>⟨h.1,λi hi=>wpOp_mono (λa' w' h'=>⟨λhn=>k _ (h'.1 hn),QR k fuel _ a' w' h'.2⟩) (h.2 i hi)⟩
theorem QS {P:Program}{ops:Array Oper}{Q:Exit→Act→World→Prop}{C:World→Prop}{bk od:List Nat}{fuel m:Nat}{a:Act}{w:World}{b:Bool}(C':World→Prop)(k:∀ w,C' w→C w)(hC:C w)(h:gm P ops Q C' bk od fuel m a w):CN b C (gm P ops Q C bk od fuel m) a w :=
 ⟨λ_=>hC,QR k _ _ _ _ h⟩
set_option maxHeartbeats 2000000 in
theorem aeV (I:U W w (bF W D p v::L))(hv:bN p cf c v)(hA:∀ i j f,i<v.ps.length→j<v.ps.length→f<aw (an v i).k→f<aw (an v j).k→bK (an v i).k.ls f=bK (an v j).k.ls f∧(an v i).k.mr.getD f 0=(an v j).k.mr.getD f 0)
   (yj:∀ l∈v.ev,∀ e∈l,e.1≠3) (kj:9*c+100≤1000000000):Calls Tryz.prog 18 #[pt D.wb] w λe w'=>e=.returned (.bool true)∧U W w' (bF W D p v::L):=by
 replace I:=bF.open I;obtain⟨adP,cP,adN,cN,gM,gu,rs,fs,⟨hG,iR,mH⟩,I⟩:=I;obtain⟨ys,lJ,I⟩:=DX (I.pick (ah (dg W p) rs));have gD:rs.length=v.ps.length:=by rw[← iR,a8]
 have ju:ys.length=v.ps.length:=by rw[← gD,← lJ,a8]
 have eP:fs.length=v.ps.length:=by rw[← hv.ev,← mH,a8]
 have hn:=hv.len;have uG:∀ i,i<v.ps.length→∃ y,ys[i]?=some y∧y.1.2=an v i∧(rs.map dE)[i]?=some (pt y.1.1.pb):=λi hi=>by
  refine⟨ys[i],aD (by omega),?_,?_⟩
  ·rw[an,← iR,← lJ,List.map_map,br,bd,aD (by omega)];rfl
  ·rw[← lJ,List.map_map,bd,aD (by omega)];rfl
 have cr:∀ w',U W w' (ah (kC W p) ys::aa D.wb 40 [pt D.mb,.slice adP rs.length cP,.slice adN v.net.length cN,.slice gM fs.length gu]::Sl 34 1 adP rs.length cP (rs.map dE)::cg 60 adN v.net.length cN v.net::Sl 70 1 gM fs.length gu (fs.map bB)::ah e4 fs::L)→U W w' (bF W D p v::L):=λw' h=>by
  have h1:=DY h;rw[lJ]at h1;exact bF.close (h1.sub (M:=aa D.wb 40 [pt D.mb,.slice adP rs.length cP,.slice adN v.net.length cN,.slice gM fs.length gu]::Sl 34 1 adP rs.length cP (rs.map dE)::ah (dg W p) rs::cg 60 adN v.net.length cN v.net::Sl 70 1 gM fs.length gu (fs.map bB)::ah e4 fs::L)) hG iR mH
 replace I:=I.sub (M:=ah (kC W p) ys::aa D.wb 40 [pt D.mb,.slice adP rs.length cP,.slice adN v.net.length cN,.slice gM fs.length gu]::Sl 34 1 adP rs.length cP (rs.map dE)::cg 60 adN v.net.length cN v.net::Sl 70 1 gM fs.length gu (fs.map bB)::ah e4 fs::L);generalize hM:(ah (kC W p) ys::aa D.wb 40 [pt D.mb,.slice adP rs.length cP,.slice adN v.net.length cN,.slice gM fs.length gu]::Sl 34 1 adP rs.length cP (rs.map dE)::cg 60 adN v.net.length cN v.net::Sl 70 1 gM fs.length gu (fs.map bB)::ah e4 fs::L)=M at I cr;obtain⟨bp,op,EO⟩:∃ bp op,adP=some ⟨bp,op,none⟩:=by
  rw[← hM]at I;obtain⟨bp,op,h,_⟩:=(I.pick (Sl 34 1 adP rs.length cP (rs.map dE))).bU adP (by omega);exact⟨bp,op,h⟩
 obtain⟨jx,oF,hbF⟩:∃ jx oF,gM=some ⟨jx,oF,none⟩:=by
  rw[← hM]at I;obtain⟨bp,op,h,_⟩:=(I.pick (Sl 70 1 gM fs.length gu (fs.map bB))).bU gM (by omega);exact⟨bp,op,h⟩
 have QT:=I;clear I;subst EO hbF;have s4:∀ w',U W w' M→Rd w' D.wb 0 [pt D.mb,.slice (some ⟨bp,op,none⟩) rs.length cP,.slice adN v.net.length cN,.slice (some ⟨jx,oF,none⟩) fs.length gu]:=λw' h=>by
  rw[← hM]at h;exact h.ai (b:=D.wb)
 have yx:∀ w',U W w' M→Rd w' bp op (rs.map dE):=λw' h=>by
  rw[← hM]at h;exact h.cQ bp op (by omega)
 have QU:∀ w',U W w' M→Rd w' jx oF (fs.map bB):=λw' h=>by
  rw[← hM]at h;exact h.cQ jx oF (by omega)
 have rY:∀ {i:Nat} {y:oC} {w':World},U W w' M→ys[i]?=some y→AG w' p y:=λh hy=>by
  rw[← hM]at h;exact DZ h hy
 have aeW:∀ {i:Nat} {x:kA} {w':World},U W w' M→fs[i]?=some x→0<x.2.2.length→∃ b o,x.1=some ⟨b,o,none⟩∧Rd w' b o (rows bV x.2.2):=λ{i x w'} h hx h0=>by
  rw[← hM]at h;obtain⟨hi,h1⟩:=a2.1 hx;have h2:=(h.pick (ah e4 fs)).fA hi;rw[h1]at h2;replace h2:U W w' (Sl 102 3 x.1 x.2.2.length x.2.1 (rows bV x.2.2)::_):=h2;exact h2.bU x.1 h0
 clear hM;have I:=QT;clear QT;refine EN Tryz.func18 Tryz.ntmps18 rfl rfl λa E=>?_;refine RN 5 E I λa E=>?_;refine aL (λμ a w=>∃ (i:Nat),(μ=v.ps.length-i∧i≤v.ps.length)∧Fr a 142 [(0,pt D.wb),(3,.int .i64 i)]∧U W w M) (v.ps.length) (⟨0,⟨rfl,by omega⟩,E.ab [0,3],I⟩) ?_;clear E I;rintro μ a w ⟨i,⟨rfl,hi⟩,E,I⟩;refine RN 6 E I λa E=>?_;refine SS E (ae E ((s4 _ I) 1 _ rfl)) λa E=>?_;refine IF 2 E I (λak a E=>?_) λak a E=>?_
 ·
  have aG:i<v.ps.length:=by omega
  obtain⟨y,hy,nT,Jt⟩:=uG i aG;have wz:cy p y.1.2:=by rw[nT];exact (hv.pl i aG).1
  have uN:bm y.2.2=y.1.2.k.ls:=(rY I hy).eq;refine RN 4 E I λa E=>?_;refine aL (λμ a w=>∃ (k:Nat),(μ=i-k∧k≤i)∧Fr a 142 [(0,pt D.wb),(3,.int .i64 i),(4,.int .i64 k)]∧U W w M) (i) (⟨0,⟨rfl,by omega⟩,E.ab [0,3,4],I⟩) ?_;clear E I;rintro μ a w ⟨k,⟨rfl,hk⟩,E,I⟩;refine IF 5 E I (λao a E=>?_) λao a E=>?_
  ·
   have dR:k<v.ps.length:=by omega
   obtain⟨z,hz,ra,yq⟩:=uG k dR;have wA:cy p z.1.2:=by rw[ra];exact (hv.pl k dR).1
   have D4:bm z.2.2=z.1.2.k.ls:=(rY I hz).eq;refine aV 2 (λw0 w'=>U W w' M) [10,14,16,17,18,19,20] [0,1,2,4,11,12,13,15,3003,5,3006,7,8,3009,3014,3016,3017,3018,3019,3020,1010,1021,22,23] E I λa w E I hH=>?_;have hC:=hH.at w I;refine RH 8 E I hH hC λa E=>?_;refine QH E (λw hc=>ae E (s4 _ hc 1 _ rfl)) hC λa E=>?_;refine RH 1 E I hH hC λa E=>?_;refine QH E (λw hc=>ae E (yx _ hc i _ Jt)) hC λa E=>?_;refine RH 2 E I hH hC λa E=>?_;refine QH E (λw hc=>ae E ((rY hc hy).pb 0 _ rfl)) hC λa E=>?_;refine QH E (λw hc=>ae E (s4 _ hc 1 _ rfl)) hC λa E=>?_;refine RH 1 E I hH hC λa E=>?_;refine QH E (λw hc=>ae E (yx _ hc k _ yq)) hC λa E=>?_;refine RH 2 E I hH hC λa E=>?_;refine QH E (λw hc=>ae E ((rY hc hz).pb 0 _ rfl)) hC λa E=>?_;refine RH 0 E I hH hC λa E=>?_;refine CL 0 E I (D0 (A:=y.2.1) I wz.wc uN λw' h=>⟨(rY h hy).cb,(rY h hy).ls⟩) λa w E I=>?_;replace hC:=hH.at w I;refine RH 0 E I hH hC λa E=>?_;refine CL 0 E I (D0 (A:=z.2.1) I wA.wc D4 λw' h=>⟨(rY h hz).cb,(rY h hz).ls⟩) λa w E I=>?_;refine RN 1 E I λa E=>?_;rw[show min ((aw y.1.2.k:Nat):Int) ((aw z.1.2.k:Nat):Int)=((min (aw y.1.2.k) (aw z.1.2.k):Nat):Int) from by omega]at E;refine RN 1 E I λa E=>?_;refine RN 2 E I λa E=>?_;refine aL (λμ a w=>∃ (f:Nat),(μ=min (aw y.1.2.k) (aw z.1.2.k)-f∧f≤min (aw y.1.2.k) (aw z.1.2.k))∧Fr a 142 [(0,pt D.wb),(3,.int .i64 i),(4,.int .i64 k),(5,.int .i64 (min (aw y.1.2.k) (aw z.1.2.k):Nat)),(6,.int .i64 f)]∧U W w M) (min (aw y.1.2.k) (aw z.1.2.k)) (⟨0,⟨rfl,by omega⟩,E.ab [0,3,4,5,6],I⟩) ?_;clear E I;rintro μ a w ⟨f,⟨rfl,hf⟩,E,I⟩;refine IF 5 E I (λay a E=>?_) λay a E=>?_
   ·
    have eP:f<aw y.1.2.k∧f<aw z.1.2.k:=by omega
    obtain⟨zZ,q7⟩:bK y.1.2.k.ls f=bK z.1.2.k.ls f∧y.1.2.k.mr.getD f 0=z.1.2.k.mr.getD f 0:=by
     rw[nT,ra]at eP ⊢;exact hA i k f aG dR eP.1 eP.2
    have aeX:y.1.2.k.ls.length=y.2.2.length:=by rw[← uN,gr]
    have aeY:z.1.2.k.ls.length=z.2.2.length:=by rw[← D4,gr]
    have C7:=wz.full;have MT:=wA.full;have hy8:=wz.wc.ls;have hz8:=wA.wc.ls;have hyn:=wz.wc.n;have LY:=wA.wc.n;have uH:=eS wz.wc.nO wz.wc.l5;obtain⟨by1,oy1,hG,_⟩:=Jr (f:=f) (rY I hy) (by rw[wz.full];exact eP.1);obtain⟨bz1,oz1,cW,_⟩:=Jr (f:=f) (rY I hz) (by rw[wA.full];exact eP.2);refine RN 2 E I λa E=>?_;simp only[List.append];refine aV 0 (λw0 w'=>U W w' M) [14,15,19,21,22,23,24,25,26,27,28,30,31,53,55,56,57,58,59,60,61,62,64,65] [0,1,2,4,13,16,17,18,20,29,3003,5,3006,7,8,3009,10,11,3012,3019,3021,3022,3023,3024,3025,3026,3027,3028,1014,3015,1030,1031,32,33,34,35,36,38,47,50,51,52,54,63,3037,39,3040,41,42,3043,44,45,3046,48,3049,1053,1055,1056,1057,1058,1059,1060,1061,1062,1064,1065,66,67] E I λa w E I hH=>?_;have hC:=hH.at w I;refine RH 10 E I hH hC λa E=>?_;refine QH E (λw hc=>ae E (s4 _ hc 1 _ rfl)) hC λa E=>?_;refine RH 1 E I hH hC λa E=>?_;refine QH E (λw hc=>ae E (yx _ hc i _ Jt)) hC λa E=>?_;refine RH 2 E I hH hC λa E=>?_;refine QH E (λw hc=>ae E ((rY hc hy).pb 0 _ rfl)) hC λa E=>?_;refine RH 2 E I hH hC λa E=>?_;refine QH E (λw hc=>ae E ((rY hc hy).cb 10 _ rfl)) hC λa E=>?_;rw[aeX]at E;refine RH 0 E I hH hC λa E=>?_;refine QH E (λw hc=>ae E (s4 _ hc 1 _ rfl)) hC λa E=>?_;refine RH 1 E I hH hC λa E=>?_;refine QH E (λw hc=>ae E (yx _ hc k _ yq)) hC λa E=>?_;refine RH 2 E I hH hC λa E=>?_;refine QH E (λw hc=>ae E ((rY hc hz).pb 0 _ rfl)) hC λa E=>?_;refine RH 2 E I hH hC λa E=>?_;refine QH E (λw hc=>ae E ((rY hc hz).cb 10 _ rfl)) hC λa E=>?_;rw[aeY]at E;refine RH 0 E I hH hC λa E=>?_;refine aY 0 E I (Ib (xs:=y.2.2) (f:=f) I (by omega) (by omega) (λw' hw=>(rY hw hy).ls) (by rw[uN];exact eP.1)) λwB jv a w E I=>?_;rw[uN,zZ]at E I;refine QS (λw'=>U W w' M∧aX w' wB (bK z.1.2.k.ls f).length (bK z.1.2.k.ls f)) (λ_ h=>h.1) I.tail ?_;have hH:=Hd.any (λw'=>U W w' M∧aX w' wB (bK z.1.2.k.ls f).length (bK z.1.2.k.ls f));have hC:=hH.at w ⟨I.tail,I.cw wB _ rfl rfl⟩;refine RH 0 E I hH hC λa E=>?_;refine QH E (λw hc=>lQ E bj dF gB (hc.2)) hC λa E=>?_;refine RH 0 E I hH hC λa E=>?_;refine aY 0 E I (Ib (xs:=z.2.2) (f:=f) I (by omega) (by omega) (λw' hw=>(rY hw.tail hz).ls) (by rw[D4];exact eP.2)) λjM ag3 a w E I=>?_;rw[D4]at E I;refine QS (λw'=>(U W w' M∧aX w' wB (bK z.1.2.k.ls f).length (bK z.1.2.k.ls f))∧aX w' jM (bK z.1.2.k.ls f).length (bK z.1.2.k.ls f)) (λ_ h=>h.1) ⟨I.tail.tail,I.cw wB _ rfl rfl⟩ ?_;have hH:=Hd.any (λw'=>(U W w' M∧aX w' wB (bK z.1.2.k.ls f).length (bK z.1.2.k.ls f))∧aX w' jM (bK z.1.2.k.ls f).length (bK z.1.2.k.ls f));have hC:=hH.at w ⟨⟨I.tail.tail,I.cw wB _ rfl rfl⟩,I.cw jM _ rfl rfl⟩;refine RH 0 E I hH hC λa E=>?_;refine SS E (lQ E bj dF gB (hC.2)) λa E=>?_;refine RH 0 E I hH hC λa E=>?_;refine QP E (λw=>Md E) λa E=>?_;rw[qS,beq_self_eq_true,Bool.not_true]at E;refine RH 1 E I hH hC λa E=>?_;replace E:=E.aQ 83;refine RH 10 E I hH hC λa E=>?_;refine QH E (λw hc=>ae E (s4 _ hc.1.1 1 _ rfl)) hC λa E=>?_;refine RH 1 E I hH hC λa E=>?_;refine QH E (λw hc=>ae E (yx _ hc.1.1 i _ Jt)) hC λa E=>?_;refine RH 2 E I hH hC λa E=>?_;refine QH E (λw hc=>ae E ((rY hc.1.1 hy).pb 0 _ rfl)) hC λa E=>?_;refine RH 2 E I hH hC λa E=>?_;refine QH E (λw hc=>ae E ((rY hc.1.1 hy).cb 16 _ rfl)) hC λa E=>?_;rw[hG]at E;refine RH 1 E I hH hC λa E=>?_;refine QH E (λw hc=>ae E (QQ (rY hc.1.1 hy) hG (by omega))) hC λa E=>?_;rw[q7]at E;refine RH 0 E I hH hC λa E=>?_;refine bA E (cv E rfl (s:=83)) (ae E (s4 _ hC.1.1 1 _ rfl)) rfl λa E=>?_;refine RH 1 E I hH hC λa E=>?_;refine bA E (cv E rfl (s:=83)) (ae E (yx _ hC.1.1 k _ yq)) rfl λa E=>?_;refine RH 2 E I hH hC λa E=>?_;refine bA E (cv E rfl (s:=83)) (ae E ((rY hC.1.1 hz).pb 0 _ rfl)) rfl λa E=>?_;refine RH 2 E I hH hC λa E=>?_;refine bA E (cv E rfl (s:=83)) (ae E ((rY hC.1.1 hz).cb 16 _ rfl)) rfl λa E=>?_;rw[cW]at E;refine RH 1 E I hH hC λa E=>?_;refine bA E (cv E rfl (s:=83)) (ae E (QQ (rY hC.1.1 hz) cW (by omega))) rfl λa E=>?_;refine RH 2 E I hH hC λa E=>?_;rw[bu (by simp)]at E;refine RN 4 E I λa E=>?_;exact⟨min (aw y.1.2.k) (aw z.1.2.k)-(f+1),by omega,f+1,⟨rfl,by omega⟩,E.ab [0,3,4,5,6],I.sub⟩
   refine RN 3 E I λa E=>?_;exact⟨i-(k+1),by omega,k+1,⟨rfl,by omega⟩,E.ab [0,3,4],I⟩
  obtain⟨x,hx⟩:∃ x,fs[i]?=some x:=⟨_,aD (by omega)⟩;have tG:(fs.map bB)[i]?=some (.slice x.1 x.2.2.length x.2.1):=by rw[bd,hx];rfl
  have b7:=(hv.kY x.2.2 (by rw[← mH];exact cX.2 ⟨x,bI hx,rfl⟩)).1;have hxE:∀ e∈x.2.2,e.1≠3:=yj x.2.2 (by rw[← mH];exact cX.2 ⟨x,bI hx,rfl⟩);refine RN 2 E I λa E=>?_;refine aL (λμ a w=>∃ (k:Nat),(μ=x.2.2.length-k∧k≤x.2.2.length)∧Fr a 142 [(0,pt D.wb),(3,.int .i64 i),(7,.int .i64 k)]∧U W w M) (x.2.2.length) (⟨0,⟨rfl,by omega⟩,E.ab [0,3,7],I⟩) ?_;clear E I;rintro μ a w ⟨k,⟨rfl,hk⟩,E,I⟩;refine RN 6 E I λa E=>?_;refine SS E (ae E ((s4 _ I) 3 _ rfl)) λa E=>?_;refine RN 2 E I λa E=>?_;refine SS E (ae E ((QU _ I) i _ tG)) λa E=>?_;refine IF 2 E I (λbO a E=>?_) λbO a E=>?_
  ·
   have dR:k<x.2.2.length:=by omega
   obtain⟨be,ag4,Ah,my⟩:=aeW I hx (by omega);replace my:=jt CK my (aD dR);have mR:=hxE _ (jj dR);refine RN 5 E I λa E=>?_;refine SS E (ae E ((s4 _ I) 3 _ rfl)) λa E=>?_;refine RN 2 E I λa E=>?_;refine SS E (ae E ((QU _ I) i _ tG)) λa E=>?_;rw[Ah]at E;refine RN 3 E I λa E=>?_;refine SS E (ae E (my 0 _ rfl)) λa E=>?_;refine RN 1 E I λa E=>?_;rw[bu (by omega)]at E;refine RN 4 E I λa E=>?_;exact⟨x.2.2.length-(k+1),by omega,k+1,⟨rfl,by omega⟩,E.ab [0,3,7],I⟩
  refine RN 3 E I λa E=>?_;exact⟨v.ps.length-(i+1),by omega,i+1,⟨rfl,by omega⟩,E.ab [0,3],I⟩
 refine RT 2 E I ?_;exact⟨rfl,cr _ I⟩
end
end
section
structure TV where
 bp:Nat
 op:Nat
 cP:Nat
 adN:Option Addr
 cN:Nat
 adE:Option Addr
 rE:Nat
 cE:Nat
 ys:List oC
structure aeZ (W:World)(K:TK)(p:Pr)(c:Nat)(v:Wd)(M L:List SP)(V:TV):Prop where
 t:∀ {w':World},U W w' M→Rd w' K.tb 0 (s3 K)
 d:∀ {w':World},U W w' M→Rd w' K.D.wb 0 [pt K.D.mb,.slice (some ⟨V.bp,V.op,none⟩) v.ps.length V.cP,.slice V.adN v.net.length V.cN,.slice V.adE V.rE V.cE]
 ps:∀ {w':World} {i:Nat} {y:oC},U W w' M→V.ys[i]?=some y→w'.cell? ⟨V.bp,V.op+i,none⟩=some (pt y.1.1.pb)
 rd:∀ {w':World} {i:Nat} {y:oC},U W w' M→V.ys[i]?=some y→AG w' p y
 get:∀ i,i<v.ps.length→∃ y,V.ys[i]?=some y∧y.1.2=an v i
 back:∀ {w':World},U W w' M→U W w' (TS W K p c v::L)
 mat:∃ M',∀ w':World,U W w' M↔U W w' (aN W K.B p c v::M')
section
variable {W w:World}{L:List SP}{c i:Nat}{p:Pr}{v:Wd}{K:TK}{cf:Cf}{G:List (List UInt8)}{QV:Int→Prop}{D:oB}
theorem TS.view (I:U W w (TS W K p c v::L))(h0:0<v.ps.length):∃ (M:List SP) (V:TV),aeZ W K p c v M L V∧U W w M:=by
 replace I:=TS.open I;obtain⟨adP,cP,adN,cN,gM,gu,rs,fs,⟨hG,iR,mH⟩,I⟩:=bF.open (I.pick (bF W K.D p v));obtain⟨ys,lJ,I⟩:=DX (I.pick (ah (dg W p) rs));have gD:rs.length=v.ps.length:=by rw[← iR,a8]
 have ju:ys.length=v.ps.length:=by rw[← gD,← lJ,a8]
 obtain⟨bp,op,rfl,_⟩:=(I.pick (Sl 34 1 adP rs.length cP (rs.map dE))).bU adP (by omega);replace I:=I.sub (M:=ah (kC W p) ys::aa K.D.wb 40 [pt K.D.mb,.slice (some ⟨bp,op,none⟩) rs.length cP,.slice adN v.net.length cN,.slice gM fs.length gu]::Sl 34 1 (some ⟨bp,op,none⟩) rs.length cP (rs.map dE)::cg 60 adN v.net.length cN v.net::Sl 70 1 gM fs.length gu (fs.map bB)::ah e4 fs::aa K.tb 33 (s3 K)::aN W K.B p c v::L);refine⟨_,⟨bp,op,cP,adN,cN,gM,fs.length,gu,ys⟩,⟨λh=>h.ai (b:=K.tb),λh=>by rw[← gD];exact h.ai (b:=K.D.wb),λh hy=>?_,λh hy=>DZ h hy,λi hi=>?_,λh=>?_,⟨_,λw'=>⟨λh=>h.pick (aN W K.B p c v),λh=>h.sub⟩⟩⟩,I⟩
 ·rename_i i y;refine h.cQ bp op (by omega) i _ ?_;rw[← lJ,List.map_map,bd,hy];rfl
 ·show ∃ y,ys[i]?=some y∧y.1.2=an v i;refine⟨ys[i]'(by omega),aD (by omega),?_⟩;rw[an,← iR,br,bd,show rs[i]?=(ys.map (·.1))[i]? from by rw[lJ],bd,aD (by omega)];rfl
 ·have h1:=DY h;rw[lJ]at h1;have h2:=bF.close (v:=v) (D:=K.D) (h1.sub (M:=aa K.D.wb 40 [pt K.D.mb,.slice (some ⟨bp,op,none⟩) rs.length cP,.slice adN v.net.length cN,.slice gM fs.length gu]::Sl 34 1 (some ⟨bp,op,none⟩) rs.length cP (rs.map dE)::ah (dg W p) rs::cg 60 adN v.net.length cN v.net::Sl 70 1 gM fs.length gu (fs.map bB)::ah e4 fs::aa K.tb 33 (s3 K)::aN W K.B p c v::L)) hG iR mH;exact TS.close (h2.sub (M:=aa K.tb 33 (s3 K)::aN W K.B p c v::bF W K.D p v::L))
theorem ae0 (I:U W w (bF W D p v::L))(hv:bN p cf c v)(jf:gL p cf QV G v)(kj:9*c+100≤1000000000):Calls Tryz.prog 18 #[pt D.wb] w λe w'=>e=.returned (.bool true)∧U W w' (bF W D p v::L) :=
 aeV I hv (λi j f hi hj h1 h2=>(jf.pl i hi).agree (jf.pl j hj) h1 h2) jf.bB kj
theorem ae1 (I:U W w (TS W K p c v::L))(hc:Wc p cf c v)(jf:gL p cf QV G v)(kT:c≤1000000):Calls Tryz.prog 18 #[pt K.D.wb] w λe w'=>e=.returned (.bool true)∧U W w' (TS W K p c v::L) :=
 (ae0 ((TS.open I).pick (bF W K.D p v)) hc.ok jf (by omega)).mono λe w' ⟨h1,h2⟩=>⟨h1,TS.close h2.sub⟩
end
end
section
section
variable {W w:World}{L:List SP}{c i:Nat}{p:Pr}{v:Wd}{K:TK}{m:Ml}{y:oC}
theorem TS.Am (I:U W w (TS W K p c v::L))(hm:v.net[i]?=some m):∃ (q4 rE AK AM:Nat) (adP adE:Option Addr) (cP cN cE:Nat) (ad:Option Addr) (HY:Nat),QN w K q4 v.net.length rE adP (some ⟨AK,AM,none⟩) adE cP cN cE∧Rd w AK (AM+i*3) [.int .i64 m.1,.int .i64 m.2.1,.slice ad m.2.2.length HY]:=by
 replace I:=TS.open I;have h1:=I.ai (b:=K.tb);obtain⟨adP,cP,adN,cN,adE,cE,xs,es,_,I⟩:=bF.open (I.pick (bF W K.D p v));obtain⟨ys,mI,ju,I⟩:=cg.open (I.pick (cg 60 adN v.net.length cN v.net));obtain⟨hi,hie⟩:=a2.1 hm;have lJ:ys.length=v.net.length:=by rw[← mI,a8]
 obtain⟨AK,AM,rfl,h2⟩:=(I.pick (Sl 60 3 adN v.net.length cN (rows ca ys))).bU adN (by omega);obtain⟨y,hy,Jn⟩:∃ y,ys[i]?=some y∧y.2.2=m:=by
  refine⟨ys[i]'(by omega),aD (by omega),?_⟩;have h3:(ys.map (·.2.2))[i]?=some m:=by rw[mI];exact hm
  rw[bd,aD (by omega)]at h3;exact re h3
 have h3:=jt ot h2 hy;refine⟨_,_,AK,AM,adP,adE,cP,cN,cE,y.1,y.2.1,⟨h1,I.ai (b:=K.D.wb)⟩,?_⟩;rw[← Jn];exact h3
end
end
section
structure Gw (n K a:Nat)(dh tw:Nat→Nat→Nat)(pr:Nat→Nat)(v:Wd):Prop where
 i0:∀ x,x<n→a≤bo v x x
 i1:∀ x y,x<n→y<n→x≠y→dh x y<tw x y→a≤bo v y x
 i2:∀ x,x<n→K<pr x→a+1≤bo v x x
 i3:∀ x y,x<n→y<n→x≠y→dh x y+K<tw x y→a+1≤bo v y x
 s5:∀ x y,dh x y<K
section
variable {p:Pr}{cf:Cf}{v u:Wd}{n K a i x y:Nat}{dh tw:Nat→Nat→Nat}{pr:Nat→Nat}{T:Nat→Nat}{m:Ml}{r:List Ml}
theorem Gw.new (hg:∀ x y,dh x y<K)(E:∀ x,x<n→a≤bo v x x):Gw n K a dh (λ_ _=>0) (λ_=>0) v :=
 ⟨E,λx y _ _ _ h=>by omega,λx _ h=>by omega,λx y _ _ _ h=>by omega,hg⟩
theorem Gw.less (h:Gw n K a dh tw pr v){QW:Nat→Nat→Nat}{QX:Nat→Nat}(ht:∀ x y,x<n→y<n→x≠y→QW x y≤tw x y)(hp:∀ x,x<n→QX x≤pr x):Gw n K a dh QW QX v :=
 ⟨h.i0,λx y hx hy hn hg=>h.i1 x y hx hy hn (by have:=ht x y hx hy hn;omega),λx hx hg=>h.i2 x hx (by have:=hp x hx;omega),λx y hx hy hn hg=>h.i3 x y hx hy hn (by have:=ht x y hx hy hn;omega),h.s5⟩
theorem Gw.same (h:Gw n K a dh tw pr v)(hk:∀ x y,bo u x y=bo v x y):Gw n K a dh tw pr u :=
 ⟨λx hx=>by rw[hk];exact h.i0 x hx,λx y hx hy hn hg=>by rw[hk];exact h.i1 x y hx hy hn hg,λx hx hg=>by rw[hk];exact h.i2 x hx hg,λx y hx hy hn hg=>by rw[hk];exact h.i3 x y hx hy hn hg,h.s5⟩
theorem Gw.al (h:Gw n K a dh tw pr v)(jK:Lv p cf T v)(hn:v.ps.length=n)(hi:i<n)(hh:bo v i i<1000)(hw:1≤cf.bt.toNat)(pI:K≤pr i→∀ m,m<n→m≠i→K≤tw m i)(b z:Int) :
   Gw n K a dh tw (λx=>if x=i then pr i+1 else pr x) (b0 p ⟨1,i,b,z⟩ v):=by
 obtain⟨_,_,_,hk,_⟩:=jK.al (i:=i) (by rw[hn];exact hi) b z;have hle:∀ x y,bo v x y≤bo (b0 p ⟨1,i,b,z⟩ v) x y:=λx y=>by rw[hk];omega
 refine⟨λx hx=>eS (h.i0 x hx) (hle _ _),λx y hx hy bq hg=>eS (h.i1 x y hx hy bq hg) (hle _ _),λx hx hg=>?_,λx y hx hy bq hg=>eS (h.i3 x y hx hy bq hg) (hle _ _),h.s5⟩;by_cases e:x=i
 ·subst e;rw[aj rfl]at hg;have hf:a≤aw (an v x).k:=jK.Ji (by rw[hn];exact hx) λm hm=>by
   rw[hn]at hm;by_cases e2:m=x
   ·rw[e2];exact h.i0 x hx
   ·have h1:=pI (by omega) m hm e2;exact h.i1 m x hm hx e2 (by have:=h.s5 m x;omega)
  have eP:=jK.Jh (i:=x) (j:=x) (by rw[hn];exact hx) (by rw[hn];exact hx);rw[hk];by_cases e3:bo v x x<cf.bt.toNat+aw (an v x).k
  ·rw[aj ⟨⟨rfl,rfl⟩,hh,e3⟩];omega
  ·omega
 ·rw[ag e]at hg;exact eS (h.i2 x hx hg) (hle _ _)
def g7 (g:Nat→Nat→Nat)(x y z:Nat):Nat→Nat→Nat:=λi j=>if i=x∧j=y then z else g i j
theorem Gw.send (h:Gw n K a dh tw pr v)(jK:Lv p cf T v)(hn:v.ps.length=n)(hm:v.net=m::r)(hv:qA m=bo v m.1 m.1)(hp:i<pr m.1 )(pI:0<K):Gw n K a (g7 dh m.1 m.2.1 0) (g7 tw m.1 m.2.1 (i+1)) pr (b0 p ⟨3,0,0,0⟩ v):=by
 obtain⟨_,_,_,hk,_,h1,h2,h3⟩:=jK.send hm 0 0;rw[hn]at h1 h2;have hle:∀ x y,bo v x y≤bo (b0 p ⟨3,0,0,0⟩ v) x y:=λx y=>by rw[hk];split <;> omega
 refine⟨λx hx=>eS (h.i0 x hx) (hle _ _),λx y hx hy bq hg=>?_,λx hx hg=>eS (h.i2 x hx hg) (hle _ _),λx y hx hy bq hg=>?_,λx y=>?_⟩
 ·unfold g7 at hg;by_cases e:x=m.1∧y=m.2.1
  ·rw[hk,aj ⟨e.2,e.1⟩,hv];have:=h.i0 m.1 h1;omega
  ·rw[ag e,ag e]at hg;exact eS (h.i1 x y hx hy bq hg) (hle _ _)
 ·unfold g7 at hg;by_cases e:x=m.1∧y=m.2.1
  ·rw[aj e,aj e]at hg;rw[hk,aj ⟨e.2,e.1⟩,hv];have:=h.i2 m.1 h1 (by omega);omega
  ·rw[ag e,ag e]at hg;exact eS (h.i3 x y hx hy bq hg) (hle _ _)
 ·unfold g7;split
  ·exact pI
  ·exact h.s5 x y
theorem Gw.drop (h:Gw n K a dh tw pr v)(jK:Lv p cf T v)(hm:v.net=m::r)(mx:dh m.1 m.2.1+1<K)(ht:i≤tw m.1 m.2.1):Gw n K a (g7 dh m.1 m.2.1 (dh m.1 m.2.1+1)) (g7 tw m.1 m.2.1 (i+1)) pr (b0 p ⟨4,0,0,0⟩ v):=by
 obtain⟨_,_,_,hk⟩:=jK.drop hm 0 0;have h0:Gw n K a dh tw pr (b0 p ⟨4,0,0,0⟩ v):=h.same hk;refine⟨h0.i0,λx y hx hy bq hg=>?_,h0.i2,λx y hx hy bq hg=>?_,λx y=>?_⟩
 ·unfold g7 at hg;by_cases e:x=m.1∧y=m.2.1
  ·rw[aj e,aj e]at hg;exact h0.i1 x y hx hy bq (by rw[e.1,e.2];omega)
  ·rw[ag e,ag e]at hg;exact h0.i1 x y hx hy bq hg
 ·unfold g7 at hg;by_cases e:x=m.1∧y=m.2.1
  ·rw[aj e,aj e]at hg;exact h0.i3 x y hx hy bq (by rw[e.1,e.2];omega)
  ·rw[ag e,ag e]at hg;exact h0.i3 x y hx hy bq hg
 ·unfold g7;split
  ·exact mx
  ·exact h.s5 x y
theorem Gw.done (h:Gw n K a dh tw pr v)(jK:Lv p cf T v)(hn:v.ps.length=n)(ht:∀ x y,x<n→y<n→x≠y→2*K≤tw x y)(hp:∀ x,x<n→K<pr x)(hx:x<n):a+1≤aw (an v x).k :=
 jK.Ji (by rw[hn];exact hx) λm hm=>by
  rw[hn]at hm;by_cases e:m=x
  ·rw[e];exact h.i2 x hx (hp x hx)
  ·exact h.i3 m x hm hx e (by have:=h.s5 m x;have:=ht m x hm hx e;omega)
theorem least (f:Nat→Nat):∀ n,0<n→∃ a,(∀ x,x<n→a≤f x)∧∃ x,x<n∧a=f x
 | 0,h=>absurd h (by omega)
 | 1, _ => ⟨f 0, fun x hx => by have : x = 0 := by omega
                                rw[this];exact a7 _,0,by omega,rfl⟩
 | n+2,_=>by
  obtain⟨a,h1,x,hx,h2⟩:=least f (n+1) (by omega);by_cases h:a≤f (n+1)
  ·exact ⟨a, fun y hy => by
    by_cases e:y=n+1
    ·rw[e];exact h
    ·exact h1 y (by omega),x,by omega,h2⟩
  ·exact ⟨f (n + 1), fun y hy => by
    by_cases e:y=n+1
    ·rw[e];exact a7 _
    ·have:=h1 y (by omega);omega,n+1,by omega,rfl⟩
end
def gW (g:Nat→Nat→Nat):List Value:=(List.range 64).map λj=>Value.int .i64 (g (j/8) (j%8):Nat)
def k4 (f:Nat→Nat):List Value:=(List.range 8).map λj=>Value.int .i64 (f j:Nat)
theorem D5 {g:Nat→Nat→Nat}:(gW g).length=64:=by rw[gW,a8,length_range]
theorem ae2 {f:Nat→Nat}:(k4 f).length=8:=by rw[k4,a8,length_range]
theorem Ju {g:Nat→Nat→Nat}{x y:Nat}(hx:x<8)(hy:y<8):(gW g)[x*8+y]?=some (.int .i64 (g x y:Nat)):=by
 rw[gW,bd,getElem?_range (by omega)];show some (Value.int .i64 (g ((x*8+y)/8) ((x*8+y)%8):Nat))=_;rw[show (x*8+y)/8=x from by omega,show (x*8+y)%8=y from by omega]
theorem D6 {g:Nat→Nat→Nat}{x y z:Nat}(hx:x<8)(hy:y<8):(gW g).set (x*8+y) (.int .i64 (z:Nat))=gW (g7 g x y z):=by
 apply ext_getElem?;intro j;rw[jB];split
 ·rename_i e;subst e;rw[Ju hx hy,aj (by rw[gW,a8,length_range];omega)];rw[g7,aj ⟨rfl,rfl⟩]
 ·rename_i e;rw[gW,gW,bd,bd];by_cases hj:j<64
  ·rw[getElem?_range hj];show some (Value.int .i64 (g (j/8) (j%8):Nat))=some (Value.int .i64 (g7 g x y z (j/8) (j%8):Nat));rw[g7,ag (by omega)]
  ·rw[iO (by rw[length_range];omega)];rfl
theorem QY {f:Nat→Nat}{x:Nat}(hx:x<8):(k4 f)[x]?=some (.int .i64 (f x:Nat)):=by
 rw[k4,bd,getElem?_range hx];rfl
theorem ae3 {f:Nat→Nat}{x z:Nat}(hx:x<8):(k4 f).set x (.int .i64 (z:Nat))=k4 (λj=>if j=x then z else f j):=by
 apply ext_getElem?;intro j;rw[jB];split
 ·rename_i e;subst e;rw[QY hx,aj (by rw[k4,a8,length_range];exact hx),aj rfl]
 ·rename_i e;rw[k4,k4,bd,bd];by_cases hj:j<8
  ·rw[getElem?_range hj];show some (Value.int .i64 (f j:Nat))=some (Value.int .i64 ((if j=x then z else f j:Nat)));rw[ag (Ne.symm e)]
  ·rw[iO (by rw[length_range];omega)];rfl
end
section
abbrev jy (n d g:Nat):Cf:=⟨n,0,77,d,g,2,1,3,2,7⟩
def kD (x p:Nat):Nat:=if x<p then 1 else 0
theorem QZ {x p:Nat}:kD x p≤1:=by unfold kD;split <;> omega
theorem AN {x p:Nat}(h:x<p):kD x p=1:=aj h
theorem s6 {x p:Nat}(h:p≤x):kD x p=0:=ag (by omega)
structure Gr (n r:Nat)(cf:Cf)(v:Wd):Prop where
 lK:Lv bn cf (λ_=>16*r) v
 net:v.net=[]
 len:v.ps.length=n
 hd:∀ x,x<n→bo v x x≤10+20*r
structure Gi (n K a r i p:Nat)(dh:Nat→Nat→Nat)(cf:Cf)(v:Wd):Prop where
 lK:Lv bn cf (λx=>16*r+i+kD x p) v
 net:v.net=[]
 len:v.ps.length=n
 hd:∀ x,x<n→bo v x x≤10+20*r+i+kD x p
 s7:Gw n K a dh (λx _=>i+kD x p) (λx=>i+kD x p) v
structure Gm (n K a r i p:Nat)(dh tw:Nat→Nat→Nat)(cf:Cf)(v:Wd):Prop where
 lK:Lv bn cf (λx=>16*r+i+kD x (p+1)) v
 len:v.ps.length=n
 hd:∀ x,x<n→bo v x x≤10+20*r+i+kD x (p+1)
 s7:Gw n K a dh tw (λx=>i+kD x (p+1)) v
 ge:∀ x y,x<n→y<n→x≠y→i+kD x p≤tw x y
 dn:∀ y,y<n→y≠p→(∃ m∈v.net,m.2.1=y)∨i+1≤tw p y
 xS:∀ m∈v.net,(m.1=p∧m.2.1<n∧m.2.1≠p)∧qA m=bo v p p
section
variable {n K a r i p d g:Nat}{dh tw:Nat→Nat→Nat}{cf:Cf}{v:Wd}{m:Ml}{l:List Ml}
theorem Q0 (hn:2≤n∧n≤8)(hd:d≤8)(hg:1≤g∧g≤16):eY (jy n d g):=by
 have h2:eY (Jq 2):=by decide
 refine⟨⟨⟨?_,?_⟩,⟨?_,?_⟩,h2.1.2.2⟩,⟨⟨?_,?_⟩,⟨?_,?_⟩,h2.2.1.2.2⟩,h2.2.2⟩
 ·show (2:Int)≤(n:Int);omega
 ·show (n:Int)≤8;omega
 ·show (0:Int)≤0;omega
 ·show (0:Int)≤(n:Int)-1;omega
 ·show (0:Int)≤(d:Int);omega
 ·show (d:Int)≤8;omega
 ·show (1:Int)≤(g:Int);omega
 ·show (g:Int)≤16;omega
theorem Gr.new (hn:2≤n∧n≤8)(hd:d≤8)(hg:1≤g∧g≤16):Gr n 0 (jy n d g) (fJ bn (jy n d g) n):=by
 have h0:DV bn (jy n d g) 0 d (fJ bn (jy n d g) n):=DV.new (Q0 hn hd hg);have hl:(fJ bn (jy n d g) n).ps.length=n:=s0;exact⟨h0.lK,h0.net,hl,λx hx=>by rw[h0.rB x x (by omega) (by omega)];omega⟩
theorem Gr.start (h:Gr n r cf v)(hn:0<n)(hg:∀ x y,dh x y<K):∃ a,Gi n K a r 0 0 dh cf v∧∀ x,x<n→aw (an v x).k≤a:=by
 obtain⟨a,h1,x,hx,h2⟩:=least (λx=>bo v x x) n hn;have hlen:=h.len;refine⟨a,⟨h.lK.more λj _=>by omega,h.net,h.len,λx hx=>by have:=h.hd x hx;omega,(Gw.new hg h1).less (λx y _ _ _=>?_) λx _=>?_⟩,λy hy=>?_⟩
 ·rw[s6 (Nat.zero_le _)];exact a7 _
 ·rw[s6 (Nat.zero_le _)];exact a7 _
 ·have h3:=h.lK.Jh (i:=y) (j:=x) (by omega) (by omega);have h4:=h.lK.aey (i:=y) (j:=x) (by omega) (by omega);omega
theorem Gi.ae4 (h:Gi n K a r i p dh cf v)(hp:p<n)(hn:n≤8)(hr:r<2)(hi:i<16)(hw:1≤cf.bt.toNat)(b z b2 z2:Int) :
   ∃ tw,Gm n K a r i p dh tw cf (b0 bn ⟨2,p,b2,z2⟩ (b0 bn ⟨1,p,b,z⟩ v))∧(b0 bn ⟨2,p,b2,z2⟩ (b0 bn ⟨1,p,b,z⟩ v)).net.length≤n:=by
 have hlen:=h.len;have hh:bo v p p<1000:=by have:=h.hd p hp;rw[s6 (a7 _)]at this;omega
 obtain⟨cV,cc,a3,a4,_⟩:=h.lK.al (i:=p) (by omega) b z;have g1:=h.s7.al h.lK hlen hp hh hw (λpI m hm bq=>by rw[s6 (a7 p)]at pI;omega) b z;generalize b0 bn ⟨1,p,b,z⟩ v=v1 at cV cc a3 a4 g1;obtain⟨b1,AO,b3,b4,b5,_⟩:=cV.tick (i:=p) (by show 16*r+i+kD p p<39;rw[s6 (a7 _)];omega) (by rw[a3];omega) (by rw[cc,h.net,a3];simp;omega) b2 z2;rw[cc,h.net,nil_append]at AO;have fN:∀ x,(if x=p then i+kD p p+1 else i+kD x p)=i+kD x (p+1):=λx=>by
  unfold kD;by_cases e:x=p
  ·rw[aj e,ag (by omega),aj (by omega)]
  ·rw[ag e];by_cases e2:x<p
   ·rw[aj e2,aj (by omega)]
   ·rw[ag e2,ag (by omega)]
 generalize b0 bn ⟨2,p,b2,z2⟩ v1=v2 at b1 AO b3 b4;refine⟨_,⟨b1.more λx hx=>?_,by omega,λx hx=>?_,(g1.same b4).less (λx y _ _ _=>a7 _) λx _=>Nat.le_of_eq (fN x).symm,λx y _ _ _=>a7 _,λy hy bq=>.inl ?_,λm hm=>?_⟩,?_⟩
 ·have:=fN x;split
  ·rename_i e;subst e;rw[aj rfl]at this;omega
  ·rename_i e;rw[ag e]at this;omega
 ·rw[b4,a4];have h1:=h.hd x hx;have:=fN x;by_cases e:x=p
  ·rw[aj e]at this;subst e;split <;> omega
  ·rw[ag e]at this;rw[ag (λh=>e h.1.1)];omega
 ·rw[AO,rD];refine⟨_,cX.2 ⟨y,List.mem_filter.2 ⟨mem_range.2 (by omega),by simpa using bq⟩,rfl⟩,rfl⟩
 ·rw[AO]at hm;refine⟨?_,by rw[b5 m hm,b4]⟩;obtain⟨j,hj,rfl⟩:=cX.1 hm;obtain⟨h1,h2⟩:=List.mem_filter.1 hj;exact⟨rfl,by have:=mem_range.1 h1;show j<n;omega,by simpa using h2⟩
 ·rw[AO,rD,a8];have:=p0 (λj=>decide (j≠p)) (List.range v1.ps.length);rw[length_range]at this;exact eS this (by omega)
theorem Gm.send (h:Gm n K a r i p dh tw cf v)(hm:v.net=m::l)(pI:0<K)(hp:p<n):Gm n K a r i p (g7 dh m.1 m.2.1 0) (g7 tw m.1 m.2.1 (i+1)) cf (b0 bn ⟨3,0,0,0⟩ v)∧(b0 bn ⟨3,0,0,0⟩ v).net=l:=by
 obtain⟨cV,cc,a3,a4,_⟩:=h.lK.send hm 0 0;obtain⟨⟨e1,e2,e3⟩,ia⟩:=h.xS m (by rw[hm];exact iq);have Q1:∀ x,bo (b0 bn ⟨3,0,0,0⟩ v) x x=bo v x x:=λx=>by rw[a4,ag (by omega)]
 refine⟨⟨cV,a3.trans h.len,λx hx=>by rw[Q1];exact h.hd x hx,h.s7.send h.lK h.len hm (by rw[e1];exact ia) (by rw[e1,AN (by omega)];omega) pI,λx y hx hy bq=>?_,λy hy bq=>?_,λm' pD=>?_⟩,cc⟩
 ·have:=h.ge x y hx hy bq;have:=QZ (x:=x) (p:=p);unfold g7;split <;> omega
 ·rw[cc];by_cases e:m.2.1=y
  ·exact .inr (by rw[g7,aj ⟨e1.symm,e.symm⟩];exact a7 _)
  ·rcases h.dn y hy bq with ⟨tf,h1,h2⟩ | h1
   ·rw[hm]at h1;rcases List.mem_cons.1 h1 with rfl | h1
    ·exact absurd h2 e
    ·exact .inl ⟨tf,h1,h2⟩
   ·exact .inr (by rw[g7,ag (λh=>e h.2.symm)];exact h1)
 ·rw[cc]at pD;have:=h.xS m' (by rw[hm];exact gx _ pD);exact⟨this.1,by rw[Q1];exact this.2⟩
theorem Gm.drop (h:Gm n K a r i p dh tw cf v)(hm:v.net=m::l)(hg:dh m.1 m.2.1+1<K)(hp:p<n):Gm n K a r i p (g7 dh m.1 m.2.1 (dh m.1 m.2.1+1)) (g7 tw m.1 m.2.1 (i+1)) cf (b0 bn ⟨4,0,0,0⟩ v)∧(b0 bn ⟨4,0,0,0⟩ v).net=l:=by
 obtain⟨cV,cc,a3,a4⟩:=h.lK.drop hm 0 0;obtain⟨⟨e1,e2,e3⟩,ia⟩:=h.xS m (by rw[hm];exact iq);refine⟨⟨cV,a3.trans h.len,λx hx=>by rw[a4];exact h.hd x hx,h.s7.drop h.lK hm hg (by have:=h.ge m.1 m.2.1 (by omega) e2 (by omega);omega),λx y hx hy bq=>?_,λy hy bq=>?_,λm' pD=>?_⟩,cc⟩
 ·have:=h.ge x y hx hy bq;have:=QZ (x:=x) (p:=p);unfold g7;split <;> omega
 ·rw[cc];by_cases e:m.2.1=y
  ·exact .inr (by rw[g7,aj ⟨e1.symm,e.symm⟩];exact a7 _)
  ·rcases h.dn y hy bq with ⟨tf,h1,h2⟩ | h1
   ·rw[hm]at h1;rcases List.mem_cons.1 h1 with rfl | h1
    ·exact absurd h2 e
    ·exact .inl ⟨tf,h1,h2⟩
   ·exact .inr (by rw[g7,ag (λh=>e h.2.symm)];exact h1)
 ·rw[cc]at pD;have:=h.xS m' (by rw[hm];exact gx _ pD);exact⟨this.1,by rw[a4];exact this.2⟩
theorem Gm.done (h:Gm n K a r i p dh tw cf v)(hm:v.net=[]):Gi n K a r i (p+1) dh cf v :=
 ⟨h.lK,hm,h.len,h.hd,h.s7.less (λx y hx hy bq=>by
  have h1:=h.ge x y hx hy bq;by_cases e:x=p
  ·subst e;rcases h.dn y hy (Ne.symm bq) with ⟨m,h2,_⟩ | h2
   ·rw[hm]at h2;cases h2
   ·rw[AN (by omega)];exact h2
  ·by_cases e2:x<p
   ·rw[AN (by omega)];rw[AN e2]at h1;exact h1
   ·rw[s6 (by omega)];rw[s6 (by omega)]at h1;exact h1) λx _=>a7 _⟩
theorem Gi.row (h:Gi n K a r i n dh cf v):Gi n K a r (i+1) 0 dh cf v:=by
 have hlen:=h.len;have e:∀ x,x<n→i+1+kD x 0=i+kD x n:=λx hx=>by rw[s6 (Nat.zero_le _),AN hx]
 exact⟨h.lK.more λx hx=>by have:=e x (by omega);omega,h.net,h.len,λx hx=>by have:=e x hx;have:=h.hd x hx;omega,h.s7.less (λx y hx _ _=>Nat.le_of_eq (e x hx)) λx hx=>Nat.le_of_eq (e x hx)⟩
theorem Gi.done (h:Gi n K a r (2*K+4) 0 dh cf v)(pI:K≤6):Gr n (r+1) cf v∧∀ x,x<n→a+1≤aw (an v x).k:=by
 have e:∀ x,kD x 0=0:=λx=>s6 (Nat.zero_le _);exact⟨⟨h.lK.more λx hx=>by rw[e];omega,h.net,h.len,λx hx=>by have:=h.hd x hx;rw[e]at this;omega⟩,λx hx=>h.s7.done h.lK h.len (λx y _ _ _=>by rw[e];omega) (λx _=>by rw[e];omega) hx⟩
end
end
section
instance Ty.ag5:TI Tryz.prog 55 (.agg #[.int .i64 0,.int .i64 0,.int .i64 0,.int .i64 0,.int .i64 0,.int .i64 0,.int .i64 0,.int .i64 0,.int .i64 0,.int .i64 0,.int .i64 0,.int .i64 0,.int .i64 0,.int .i64 0,.int .i64 0,.int .i64 0,.int .i64 0,.int .i64 0,.int .i64 0,.int .i64 0,.int .i64 0,.int .i64 0,.int .i64 0,.int .i64 0,.int .i64 0,.int .i64 0,.int .i64 0,.int .i64 0,.int .i64 0,.int .i64 0,.int .i64 0,.int .i64 0,.int .i64 0,.int .i64 0,.int .i64 0,.int .i64 0,.int .i64 0,.int .i64 0,.int .i64 0,.int .i64 0,.int .i64 0,.int .i64 0,.int .i64 0,.int .i64 0,.int .i64 0,.int .i64 0,.int .i64 0,.int .i64 0,.int .i64 0,.int .i64 0,.int .i64 0,.int .i64 0,.int .i64 0,.int .i64 0,.int .i64 0,.int .i64 0,.int .i64 0,.int .i64 0,.int .i64 0,.int .i64 0,.int .i64 0,.int .i64 0,.int .i64 0,.int .i64 0]) 64 512:=TI.of (by kernel_rfl)
set_option maxHeartbeats 4000000 in
theorem ae5 (a0 cV:Int)(cc:Option Addr)(nm oD:Nat)(z2:List Int)(a3 a4:Int)(g6:Bool)(W:World)(w0:(Lit.int .i64 a0).wf=true)(Jx:(Lit.int .i64 cV).wf=true)(w2:tY .i64 W cc nm oD z2)(w3:(Lit.int .i64 a3).wf=true)(Jy:(Lit.int .i64 a4).wf=true) :
   Calls Tryz.prog 4 #[.int .i64 a0,.int .i64 cV,.slice cc nm oD,.int .i64 a3,.int .i64 a4,.bool g6] W λe w'=>e=.returned (.bool true)∧Below W.heap.size W w':=by
 have I:=U.start W;obtain⟨xs,b7,hxw,tG⟩:=w2.Zb;have hV:=w2.Me;refine EN Tryz.func4 Tryz.ntmps4 rfl rfl λa E=>?_;refine CL 3 E I (aeR I) λa w E I=>?_;refine RN 5 E I λa E=>?_;replace E:=E.aQ 28;refine bg 3 E I (D3 (k:=4) I (by decide) (by decide)) λy a w E ⟨hy,I⟩=>?_;refine bg 2 E I (D3 (k:=6) I (by decide) (by decide)) λBK a w E ⟨iR,I⟩=>?_;refine RN 4 E I λa E=>?_;obtain⟨n,hn⟩:∃ n:Nat,n=2+y:=⟨_,rfl⟩;rw[show (2:Int)+(y:Int)=(n:Int) from by omega]at E;obtain⟨k,hk⟩:∃ k:Nat,k=1+BK:=⟨_,rfl⟩;rw[show (1:Int)+(BK:Int)=(k:Int) from by omega]at E;refine CL 1 E I (aeT (n:=n) I) λa w E I=>?_;refine AL 0 E I λeu a w E I=>?_;refine SA 0 E I λa w E I=>?_;refine RN 1 E I λa E=>?_;replace I:U W w (aa eu 28 (bS (Jq n))::[]):=I;refine bg 1 E I (D3 (k:=9) I (by decide) (by decide)) λd a w E ⟨hd,I⟩=>?_;refine bg 1 E I (D3 (k:=16) I (by decide) (by decide)) λQ2 a w E ⟨N7,I⟩=>?_;refine RN 1 E I λa E=>?_;obtain⟨g,hg⟩:∃ g:Nat,g=1+Q2:=⟨_,rfl⟩;rw[show (1:Int)+(Q2:Int)=(g:Int) from by omega]at E;refine ST 1 E I (λa w E I=>?_);refine ST 1 E I (λa w E I=>?_);refine RN 1 E I λa E=>?_;replace I:U W w (aa eu 28 (bS (jy n d g))::[]):=I;refine aY 2 E I (aeU (cf:=jy n d g) (n:=n) I ⟨Q0 (by omega) (by omega) (by omega),rz,show c0 ⟨2,1,[]⟩ by decide⟩ rfl) λW K a w E ⟨⟨hKn,tQ,kB,ak⟩,I⟩=>?_;refine RN 1 E I λa E=>?_;have Q3:Gr n 0 (jy n d g) (fJ bn (jy n d g) n):=Gr.new (by omega) (by omega) (by omega);have Q4:∀ w L,U W w L→nm=0∨∃ b off,cc=some ⟨b,off,none⟩∧Rd w b off (xs.map (.int .i64)):=λw L I=>(tG _ [] (U.start _)).imp id λ⟨b,off,h1,h2,h3⟩=>⟨b,off,h1,λj v hj=>(I.below.cell (yA h2 tQ.size)).trans ((tQ.cell h2).trans (h3 j v hj))⟩;generalize fJ bn (jy n d g) n=v0 at I ak Q3;refine AL 1 E I λfT a w E I=>?_;refine RN 0 E I λa E=>?_;replace I:U W w (aa fT 55 (gW λ_ _=>0)::TS W K bn 0 v0::[]):=I;refine RN 2 E I λa E=>?_;refine b6 (M:=λa w=>(∃ (c r:Nat) (dh:Nat→Nat→Nat) (v:Wd),(c≤12000∧Wc bn (jy n d g) c v∧Gr n r (jy n d g) v)∧Fr a 208 [(15,pt K.tb)]∧U W w (aa fT 55 (gW dh)::TS W K bn c v::[]))) ?_ ?_
 ·
  refine RN 2 E I λa E=>?_;refine aL (λμ a w=>∃ (r c aR:Nat) (dh:Nat→Nat→Nat) (v:Wd),(μ=2-r∧(r≤2∧c≤6000*r∧aR≤c)∧(∀ x y,dh x y<k)∧Wc bn (jy n d g) c v∧Gr n r (jy n d g) v)∧Fr a 208 [(0,.int .i64 n),(1,.int .i64 k),(2,.slice cc nm oD),(15,pt K.tb),(16,pt fT),(17,.int .i64 aR),(18,.int .i64 r)]∧U W w (aa fT 55 (gW dh)::TS W K bn c v::[])) (2) (⟨0,0,0,λ_ _=>0,v0,⟨rfl,⟨by omega,by omega,by omega⟩,λ_ _=>by show 0<k;omega,ak,Q3⟩,E.ab [0,1,2,15,16,17,18],I⟩) ?_;clear E I;rintro μ a w ⟨r,c,aR,dh,v,⟨rfl,⟨hr,kT,eX⟩,Jz,hc,ma⟩,E,I⟩;refine RN 2 E I λa E=>?_;obtain⟨q4,rE,adP,adN,adE,cP,cN,cE,hT⟩:=TS.rd (I.pick (TS W K bn c v));refine BY 3 E I (λbD a E=>?_) λbD a E=>?_
  ·
   refine RN 3 E I λa E=>?_;refine bA E (cv E rfl (s:=49)) (ae E (hT.t 2 _ rfl)) rfl λa E=>?_;refine IF 1 E I (λao a E=>?_) λao a E=>?_
   ·
    have eO:r<2:=by omega
    obtain⟨a',hI0,ae6⟩:=ma.start (K:=k) (by omega) Jz;have hlen:=ma.len;refine AL 2 E I λfR a w E I=>?_;replace I:U W w (aa fR 54 (k4 λ_=>0)::aa fT 55 (gW dh)::TS W K bn c v::[]):=I;refine RN 0 E I λa E=>?_;refine b6 (M:=λa w=>(∃ f:Nat→Nat,(∀ x,x<n→f x≤a')∧Fr a 208 [(0,.int .i64 n),(1,.int .i64 k),(2,.slice cc nm oD),(15,pt K.tb),(16,pt fT),(17,.int .i64 aR),(18,.int .i64 r),(19,pt fR)]∧U W w (aa fR 54 (k4 f)::aa fT 55 (gW dh)::TS W K bn c v::[]))) ?_ ?_
    ·
     refine RN 2 E I λa E=>?_;refine aL (λμ a w=>∃ (j:Nat) (f:Nat→Nat),(μ=n-j∧j≤n∧∀ x,x<j→f x≤a')∧Fr a 208 [(0,.int .i64 n),(1,.int .i64 k),(2,.slice cc nm oD),(15,pt K.tb),(16,pt fT),(17,.int .i64 aR),(18,.int .i64 r),(19,pt fR),(20,.int .i64 j)]∧U W w (aa fR 54 (k4 f)::aa fT 55 (gW dh)::TS W K bn c v::[])) (n) (⟨0,λ_=>0,⟨rfl,by omega,λx hx=>by omega⟩,E.ab [0,1,2,15,16,17,18,19,20],I⟩) ?_;clear E I;rintro μ a w ⟨j,f,⟨rfl,hj,hf⟩,E,I⟩;refine IF 5 E I (λay a E=>?_) λay a E=>?_
     ·
      have dO:j<v.ps.length:=by omega
      obtain⟨M,V,jR,I⟩:=TS.view (I.pick (TS W K bn c v)) (by omega);obtain⟨y,hy,nT⟩:=jR.get j dO;have AP:=(hc.ok.pl j dO).1.wc;rw[← nT]at AP;have D7:=ae6 j (by omega);rw[← nT]at D7;have uN:=(jR.rd I hy).eq;refine RN 5 E I λa E=>?_;refine SS E (ae E ((jR.t I) 0 _ rfl)) λa E=>?_;refine RN 2 E I λa E=>?_;refine SS E (ae E ((jR.d I) 1 _ rfl)) λa E=>?_;refine RN 2 E I λa E=>?_;refine SS E (ae E (jR.ps I hy)) λa E=>?_;refine RN 2 E I λa E=>?_;refine SS E (ae E ((jR.rd I hy).pb 0 _ rfl)) λa E=>?_;refine CL 0 E I (D0 (A:=y.2.1) I AP uN λw' h=>⟨(jR.rd h hy).cb,(jR.rd h hy).ls⟩) λa w E I=>?_;replace I:U W w (aa fR 54 (k4 f)::aa fT 55 (gW dh)::TS W K bn c v::[]):=(jR.back I).sub;refine ST 1 E I (λa w E I=>?_) (hlt:=(by rw[ae2];omega));rw[ae3 (by omega)]at I;refine RN 3 E I λa E=>?_;exact⟨n-(j+1),by omega,j+1,λx=>if x=j then aw y.1.2.k else f x,⟨rfl,by omega,λx hx=>by
       show (if x=j then aw y.1.2.k else f x)≤a';by_cases e:x=j
       ·rw[aj e];exact D7
       ·rw[ag e];exact hf x (by omega)⟩,E.ab [0,1,2,15,16,17,18,19,20],I⟩
     refine RN 0 E I λa E=>?_;exact⟨f,λx hx=>hf x (by omega),E.ab [0,1,2,15,16,17,18,19],I⟩
    clear E;(try clear I);rintro a w ⟨f,hf,E,I⟩;refine b6 (M:=λa w=>(∃ (c2 lY:Nat) (rF:Nat→Nat→Nat) (u:Wd),(c2≤c+6000∧lY≤c2∧Wc bn (jy n d g) c2 u∧Gi n k a' r (2*k+4) 0 rF (jy n d g) u)∧Fr a 208 [(0,.int .i64 n),(1,.int .i64 k),(2,.slice cc nm oD),(15,pt K.tb),(16,pt fT),(17,.int .i64 lY),(18,.int .i64 r),(19,pt fR)]∧U W w (aa fR 54 (k4 f)::aa fT 55 (gW rF)::TS W K bn c2 u::[]))) ?_ ?_
    ·
     refine RN 2 E I λa E=>?_;have ag6:=Jz;clear Jz ma;refine aL (λμ a w=>∃ (i c2 lY:Nat) (rF:Nat→Nat→Nat) (u:Wd),(μ=2*k+4-i∧(i≤2*k+4∧c2≤c+350*i∧lY≤c2)∧Wc bn (jy n d g) c2 u∧Gi n k a' r i 0 rF (jy n d g) u)∧Fr a 208 [(0,.int .i64 n),(1,.int .i64 k),(2,.slice cc nm oD),(15,pt K.tb),(16,pt fT),(17,.int .i64 lY),(18,.int .i64 r),(19,pt fR),(21,.int .i64 i)]∧U W w (aa fR 54 (k4 f)::aa fT 55 (gW rF)::TS W K bn c2 u::[])) (2*k+4) (⟨0,c,aR,dh,v,⟨rfl,⟨by omega,by omega,by omega⟩,hc,hI0⟩,E.ab [0,1,2,15,16,17,18,19,21],I⟩) ?_;clear E I;rintro μ a w ⟨i,c2,lY,rF,u,⟨rfl,⟨hi,ag7,BZ⟩,yv,hI⟩,E,I⟩;refine IF 7 E I (λbl a E=>?_) λbl a E=>?_
     ·
      have dI:i<2*k+4:=by omega
      refine RN 3 E I λa E=>?_;refine aL (λμ a w=>∃ (p c3 AQ:Nat) (yy:Nat→Nat→Nat) (z:Wd),(μ=n-p∧(p≤n∧c3≤c+350*i+70*p∧AQ≤c3)∧Wc bn (jy n d g) c3 z∧Gi n k a' r i p yy (jy n d g) z)∧Fr a 208 [(0,.int .i64 n),(1,.int .i64 k),(2,.slice cc nm oD),(15,pt K.tb),(16,pt fT),(17,.int .i64 AQ),(18,.int .i64 r),(19,pt fR),(21,.int .i64 i),(22,.int .i64 p)]∧U W w (aa fR 54 (k4 f)::aa fT 55 (gW yy)::TS W K bn c3 z::[])) (n) (⟨0,c2,lY,rF,u,⟨rfl,⟨by omega,by omega,by omega⟩,yv,hI⟩,E.ab [0,1,2,15,16,17,18,19,21,22],I⟩) ?_;clear E I;rintro μ a w ⟨p,c3,AQ,yy,z,⟨rfl,⟨hp,ag8,ag9⟩,D8,D9⟩,E,I⟩;refine IF 5 E I (λbO a E=>?_) λbO a E=>?_
      ·
       have AR:p<n:=by omega
       replace I:=I.pick (TS W K bn c3 z);obtain⟨tw0,Q5,ae7⟩:=D9.ae4 AR (by omega) eO (by omega) (by show 1≤((g:Int)).toNat;omega) ((i:Int)+(p:Int)) 0 0 0;refine CL 8 E I (yw (t:=⟨1,(p:Nat),(i:Int)+(p:Int),0⟩) I kB D8 (by omega)) λa w E I=>?_;refine CL 4 E I (yw (t:=⟨2,(p:Nat),0,0⟩) I kB D8.go (by omega)) λa w E I=>?_;refine RN 0 E I λa E=>?_;have Q6:=(D8.go (t:=⟨1,(p:Nat),(i:Int)+(p:Int),0⟩)).go (t:=⟨2,(p:Nat),0,0⟩);replace I:=I.pick (aa fR 54 (k4 f));replace I:U W w (aa fR 54 (k4 f)::aa fT 55 (gW yy)::TS W K bn (c3+10+10) (b0 bn ⟨2,(p:Nat),0,0⟩ (b0 bn ⟨1,(p:Nat),(i:Int)+(p:Int),0⟩ z))::[]):=I.sub;generalize b0 bn ⟨2,(p:Nat),0,0⟩ (b0 bn ⟨1,(p:Nat),(i:Int)+(p:Int),0⟩ z)=z1 at I Q6 Q5 ae7;clear D9;refine aL (λμ a w=>∃ (en oG:Nat) (mg tw:Nat→Nat→Nat) (x:Wd),(μ=x.net.length∧(en+10*x.net.length≤c+350*i+70*p+70∧oG≤en)∧Wc bn (jy n d g) en x∧Gm n k a' r i p mg tw (jy n d g) x)∧Fr a 208 [(0,.int .i64 n),(1,.int .i64 k),(2,.slice cc nm oD),(15,pt K.tb),(16,pt fT),(17,.int .i64 oG),(18,.int .i64 r),(19,pt fR),(21,.int .i64 i),(22,.int .i64 p)]∧U W w (aa fR 54 (k4 f)::aa fT 55 (gW mg)::TS W K bn en x::[])) (z1.net.length) (⟨_,AQ,yy,tw0,z1,⟨rfl,⟨by omega,by omega⟩,Q6,Q5⟩,E.ab [0,1,2,15,16,17,18,19,21,22],I⟩) ?_;clear E I;rintro μ a w ⟨en,oG,mg,tw,x,⟨rfl,⟨aha,ahb⟩,jZ,wC⟩,E,I⟩;refine RN 2 E I λa E=>?_;obtain⟨q4,rE,adP,adN,adE,cP,cN,cE,hT⟩:=TS.rd (I.pick (TS W K bn en x));refine RN 3 E I λa E=>?_;refine SS E (ae E (hT.t 2 _ rfl)) λa E=>?_;refine RN 1 E I λa E=>?_;replace E:=E.ek 105;refine RN 3 E I λa E=>?_;refine bA E (cv E rfl (s:=105)) (ae E (hT.t 0 _ rfl)) rfl λa E=>?_;refine RN 2 E I λa E=>?_;refine bA E (cv E rfl (s:=105)) (ae E (hT.d 2 _ rfl)) rfl λa E=>?_;refine IF 3 E I (λeL a E=>?_) λeL a E=>?_
       ·
        obtain⟨m,l,hm⟩:∃ m l,x.net=m::l:=by
         cases h:x.net with
         | nil=>have h9:=dJ List.length h;rw[length_nil]at h9;omega
         | cons m l=>exact⟨m,l,rfl⟩
        have wG:x.net[0]?=some m:=by rw[hm];rfl
        have mi:x.net.length=l.length+1:=by rw[hm,eV]
        obtain⟨⟨e1,e2,e3⟩,ia⟩:=wC.xS m (by rw[hm];exact iq);obtain⟨nP2,nE2,AK,AM,ahc,ahd,cP2,uK,cE2,ahe,pE,Ae,hRm⟩:=TS.Am (I.pick (TS W K bn en x)) wG;have hgm:=wC.s7.s5 m.1 m.2.1;refine RN 4 E I λa E=>?_;refine SS E (ae E (Ae.t 0 _ rfl)) λa E=>?_;refine RN 2 E I λa E=>?_;refine SS E (ae E (Ae.d 2 _ rfl)) λa E=>?_;refine RN 1 E I λa E=>?_;refine SS E (bT E yN rfl Ty.t60 (hRm)) λa E=>?_;refine AL 0 E I λxt a w E I=>?_;refine SA 0 E I λa w E I=>?_;refine bM 1 [16] [0,1,2,3,4,5,6,7,1008,9,10,11,12,13,15,20,21,3014,17,1016,18,1019,22,23,24] E I λa w E I hH hC=>?_;refine RH 5 E I hH hC λa E=>?_;refine E.by (s:=129) (λdt E=>?_) (λdt E=>?_)
        ·
         refine RH 2 E I hH hC λa E=>?_;have jo:oG<nm:=by omega
         have ae8:∃ AS AT,cc=some ⟨AS,AT,none⟩:=by
          rcases Q4 _ _ I with h9 | ⟨AS,AT,h1,_⟩
          ·omega
          ·exact⟨AS,AT,h1⟩
         obtain⟨AS,AT,yz⟩:=ae8;have gD:∀ w L,U W w L→Rd w AS AT (xs.map (.int .i64)):=λw L I=>by
          rcases Q4 w L I with h9 | ⟨b',o',h1,h2⟩
          ·omega
          ·rw[yz]at h1;cases h1;exact h2
         rw[yz]at E;have hq:xs[oG]?=some (xs[oG]'(by omega)):=aD _;generalize xs[oG]'(by omega)=q at hq;refine RH 1 E I hH hC λa E=>?_;refine bA E (cv E rfl (s:=129)) (ae E (gD _ _ I oG (.int .i64 q) (by rw[bd,hq];rfl))) rfl λa E=>?_;refine RH 4 E I hH hC λa E=>?_;refine E.by (s:=137) (λhJ E=>?_) (λhJ E=>?_)
         ·
          refine RH 8 E I hH hC λa E=>?_;refine bA E (cv E rfl (s:=137)) (ae E (by have h9:=(I.ai (b:=fT)) (m.1*8+m.2.1) _ (Ju (g:=mg) (x:=m.1) (y:=m.2.1) (by omega) (by omega));rw[ei]at h9;exact h9)) rfl λa E=>?_;refine RH 3 E I hH hC λa E=>?_;refine IF 6 E I (λmq a E=>?_) λmq a E=>?_
          ·
           refine bM 1 [3] [0,2,3001,4,8,1003,5,1006,7,9,1010] E I λa w E I hH hC=>?_;refine RH 7 E I hH hC λa E=>?_;refine SS E (ae E (by have h9:=(I.ai (b:=fT)) (m.1*8+m.2.1) _ (Ju (g:=mg) (x:=m.1) (y:=m.2.1) (by omega) (by omega));rw[ei]at h9;exact h9)) λa E=>?_;refine RH 2 E I hH hC λa E=>?_;refine ST 0 E I (λa w E I=>?_) (hlt:=(by rw[D5];omega));refine RN 0 E I λa E=>?_;rw[show ((gW mg).set (m.1*8+m.2.1) (Value.int .i64 ((mg m.1 m.2.1:Int)+1)))=gW (g7 mg m.1 m.2.1 (mg m.1 m.2.1+1)) from D6 (z:=mg m.1 m.2.1+1) (by omega) (by omega)]at I;replace I:=I.pick (TS W K bn en x);obtain⟨wD,oA⟩:=wC.drop hm (by omega) AR;refine CL 2 E I (yw (t:=⟨4,0,0,0⟩) I kB jZ (by omega)) λa w E I=>?_;refine RN 0 E I λa E=>?_
           (try rw[← yz]at E)
           exact⟨l.length,by omega,en+10,oG+1,_,_,_,⟨by rw[oA],⟨by rw[oA];omega,by omega⟩,jZ.go,wD⟩,E.ab [0,1,2,15,16,17,18,19,21,22],I.sub⟩
          refine bM 1 [3] [0,2,3001,4,1003,5,1006] E I λa w E I hH hC=>?_;refine RH 6 E I hH hC λa E=>?_;refine ST 0 E I (λa w E I=>?_) (hlt:=(by rw[D5];omega));refine RN 0 E I λa E=>?_;rw[show ((gW mg).set (m.1*8+m.2.1) (Value.int .i64 0))=gW (g7 mg m.1 m.2.1 0) from D6 (z:=0) (by omega) (by omega)]at I;replace I:=I.pick (TS W K bn en x);obtain⟨wD,oA⟩:=wC.send hm (by omega) AR;refine CL 2 E I (yw (t:=⟨3,0,0,0⟩) I kB jZ (by omega)) λa w E I=>?_;refine RN 0 E I λa E=>?_
          (try rw[← yz]at E)
          exact⟨l.length,by omega,en+10,oG+1,_,_,_,⟨by rw[oA],⟨by rw[oA];omega,by omega⟩,jZ.go,wD⟩,E.ab [0,1,2,15,16,17,18,19,21,22],I.sub⟩
         refine RH 12 E I hH hC λa E=>?_;refine bM 8 [3] [0,2,3001,4,1003,5,1006] E I λa w E I hH hC=>?_;refine RH 6 E I hH hC λa E=>?_;refine ST 0 E I (λa w E I=>?_) (hlt:=(by rw[D5];omega));refine RN 0 E I λa E=>?_;rw[show ((gW mg).set (m.1*8+m.2.1) (Value.int .i64 0))=gW (g7 mg m.1 m.2.1 0) from D6 (z:=0) (by omega) (by omega)]at I;replace I:=I.pick (TS W K bn en x);obtain⟨wD,oA⟩:=wC.send hm (by omega) AR;refine CL 2 E I (yw (t:=⟨3,0,0,0⟩) I kB jZ (by omega)) λa w E I=>?_;refine RN 0 E I λa E=>?_
         (try rw[← yz]at E)
         exact⟨l.length,by omega,en+10,oG+1,_,_,_,⟨by rw[oA],⟨by rw[oA];omega,by omega⟩,jZ.go,wD⟩,E.ab [0,1,2,15,16,17,18,19,21,22],I.sub⟩
        refine RH 20 E I hH hC λa E=>?_;refine bM 8 [3] [0,2,3001,4,1003,5,1006] E I λa w E I hH hC=>?_;refine RH 6 E I hH hC λa E=>?_;refine ST 0 E I (λa w E I=>?_) (hlt:=(by rw[D5];omega));refine RN 0 E I λa E=>?_;rw[show ((gW mg).set (m.1*8+m.2.1) (Value.int .i64 0))=gW (g7 mg m.1 m.2.1 0) from D6 (z:=0) (by omega) (by omega)]at I;replace I:=I.pick (TS W K bn en x);obtain⟨wD,oA⟩:=wC.send hm (by omega) AR;refine CL 2 E I (yw (t:=⟨3,0,0,0⟩) I kB jZ (by omega)) λa w E I=>?_;refine RN 0 E I λa E=>?_
        (try rw[← yz]at E)
        exact⟨l.length,by omega,en+10,oG+1,_,_,_,⟨by rw[oA],⟨by rw[oA];omega,by omega⟩,jZ.go,wD⟩,E.ab [0,1,2,15,16,17,18,19,21,22],I.sub⟩
       refine RN 3 E I λa E=>?_;have Ia:x.net=[]:=hs (by omega);exact⟨n-(p+1),by omega,p+1,en,oG,mg,x,⟨rfl,⟨by omega,by omega,by omega⟩,jZ,wC.done Ia⟩,E.ab [0,1,2,15,16,17,18,19,21,22],I⟩
      refine RN 3 E I λa E=>?_;rw[show p=n from by omega]at D9;exact⟨2*k+4-(i+1),by omega,i+1,c3,AQ,yy,z,⟨rfl,⟨by omega,by omega,by omega⟩,D8,D9.row⟩,E.ab [0,1,2,15,16,17,18,19,21],I⟩
     refine RN 0 E I λa E=>?_;rw[show i=2*k+4 from by omega]at hI;exact⟨c2,lY,rF,u,⟨by omega,BZ,yv,hI⟩,E.ab [0,1,2,15,16,17,18,19],I⟩
    clear E;(try clear I);rintro a w ⟨c2,lY,rF,u,⟨ay,BZ,yv,hI⟩,E,I⟩;refine RN 2 E I λa E=>?_;obtain⟨Q7,fe⟩:=hI.done (by omega);have mm:=Q7.len;obtain⟨M,V,jR,I⟩:=TS.view (I.pick (TS W K bn c2 u)) (by omega);refine aL (λμ a w=>∃ (j:Nat),(μ=n-j∧j≤n)∧Fr a 208 [(0,.int .i64 n),(1,.int .i64 k),(2,.slice cc nm oD),(15,pt K.tb),(16,pt fT),(17,.int .i64 lY),(18,.int .i64 r),(19,pt fR),(25,.int .i64 j)]∧U W w M) (n) (⟨0,⟨rfl,by omega⟩,E.ab [0,1,2,15,16,17,18,19,25],I⟩) ?_;clear E I;rintro μ a w ⟨j,⟨rfl,hj⟩,E,I⟩;refine IF 5 E I (λlX a E=>?_) λlX a E=>?_
    ·
     have dO:j<u.ps.length:=by omega
     obtain⟨y,hy,nT⟩:=jR.get j dO;have AP:=(yv.ok.pl j dO).1.wc;rw[← nT]at AP;have D7:=fe j (by omega);rw[← nT]at D7;have uN:=(jR.rd I hy).eq;have hfj:=hf j (by omega);refine aV 2 (λw0 w'=>U W w' M) [13,16] [0,1,2,7,14,15,3003,4,5,3006,8,3009,10,11,3012,3016,1013,17] E I λa w E I hH=>?_;have hC:=hH.at w I;refine RH 6 E I hH hC λa E=>?_;refine QH E (λw hc=>ae E ((jR.t hc) 0 _ rfl)) hC λa E=>?_;refine RH 2 E I hH hC λa E=>?_;refine QH E (λw hc=>ae E ((jR.d hc) 1 _ rfl)) hC λa E=>?_;refine RH 1 E I hH hC λa E=>?_;refine QH E (λw hc=>ae E (jR.ps hc hy)) hC λa E=>?_;refine RH 2 E I hH hC λa E=>?_;refine QH E (λw hc=>ae E ((jR.rd hc hy).pb 0 _ rfl)) hC λa E=>?_;refine QH E (λw hc=>ae E (by have h9:=((jR.back hc).ai (b:=fR)) j _ (QY (f:=f) (x:=j) (by omega));rw[ei]at h9;exact h9)) hC λa E=>?_;refine RH 0 E I hH hC λa E=>?_;refine CL 0 E I (D0 (A:=y.2.1) I AP uN λw' h=>⟨(jR.rd h hy).cb,(jR.rd h hy).ls⟩) λa w E I=>?_;replace hC:=hH.at w I;refine RH 1 E I hH hC λa E=>?_;rw[bu (by omega)]at E;refine RN 4 E I λa E=>?_;exact⟨n-(j+1),by omega,j+1,⟨rfl,by omega⟩,E.ab [0,1,2,15,16,17,18,19,25],I⟩
    refine RN 3 E I λa E=>?_;replace I:=jR.back I;exact⟨2-(r+1),by omega,r+1,c2,lY,rF,u,⟨rfl,⟨by omega,by omega,by omega⟩,hI.s7.s5,yv,Q7⟩,E.ab [0,1,2,15,16,17,18],I.sub⟩
   refine RN 0 E I λa E=>?_;exact⟨c,r,dh,v,⟨by omega,hc,ma⟩,E.ab [15],I⟩
  refine RN 6 E I λa E=>?_;exact⟨c,r,dh,v,⟨by omega,hc,ma⟩,E.ab [15],I⟩
 clear E;(try clear I);rintro a w ⟨c,r,dh,v,⟨kT,hc,ma⟩,E,I⟩;refine RN 1 E I λa E=>?_;obtain⟨q4,rE,adP,adN,adE,cP,cN,cE,hT⟩:=TS.rd (I.pick (TS W K bn c v));obtain⟨G,jf⟩:=ma.lK.j4;replace I:=I.pick (TS W K bn c v);refine RN 3 E I λa E=>?_;refine SS E (ae E (hT.t 2 _ rfl)) λa E=>?_;refine RN 1 E I λa E=>?_;replace E:=E.ek 201;refine RN 3 E I λa E=>?_;refine bA E (cv E rfl (s:=201)) (ae E (hT.t 0 _ rfl)) rfl λa E=>?_;refine CL 0 E I (ae1 I hc jf (by omega)) λa w E I=>?_;refine RT 2 E I ?_;exact⟨rfl,aeO tQ I⟩
end
section
set_option maxRecDepth 100000
theorem gv {x y:Bool}(h:x=true)(k:y=true):(x&&y)=true:=by rw[h,k];rfl
theorem ae9 {P:Program}{f:FuncId}{fn:Func}{s:ChangeSpec}{c:OpenClaim}(k1:c.wf (OpenSpec.ofChange s)=true)(k2:laidOutB P=true)(k3:mapsRowed P=true)(lB:fn.params.all (P.readableRec ·)=true)(zH:namedTie P c.named s.vars=true)
   (afa:(c.stops==[])=true) (afb:(P.stops==[])=true) (afc:(c.knobs==[])=true) (afd:(P.stopKnobs==[])=true) (JA:(c.inPlace==P.inPlace f)=true) (D2:(c.unfollowed==P.unfollowed f)=true) (JB:(c.recurses==P.recurses f)=true) (JC:(c.named==P.varsNamed f)=true)
   (k14:(c.maps==(fn.params.toList++s.plain.varTypes P).any (P.mapsRec ·))=true) (k15:(c.ifaces==(fn.params.toList++s.plain.varTypes P).any (P.ifacesRec ·))=true) (k16:(c.mapsOut==P.mapsAmong fn.resultTypes.toList)=true)
   (k17:(c.loops==(fn.params.toList++s.plain.varTypes P).any (P.loopsFrom ·))=true) (k18:(c.wideKeys==(fn.params.toList++s.plain.varTypes P++fn.resultTypes.toList).any (P.wideKeysFrom ·))=true) (k19:s.vars.all (P.varReadable ·)=true) (k20:fn.resultTypes.all (λt=>P.readableRec t&&decide (t<P.types.size))=true)
   (k21:(c.ifacesOut==fn.resultTypes.toList.any (P.ifacesRec ·))=true) (k22:(c.loopsOut==fn.resultTypes.toList.any (P.loopsFrom ·))=true) (k23:(c.plainKeys==P.plainKeys)=true) (k24:c.shortTexts.isNone=true) (k25:P.stopsHeard=true) (k26:P.mayEnter=true) (k27:(c.lifted==P.liftsFinal)=true) (k28:(P.make==some c.make)=true)
   (k29:(c.kinds==(if c.domain.isEmpty then [] else fn.params.toList.map λt=>match P.underlying t with | some (.int k)=>some k | _=>none))=true) (k30:(c.pinned==c.pinnedBy)=true) (k31:(c.veiled==(fn.params.toList++s.plain.varTypes P++fn.resultTypes.toList).any (P.veiledRec ·))=true) (k32:c.veiledFits P fn.params.toList (fn.params.toList++s.plain.varTypes P++fn.resultTypes.toList)=true):joinedFacts P f fn s c=true:=by
 unfold joinedFacts;exact gv (gv (gv (gv (gv (gv (gv (gv (gv (gv (gv (gv (gv (gv (gv (gv (gv (gv (gv (gv (gv (gv (gv (gv (gv (gv (gv (gv (gv (gv (gv k1 k2) k3) lB) zH) afa) afb) afc) afd) JA) D2) JB) JC) k14) k15) k16) k17) k18) k19) k20) k21) k22) k23) k24) k25) k26) k27) k28) k29) k30) k31) k32
theorem Q8:laidOutB Tryz.prog=true:=by kernel_rfl
theorem afe:mapsRowed Tryz.prog=true:=by kernel_rfl
theorem aff:Tryz.prog.stopsHeard=true:=by kernel_rfl
theorem afg:Tryz.prog.mayEnter=true:=by kernel_rfl
theorem afh (c:OpenClaim)(h:c.plainKeys=Rows.matchNoneRow.plainKeys):(c.plainKeys==Tryz.prog.plainKeys)=true:=by
 rw[h];kernel_rfl
theorem afi (c:OpenClaim)(h:c.lifted=Rows.matchNoneRow.lifted):(c.lifted==Tryz.prog.liftsFinal)=true:=by
 rw[h];kernel_rfl
theorem afj (c:OpenClaim)(h:c.make=Rows.matchNoneRow.make):(Tryz.prog.make==some c.make)=true:=by
 rw[h];kernel_rfl
end
end Go.Proofs.YteoldcfapaiobaaGreat
