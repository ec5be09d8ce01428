/- The document's players: what can be read of all of them. -/
import Derived.Test.YteoldcfapaiobaaGreatH16HonW
import Derived.Test.YteoldcfapaiobaaGreatH13RefC
import Derived.Test.YteoldcfapaiobaaGreatH14RefG
import Derived.Test.YteoldcfapaiobaaGreatH15ArgC
import Derived.Test.YteoldcfapaiobaaGreatRows
import Derived.KernelRfl
import Derived.JoinedOf
namespace Go.Proofs.YteoldcfapaiobaaGreat
open List (map_cons getElem?_range not_mem_nil)
open Go.RowKit
set_option linter.unusedVariables false
set_option linter.unusedSimpArgs false
set_option maxRecDepth 10000
set_option synthInstance.maxSize 4000
set_option synthInstance.maxHeartbeats 400000
section
abbrev sH:=(gf×Pl)×(mY×List ef)
def kU (W:World)(p:Pr)(y:sH):SP:=λh=>bk y.2.2=y.1.2.k.ls∧cp [aa y.1.1.pb 51 (e4 p y.1.1 y.1.2.g),aa y.1.1.core.cb 72 (cU y.1.2.k y.1.1.core y.2.1),Sl 65 1 (some ⟨y.1.1.core.lb,y.1.1.core.lo,none⟩) y.1.2.k.ls.length y.1.1.core.cL (y.2.2.map aM),ah ba y.2.2,
 aa y.1.1.core.hb 3 (fe y.1.2.k.ps),aa y.1.1.core.ec 3 (e0 y.1.2.k.ps),aa y.1.1.core.wb 313 (rows fg y.1.2.k.ps),aa y.1.1.core.xb 4 (ff y.1.2.k.ps),Sl 100 1 y.2.1.ch y.1.2.k.mr.length y.2.1.cM (c0 y.1.2.k.mr),Sl 102 3 y.2.1.adE y.1.2.k.ev.length y.2.1.cE (rows bZ y.1.2.k.ev),az W p y.1.1.an y.1.1.cO] h
structure Db (w:World)(p:Pr)(y:sH):Prop where
 pb:Rd w y.1.1.pb 0 (e4 p y.1.1 y.1.2.g)
 cb:Rd w y.1.1.core.cb 0 (cU y.1.2.k y.1.1.core y.2.1)
 ls:iH w (some ⟨y.1.1.core.lb,y.1.1.core.lo,none⟩) y.2.2
 eq:bk y.2.2=y.1.2.k.ls
 mr:0<y.1.2.k.mr.length→∃ b o,y.2.1.ch=some ⟨b,o,none⟩∧Rd w b o (c0 y.1.2.k.mr)
section
variable {W w:World}{L:List SP}{n i:Nat}{p:Pr}{xs:List (gf×Pl)}{ys:List sH}{y:sH}{k:Ks}{C:n4}{A:mY}{xl:List ef}
theorem adJ {x:gf×Pl}(I:U W w (dm W p x::L)):∃ z,U W w (kU W p (x,z)::L):=by
 replace I:U W w (b9 W x.1 p x.2::L):=I;obtain⟨A,I⟩:=a2.open ((b9.open I).pick (a2 x.1.core x.2.k));obtain⟨xl,b0,I⟩:=bP.open (I.pick (bP x.1.core.lb x.1.core.lo x.1.core.cL x.2.k.ls));refine⟨(A,xl),U.shut (M:=[_,_,_,_,_,_,_,_,_,_,_]) (I.sub (M:=aa x.1.pb 51 (e4 p x.1 x.2.g)::aa x.1.core.cb 72 (cU x.2.k x.1.core A)::Sl 65 1 (some ⟨x.1.core.lb,x.1.core.lo,none⟩) x.2.k.ls.length x.1.core.cL (xl.map aM)::ah ba xl::aa x.1.core.hb 3 (fe x.2.k.ps)::aa x.1.core.ec 3 (e0 x.2.k.ps)::aa x.1.core.wb 313 (rows fg x.2.k.ps)::aa x.1.core.xb 4 (ff x.2.k.ps)::Sl 100 1 A.ch x.2.k.mr.length A.cM (c0 x.2.k.mr)::Sl 102 3 A.adE x.2.k.ev.length A.cE (rows bZ x.2.k.ev)::az W p x.1.an x.1.cO::L)) λ_ h=>⟨b0,h⟩⟩
theorem kU.open (I:U W w (kU W p y::L)):bk y.2.2=y.1.2.k.ls∧U W w (aa y.1.1.pb 51 (e4 p y.1.1 y.1.2.g)::aa y.1.1.core.cb 72 (cU y.1.2.k y.1.1.core y.2.1)::Sl 65 1 (some ⟨y.1.1.core.lb,y.1.1.core.lo,none⟩) y.1.2.k.ls.length y.1.1.core.cL (y.2.2.map aM)::ah ba y.2.2 ::
 aa y.1.1.core.hb 3 (fe y.1.2.k.ps)::aa y.1.1.core.ec 3 (e0 y.1.2.k.ps)::aa y.1.1.core.wb 313 (rows fg y.1.2.k.ps)::aa y.1.1.core.xb 4 (ff y.1.2.k.ps)::Sl 100 1 y.2.1.ch y.1.2.k.mr.length y.2.1.cM (c0 y.1.2.k.mr)::Sl 102 3 y.2.1.adE y.1.2.k.ev.length y.2.1.cE (rows bZ y.1.2.k.ev)::az W p y.1.1.an y.1.1.cO::L) :=
 ⟨I.tell λ_ h=>h.1,I.open (M:=[_,_,_,_,_,_,_,_,_,_,_]) λ_ h=>h.2⟩
theorem adK (I:U W w (kU W p y::L)):U W w (dm W p y.1::L):=by
 obtain⟨b0,I⟩:=kU.open I;replace I:=bP.close ((I.pick (ah ba y.2.2)).pick (Sl 65 1 (some ⟨y.1.1.core.lb,y.1.1.core.lo,none⟩) y.1.2.k.ls.length y.1.1.core.cL (y.2.2.map aM))) b0;replace I:=a2.fold I y.1.1.core y.1.2.k y.2.1;exact b9.fold I y.1.1 p y.1.2
theorem HY:∀ {xs:List (gf×Pl)} {L:List SP},U W w (ah (dm W p) xs::L)→∃ ys:List sH,ys.map (·.1)=xs∧U W w (ah (kU W p) ys::L)
 | [],_,I=>⟨[],rfl,U.iZ I.tail⟩
 | x::xs,L,I=>by
  have h1:U W w (dm W p x::ah (dm W p) xs::L):=U.fo (l:=x::xs) (i:=0) I (by simp);obtain⟨z,h2⟩:=adJ h1;obtain⟨ys,h3,h4⟩:=HY (h2.pick (ah (dm W p) xs));exact⟨(x,z)::ys,by rw[map_cons,h3],U.we (h4.pick (kU W p (x,z)))⟩
theorem HZ:∀ {ys:List sH} {L:List SP},U W w (ah (kU W p) ys::L)→U W w (ah (dm W p) (ys.map (·.1))::L)
 | [],_,I=>U.iZ I.tail
 | y::ys,L,I=>by
  have h1:U W w (kU W p y::ah (kU W p) ys::L):=U.fo (l:=y::ys) (i:=0) I (by simp);have h2:=HZ ((adK h1).pick (ah (kU W p) ys));exact U.we (h2.pick (dm W p y.1))
theorem H0 (I:U W w (ah (kU W p) ys::L))(hy:ys[i]?=some y):Db w p y:=by
 obtain⟨hi,h1⟩:=aZ.1 hy;replace I:=I.fo hi;rw[h1]at I;obtain⟨h2,I⟩:=kU.open I;refine⟨I.ai (b:=y.1.1.pb),I.ai (b:=y.1.1.core.cb),?_,h2,λh0=>?_⟩
 ·exact U.o9 ((I.pick (ah ba y.2.2)).pick (Sl 65 1 (some ⟨y.1.1.core.lb,y.1.1.core.lo,none⟩) y.1.2.k.ls.length y.1.1.core.cL (y.2.2.map aM)))
 ·exact (I.pick (Sl 100 1 y.2.1.ch y.1.2.k.mr.length y.2.1.cM (c0 y.1.2.k.mr))).bY y.2.1.ch h0
theorem Ps (I:U W w L)(hk:WC k)(b0:bk xl=k.ls)(hp:∀ V,U W V L→Rd V C.cb 0 (cU k C A)∧iH V (some ⟨C.lb,C.lo,none⟩) xl) :
   Calls Tryz.prog 19 #[pt C.cb] w λr V=>r=.returned (.int .i64 (aw k))∧U W V L:=by
 have hn:=hk.n;have eD:=hk.ls;have g5:k.ls.length=xl.length:=by rw[← b0,gn]
 refine EN Tryz.func19 Tryz.ntmps19 rfl rfl λa E=>?_;refine RN 6 E I λa E=>?_;refine SS E (ae E ((hp _ I).1 10 _ rfl)) λa E=>?_;rw[g5]at E;refine CL 0 E I (Cm (xs:=xl) I (by omega) (by omega) (λV hw=>(hp V hw).2)) λa w E I=>?_;rw[b0]at E;refine RT 1 E I ?_;exact⟨rfl,I⟩
end
end
section
section
variable {W w:World}{L:List SP}{c i:Nat}{p:Pr}{v:Wd}{B:jH}{D:oc}{t:fB}{cf:Cf}{tb:List UInt8}{jJ:Bool}
instance fT.isNil (z:fT):uj z.mul (!z.zW):=⟨by
 cases z with
 | mu M=>exact .inr ⟨⟨_,rfl⟩,rfl⟩
 | pl B=>exact .inl ⟨rfl,rfl⟩⟩
theorem fT.adM {z:fT}(h:z.zW=true):∃ M,z=.mu M:=by
 cases z with
 | mu M=>exact⟨M,rfl⟩
 | pl B=>cases h
theorem adO {adL adE iA:Option Addr}{cL cE iB:Nat}{xs:List (fJ×Pl)}{es:List ko}{l:List kj}(I:U W w (aa B.mb 107 [.slice adL xs.length cL,pt B.q,.slice adE es.length cE]::Sl 81 1 adL xs.length cL (xs.map cC)::Sl 90 1 adE es.length cE (es.map bw)::ah eN es::L))(hi:i<xs.length)(ly:es[i]?=some (iA,iB,l))(hl:l.length≤1000000000) :
   Calls Tryz.prog 34 #[pt B.mb,.int .i64 i] w λe V=>∃ ad c',e=.returned (.slice ad l.length c')∧U W V (Sl 135 1 ad l.length c' (l.map cz)::aa B.mb 107 [.slice adL xs.length cL,pt B.q,.slice adE es.length cE]::Sl 81 1 adL xs.length cL (xs.map cC)::Sl 90 1 adE es.length cE (es.map bw)::ah eN es::L):=by
 obtain⟨xO,pg⟩:=aZ.1 ly;refine EN Tryz.func34 Tryz.ntmps34 rfl rfl λa E=>?_;refine CL 6 E I (sB I hi) λa w E I=>?_;refine RN 1 E I λa E=>?_;replace E:=E.aK 8;refine RN 2 E I λa E=>?_;obtain⟨iV,oE,rfl,ia⟩:=(I.pick (Sl 90 1 adE es.length cE (es.map bw))).bY adE (by omega);have l9:=ia i (.slice iA l.length iB) (by rw[bm,ly];rfl);refine RN 6 E I λa E=>?_;refine SS E (ae E (l9)) λa E=>?_;replace I:=(I.pick (ah eN es)).fo xO;rw[pg]at I;change U W w (Sl 135 1 iA l.length iB (l.map cz)::_) at I;refine aX 0 E I (OE I hl) λad2 c2 a w E I=>?_;refine RT 1 E I ?_;refine⟨ad2,c2,rfl,?_⟩;have h4:=(I.pick (ah eN (es.eraseIdx i))).pick (Sl 135 1 iA l.length iB (l.map cz));have h5:U W w (ah eN es::_):=U.xI (f:=eN) xO (by rw[pg];exact h4);exact h5.sub
theorem H2 {xs:List (fJ×Pl)}{x:fJ}{s:Pl}(I:U W w (x.J W p c s::ah (cA W p c) (xs.eraseIdx i)::L))(hx:xs[i]?=some (x,s)):U W w (ah (cA W p c) xs::L):=by
 obtain⟨hi,h1⟩:=aZ.1 hx;refine U.xI hi ?_;rw[h1];exact I
set_option maxHeartbeats 2000000 in
theorem adQ (I:U W w (aR W B p c v::bK W D p v::L))(xP:D.mb=B.mb)(hB:B.Ok p c)(hv:bB p cf c v)(hP:vK B.fC cf tb jJ v.ps.length)(sr:Da W D.mZ cf tb)(fI:cY ⟨cf.a8,cf.order,tb⟩)(ka:9*c+100≤1000000000) :
   Calls Tryz.prog 33 #[pt D.wb] w λe V=>e=.returned (.bool true)∧U W V (aR W B p c v::bK W D p v::L):=by
 replace I:=aR.xL I;obtain⟨adL,cL,adE,cE,xs,es,⟨eH,da,eK⟩,I⟩:=I;replace I:=bK.open (I.pick (bK W D p v));obtain⟨adP,cP,adN,cN,iW,iC,rs,fs,⟨ib,kE,nC⟩,I⟩:=I;rw[xP]at I;obtain⟨ys,lY,iS,I⟩:=bU.open (I.pick (bU 60 adN v.net.length cN v.net));have b0:xs.length=v.ps.length:=by rw[← da,bf]
 have ia:rs.length=v.ps.length:=by rw[← kE,bf]
 have oe:ys.length=v.net.length:=by rw[← lY,bf]
 have oM:=hv.net.1;have adw:es.length=v.ps.length:=by rw[← hv.ev,← eK,bf]
 have ago:fs.length=v.ps.length:=by rw[← hv.ev,← nC,bf]
 have OL:=hv.ev;have xz:=hv.len;replace I:U W w (aa B.mb 107 [.slice adL xs.length cL,pt B.q,.slice adE es.length cE]::Sl 81 1 adL xs.length cL (xs.map cC)::ah (cA W p c) xs::bN B.q (v.net.map cR)::Sl 90 1 adE es.length cE (es.map bw)::ah eN es::aa D.wb 40 [pt B.mb,.slice adP rs.length cP,.slice adN v.net.length cN,.slice iW fs.length iC]::Sl 34 1 adP rs.length cP (rs.map dM)::ah (dm W p) rs::Sl 60 3 adN v.net.length cN (rows bJ ys)::ah bS ys::Sl 70 1 iW fs.length iC (fs.map bw)::ah fj fs::L):=I.sub;refine EN Tryz.func33 Tryz.ntmps33 rfl rfl λa E=>?_;refine a1 4 (λw0 V=>Rd V D.wb 0 [pt B.mb,.slice adP rs.length cP,.slice adN v.net.length cN,.slice iW fs.length iC]) [4,5,9,10] [0,1,2,6,7,8,3003,3009,3010,1004,1005,11] E I λa w E I hH=>?_;have hC:=hH.at w (I.ai (b:=D.wb));refine RH 6 E I hH hC λa E=>?_;refine QH E (λw hc=>ae E (hc 0 _ rfl)) hC λa E=>?_;refine QH E (λw hc=>ae E (hc 2 _ rfl)) hC λa E=>?_;refine RH 1 E I hH hC λa E=>?_;refine CL 0 E I (CP (I.pick (aa B.mb 107 [.slice adL xs.length cL,pt B.q,.slice adE es.length cE]))) λa w E I=>?_;replace hC:=hH.at w (I.ai (b:=D.wb));refine RH 0 E I hH hC λa E=>?_;refine CL 0 E I (Og (I.pick (bN B.q (v.net.map cR)))) λa w E I=>?_;replace hC:=hH.at w (I.ai (b:=D.wb));rw[bf]at E;refine RH 1 E I hH hC λa E=>?_;rw[bn (by simp)]at E;refine RN 4 E I λa E=>?_;refine aQ (λμ a w=>∃ (i:Nat),(μ=v.net.length-i∧i≤v.net.length)∧Fr a 150 [(0,pt D.wb),(3,.int .i64 i)]∧U W w (aa B.mb 107 [.slice adL xs.length cL,pt B.q,.slice adE es.length cE]::Sl 81 1 adL xs.length cL (xs.map cC)::ah (cA W p c) xs::bN B.q (v.net.map cR)::Sl 90 1 adE es.length cE (es.map bw)::ah eN es::aa D.wb 40 [pt B.mb,.slice adP rs.length cP,.slice adN v.net.length cN,.slice iW fs.length iC]::Sl 34 1 adP rs.length cP (rs.map dM)::ah (dm W p) rs::Sl 60 3 adN v.net.length cN (rows bJ ys)::ah bS ys::Sl 70 1 iW fs.length iC (fs.map bw)::ah fj fs::L)) (v.net.length) (⟨0,⟨rfl,by omega⟩,E.ab [0,3],I.sub⟩) ?_;clear E I;rintro μ a w ⟨i,⟨rfl,hi⟩,E,I⟩;refine IF 9 E I (λao a E=>?_) λao a E=>?_
 ·
  have aF:i<v.net.length:=by omega
  obtain⟨y,hy,adR⟩:∃ y,ys[i]?=some y∧v.net[i]?=some y.2.2:=by
   refine⟨_,aD (by omega),?_⟩;rw[← lY,bm,aD (by omega)];rfl
  obtain⟨bC,on,rfl,_⟩:=(I.pick (Sl 60 3 adN v.net.length cN (rows bJ ys))).bY adN (by omega);refine CL 6 E I (CP (I.pick (aa B.mb 107 [.slice adL xs.length cL,pt B.q,.slice adE es.length cE]))) λa w E I=>?_;refine aX 1 E I (HJ (I.pick (bN B.q (v.net.map cR))) adR) λam jI a w E I=>?_;refine AL 3 E I λb4 a w E I=>?_;refine SA 0 E I λa w E I=>?_;refine a1 2 (λw0 V=>(Rd V b4 0 [.int .i64 y.2.2.1,.int .i64 y.2.2.2.1,.slice am y.2.2.2.2.length jI]∧Rd V D.wb 0 [pt B.mb,.slice adP rs.length cP,.slice (some ⟨bC,on,none⟩) v.net.length cN,.slice iW fs.length iC])∧Rd V bC (on+i*3) (bJ y)∧aL V am y.2.2.2.2.length y.2.2.2.2∧aL V y.1 y.2.2.2.2.length y.2.2.2.2) [8,10,11,12,21,23,24,25,35,37,38,39,40] [0,1,2,3,5,6,7,9,3004,1008,1010,1011,1012,13,14,15,16,18,19,20,22,3017,1021,1023,1024,1025,26,27,28,29,32,33,34,36,3030,3031,1035,1037,1038,1039,1040,41,42] E I λa w E I hH=>?_;have hC:=hH.at w ⟨⟨I.ai (b:=b4),I.ai (b:=D.wb)⟩,g8 nz (I.cJ bC on (by omega)) hy,I.cr am _ rfl rfl,HW (I.pick (ah bS ys)) hy⟩;refine RH 3 E I hH hC λa E=>?_;replace E:=E.aK 41;refine RH 5 E I hH hC λa E=>?_;refine QH E (λw hc=>ae E (hc.1.1 0 _ rfl)) hC λa E=>?_;refine RH 0 E I hH hC λa E=>?_;refine bu E (cu E rfl (s:=41)) (ae E (hC.1.2 2 _ rfl)) rfl λa E=>?_;refine RH 2 E I hH hC λa E=>?_;refine bu E (cu E rfl (s:=41)) (ae E (hC.2.1 0 _ rfl)) rfl λa E=>?_;refine RH 3 E I hH hC λa E=>?_;rw[bn (by omega)]at E;refine RH 5 E I hH hC λa E=>?_;refine QH E (λw hc=>ae E (hc.1.1 1 _ rfl)) hC λa E=>?_;refine RH 0 E I hH hC λa E=>?_;refine bu E (cu E rfl (s:=54)) (ae E (hC.1.2 2 _ rfl)) rfl λa E=>?_;refine RH 2 E I hH hC λa E=>?_;refine bu E (cu E rfl (s:=54)) (ae E (hC.2.1 1 _ rfl)) rfl λa E=>?_;refine RH 3 E I hH hC λa E=>?_;rw[bn (by omega)]at E;refine RH 5 E I hH hC λa E=>?_;refine QH E (λw hc=>ae E (hc.1.1 2 _ rfl)) hC λa E=>?_;refine QH E (λw hc=>ky E Tryz.underlying22 Tryz.underlying5 Tryz.underlying9 (hc.2.2.1)) hC λa E=>?_;refine RH 0 E I hH hC λa E=>?_;refine bu E (cu E rfl (s:=67)) (ae E (hC.1.2 2 _ rfl)) rfl λa E=>?_;refine RH 2 E I hH hC λa E=>?_;refine bu E (cu E rfl (s:=67)) (ae E (hC.2.1 2 _ rfl)) rfl λa E=>?_;refine RH 0 E I hH hC λa E=>?_;refine bu E (cu E rfl (s:=67)) (ky E Tryz.underlying22 Tryz.underlying5 Tryz.underlying9 (hC.2.2.2)) rfl λa E=>?_;refine RH 0 E I hH hC λa E=>?_;refine QP E (λw=>Fc E) λa E=>?_;rw[pC,beq_self_eq_true,Bool.not_true]at E;refine RH 1 E I hH hC λa E=>?_;replace E:=E.aK 81;refine RN 4 E I λa E=>?_;exact⟨v.net.length-(i+1),by omega,i+1,⟨rfl,by omega⟩,E.ab [0,3],I.sub⟩
 refine RN 3 E I λa E=>?_;refine aQ (λμ a w=>∃ (i:Nat),(μ=v.ps.length-i∧i≤v.ps.length)∧Fr a 150 [(0,pt D.wb),(6,.int .i64 i)]∧U W w (aa B.mb 107 [.slice adL xs.length cL,pt B.q,.slice adE es.length cE]::Sl 81 1 adL xs.length cL (xs.map cC)::ah (cA W p c) xs::bN B.q (v.net.map cR)::Sl 90 1 adE es.length cE (es.map bw)::ah eN es::aa D.wb 40 [pt B.mb,.slice adP rs.length cP,.slice adN v.net.length cN,.slice iW fs.length iC]::Sl 34 1 adP rs.length cP (rs.map dM)::ah (dm W p) rs::Sl 60 3 adN v.net.length cN (rows bJ ys)::ah bS ys::Sl 70 1 iW fs.length iC (fs.map bw)::ah fj fs::L)) (v.ps.length) (⟨0,⟨rfl,by omega⟩,E.ab [0,6],I.sub⟩) ?_;clear E I;rintro μ a w ⟨i,⟨rfl,hi⟩,E,I⟩;refine IF 9 E I (λbj a E=>?_) λbj a E=>?_
 ·
  have aF:i<v.ps.length:=by omega
  obtain⟨x,hx,pf⟩:∃ x,xs[i]?=some (x,aq v i)∧B.fC[i]?=some x:=HL eH da (by omega);obtain⟨_,gX⟩:=aZ.1 hx;obtain⟨r,hr⟩:∃ r,rs[i]?=some (r,aq v i):=C1 kE (by omega);have uc:(rs.map dM)[i]?=some (pt r.pb):=by rw[bm,hr];rfl
  have lS:r∈D.mZ:=by rw[← ib];exact cV.2 ⟨_,bH hr,rfl⟩
  obtain⟨H3,rU⟩:=sr r lS;have hxG:=hP.2 x (bH pf);have hM:=x.qU (W:=W) (p:=p) hB.pr hB.sz (hB.gs x (bH pf));obtain⟨hw,dd,xK⟩:=hv.pl i aF;have ng:=hB.c;obtain⟨iA,iB,l,ly⟩:∃ iA iB l,es[i]?=some (iA,iB,l):=⟨_,_,_,aD (by omega)⟩;obtain⟨xO,pg⟩:=aZ.1 ly;have qT:v.ev.getD i []=l:=by rw[← eK,bl,bm,ly];rfl
  obtain⟨z6,z7,oY⟩:∃ z6 z7,fs[i]?=some (z6,z7,l):=by
   have h1:(fs.map (·.2.2))[i]?=some l:=by rw[nC,← qT,bl,aD (by omega)];rfl
   rw[bm,aD (by omega)]at h1;refine⟨fs[i].1,fs[i].2.1,?_⟩;rw[aD (by omega),← nX h1]
  obtain⟨xn,Pt⟩:=aZ.1 oY;obtain⟨g5,hlo⟩:=hv.kQ l (by rw[← qT];exact xG (by omega));have hV:l.length≤1000000000:=by omega
  obtain⟨bp,op,rfl,_⟩:=(I.pick (Sl 34 1 adP rs.length cP (rs.map dM))).bY adP (by omega);obtain⟨jl,oF,rfl,_⟩:=(I.pick (Sl 70 1 iW fs.length iC (fs.map bw))).bY iW (by omega);refine a1 3 (λw0 V=>(Rd V D.wb 0 [pt B.mb,.slice (some ⟨bp,op,none⟩) rs.length cP,.slice adN v.net.length cN,.slice (some ⟨jl,oF,none⟩) fs.length iC]∧Rd V bp op (rs.map dM))∧Rd V jl oF (fs.map bw)) [5,9,11,12,21,22,26,28,29] [0,1,2,4,6,7,8,10,3003,3009,3011,3012,1005,1013,14,15,16,17,18,20,23,24,25,27,3019,3026,3028,3029,1021,1022,1030,31,32] E I λa w E I hH=>?_;have hC:=hH.at w ⟨⟨I.ai (b:=D.wb),I.cJ bp op (by omega)⟩,I.cJ jl oF (by omega)⟩;refine RH 8 E I hH hC λa E=>?_;refine QH E (λw hc=>ae E (hc.1.1 0 _ rfl)) hC λa E=>?_;refine QH E (λw hc=>ae E (hc.1.1 1 _ rfl)) hC λa E=>?_;refine RH 1 E I hH hC λa E=>?_;refine QH E (λw hc=>ae E (hc.1.2 i _ uc)) hC λa E=>?_;refine RH 0 E I hH hC λa E=>?_;refine CL 0 E I (sB ((I.pick (Sl 81 1 adL xs.length cL (xs.map cC))).pick (aa B.mb 107 [.slice adL xs.length cL,pt B.q,.slice adE es.length cE])) (by omega)) λa w E I=>?_;replace hC:=hH.at w ⟨⟨I.ai (b:=D.wb),I.cJ bp op (by omega)⟩,I.cJ jl oF (by omega)⟩;rw[show cC xs[i]=.iface x.z.t (.pointer (some x.z.ad)) from by rw[gX]]at E;replace I:=C3 (I.pick (ah (dm W p) rs)) hr;replace I:=CU (I.pick (ah (cA W p c) xs)) hx;refine RH 0 E I hH hC λa E=>?_;refine CL 0 E I (abY hM (by omega) ((I.pick (b9 W r p (aq v i))).pick (x.J W p c (aq v i))) hw hB.pr hB.sz (by rw[H3];exact fI) (by rw[H3,hxG.1]) (by rw[H3];exact rU)) λa w E I=>?_;replace hC:=hH.at w ⟨⟨I.ai (b:=D.wb),I.cJ bp op (by omega)⟩,I.cJ jl oF (by omega)⟩;replace I:=H2 ((I.pick (ah (cA W p c) (xs.eraseIdx i))).pick (x.J W p c (aq v i))) hx;replace I:=C4 ((I.pick (ah (dm W p) (rs.eraseIdx i))).pick (b9 W r p (aq v i))) hr;refine RH 2 E I hH hC λa E=>?_;replace E:=E.aK 106;refine RH 8 E I hH hC λa E=>?_;refine QH E (λw hc=>ae E (hc.1.1 0 _ rfl)) hC λa E=>?_;refine QH E (λw hc=>ae E (hc.1.1 3 _ rfl)) hC λa E=>?_;refine RH 1 E I hH hC λa E=>?_;refine QH E (λw hc=>ae E (hc.2 i (.slice z6 l.length z7) (by rw[bm,oY];rfl))) hC λa E=>?_;replace I:=I.sub (M:=aa B.mb 107 [.slice adL xs.length cL,pt B.q,.slice adE es.length cE]::Sl 81 1 adL xs.length cL (xs.map cC)::Sl 90 1 adE es.length cE (es.map bw)::ah eN es::ah (dm W p) rs::ah (cA W p c) xs::bN B.q (v.net.map cR)::aa D.wb 40 [pt B.mb,.slice (some ⟨bp,op,none⟩) rs.length cP,.slice adN v.net.length cN,.slice (some ⟨jl,oF,none⟩) fs.length iC]::Sl 34 1 (some ⟨bp,op,none⟩) rs.length cP (rs.map dM)::Sl 60 3 adN v.net.length cN (rows bJ ys)::ah bS ys::Sl 70 1 (some ⟨jl,oF,none⟩) fs.length iC (fs.map bw)::ah fj fs::L);refine RH 0 E I hH hC λa E=>?_;refine aX 0 E I (adO I (by omega) ly hV) λlM dD a w E I=>?_;replace hC:=hH.at w ⟨⟨I.ai (b:=D.wb),I.cJ bp op (by omega)⟩,I.cJ jl oF (by omega)⟩;refine RH 0 E I hH hC λa E=>?_;refine aX 0 E I (adG I hV hlo) λad2 c2 a w E I=>?_;replace hC:=hH.at w ⟨⟨I.ai (b:=D.wb),I.cJ bp op (by omega)⟩,I.cJ jl oF (by omega)⟩;replace I:=(I.pick (ah fj fs)).fo xn;rw[Pt]at I;change U W w (Sl 102 3 z6 l.length z7 (rows bZ l)::_) at I;refine RH 0 E I hH hC λa E=>?_;refine CL 0 E I (adH (I.pick (Sl 102 3 ad2 l.length c2 (rows bZ l))) hV) λa w E I=>?_;have vD:U W w (ah fj fs::_):=U.xI (f:=fj) xn (by rw[Pt];exact ((I.pick (ah fj (fs.eraseIdx i))).pick (Sl 102 3 z6 l.length z7 (rows bZ l))));replace I:=vD;clear vD;refine RN 2 E I λa E=>?_;replace E:=E.aK 123;refine CL 7 E I (HH ((I.pick (Sl 81 1 adL xs.length cL (xs.map cC))).pick (aa B.mb 107 [.slice adL xs.length cL,pt B.q,.slice adE es.length cE])) (by omega)) λa w E I=>?_;rw[show xs[i].1.z.mul=x.z.mul from by rw[gX]]at E;refine BY 5 E I (λbA a E=>?_) λbA a E=>?_
  ·
   obtain⟨M,Pu⟩:∃ M,x.z=.mu M:=fT.adM (by simpa using bA);have Pv:x.J W p c (aq v i)=fw W M p x.cf c (aq v i):=by unfold fJ.J;rw[Pu]
   have adS:fu (aq v i).k=x.cf:=by
    have h1:(B.fC.map (·.cf))[i]?=some x.cf:=by rw[bm,pf];rfl
    rw[hP.1,bm,getElem?_range aF]at h1;rw[dd];exact nX h1
   replace I:=CU (I.pick (ah (cA W p c) xs)) hx;rw[Pv]at I;obtain⟨zs,tL,I⟩:=HY (I.pick (ah (dm W p) rs));obtain⟨z,hz,xT⟩:∃ z,zs[i]?=some z∧z.1=(r,aq v i):=by
    rw[← tL,bm]at hr;cases h1:zs[i]? with
    | none=>rw[h1]at hr;cases hr
    | some z=>rw[h1]at hr;exact⟨z,rfl,nX hr⟩
   rw[show x.z.mul=pt M.mb from by rw[Pu];rfl]at E;refine RN 7 E I λa E=>?_;refine bu E (cu E rfl (s:=132)) (ae E ((I.cJ bp op (by omega)) i _ uc)) rfl λa E=>?_;refine RN 2 E I λa E=>?_;refine bu E (cu E rfl (s:=132)) (ae E (by have h9:=(H0 (I.pick (ah (kU W p) zs)) hz).pb 0 _ rfl;rw[xT]at h9;exact h9)) rfl λa E=>?_;refine RN 2 E I λa E=>?_;refine bu E (cu E rfl (s:=132)) (bQ E Tryz.underlying28 rfl Ty.t28 (by have h9:=((H0 (I.pick (ah (kU W p) zs)) hz).cb).part 0 10;rw[xT]at h9;exact h9)) rfl λa E=>?_;rw[show List.take 10 (List.drop 0 (cU (r,aq v i).2.k (r,aq v i).1.core z.2.1))=bV x.cf from by rw[← adS];rfl]at E;refine CL 0 E I (adI (I.pick (fw W M p x.cf c (aq v i)))) λa w E I=>?_;rw[← Pv]at I;have vD:=HZ (I.pick (ah (kU W p) zs));rw[tL]at vD;replace I:=H2 ((vD.pick (ah (cA W p c) (xs.eraseIdx i))).pick (x.J W p c (aq v i))) hx;refine RN 2 E I λa E=>?_;replace E:=E.aK 149;refine RN 4 E I λa E=>?_;exact⟨v.ps.length-(i+1),by omega,i+1,⟨rfl,by omega⟩,E.ab [0,6],I.sub⟩
  refine RN 21 E I λa E=>?_;exact⟨v.ps.length-(i+1),by omega,i+1,⟨rfl,by omega⟩,E.ab [0,6],I.sub⟩
 refine RT 2 E I ?_;have h8:=bU.close (n:=v.net.length) (c:=cN) ((I.pick (ah bS ys)).pick (Sl 60 3 adN v.net.length cN (rows bJ ys))) lY rfl;rw[← xP]at h8;have h9:U W w (bK W D p v::_):=bK.close (h8.sub (M:=aa D.wb 40 [pt D.mb,.slice adP rs.length cP,.slice adN v.net.length cN,.slice iW fs.length iC]::Sl 34 1 adP rs.length cP (rs.map dM)::ah (dm W p) rs::bU 60 adN v.net.length cN v.net::Sl 70 1 iW fs.length iC (fs.map bw)::ah fj fs::aa D.mb 107 [.slice adL xs.length cL,pt B.q,.slice adE es.length cE]::Sl 81 1 adL xs.length cL (xs.map cC)::ah (cA W p c) xs::bN B.q (v.net.map cR)::Sl 90 1 adE es.length cE (es.map bw)::ah eN es::L)) ib kE nC;rw[xP]at h9;refine⟨rfl,aR.vG (adL:=adL) (cL:=cL) (adE:=adE) (cE:=cE) (xs:=xs) (es:=es) ?_ eH da eK⟩;exact h9.sub
end
end
section
section
variable {W w:World}{L:List SP}{c i:Nat}{p:Pr}{v:Wd}{B:jH}{t:fB}{cf:Cf}
def m0:Cf:=⟨2,0,0,0,4,1,0,2,1,5⟩
theorem z8 (I:U W w (aR W B p c v::L))(hB:B.Ok p (c+10))(hv:bB p cf c v)(ka:9*c+100≤1000000000)(hf:t.fn≠7) :
   Calls Tryz.prog 29 #[pt B.mb,.agg (dY t).toArray] w λe V=>e=.returned (.int .i64 (br p t v).1)∧U W V (aR W B p (c+10) (ds p t v)::L) :=
 (OK I hB hv ka).mono λe V ⟨z,h1,h2,_,I⟩=>⟨by rw[h1,h2 hf],by rw[ds,ag hf];exact I⟩
theorem Pw (hf:t.fn<1∨8<t.fn):br p t v=(1,v):=by rw[br,ak hf]
set_option maxHeartbeats 2000000 in
theorem adU (I:U W w L):Calls Tryz.prog 26 #[] w λe V=>e=.returned (.bool true)∧U W V L:=by
 have xA:ft m0:=by decide
 have eV:oa (dZ m0 0) dX []:=⟨xA,vr,by decide⟩;refine EN Tryz.func26 Tryz.ntmps26 rfl rfl λa E=>?_;refine aW 4 E I (abL I) λadP a w E I=>?_;refine aW 0 E I (O1 (cf:=m0) (tb:=[]) (adT:=none) (cT:=0) eV I rfl (by decide) (by decide) (by decide) (λV h=>aL.nil)) λB a w E ⟨hP,I⟩=>?_;refine RN 5 E I λa E=>?_;have fI:∀ x∈B.fC,cY x.z.gs:=λx hx=>by rw[(hP.2 x hx).1];decide
 have L0:Lv dX m0 (λ_=>0) (gM dX m0 m0.n.toNat):=Lv.new xA;have xU:(gM dX m0 m0.n.toNat).ps.length=2:=vN;have uM:(gM dX m0 m0.n.toNat).net=[]:=rfl;have p3:∀ x y,x<2→y<2→bG (gM dX m0 m0.n.toNat) x y=0:=λx y hx hy=>C9 xA hx hy;have Dc:=HX (p:=dX) xA;generalize gM dX m0 m0.n.toNat=v0 at I L0 xU uM p3 Dc;have WH:m0.bo.toNat=4:=rfl;obtain⟨Px,e1,wZ,k1,z1⟩:=L0.al (i:=0) (by omega) 5 0;have k00:=p3 0 0 (by omega) (by omega);replace z1:=z1 (by omega);have o1:=Dc.go (s:=⟨1,(0:Nat),5,0⟩);obtain⟨Py,e2,tj,k2,z2⟩:=Px.al (i:=1) (by omega) 6 0;have Dd:=p3 1 1 (by omega) (by omega);have Pz:=k1 1 1;rw[ag (by omega)]at Pz;replace z2:=z2 (by omega);have o2:=o1.go (s:=⟨1,(1:Nat),6,0⟩);obtain⟨PA,e3,PB,k3,PC,z3⟩:=Py.tick (i:=0) (by decide) (by omega) (by rw[e2,e1,uM,tj,wZ,xU];decide) 0 0;have H4:=o2.go (s:=⟨2,(0:Nat),0,0⟩);have t3:ue (ds dX ⟨1,(1:Nat),6,0⟩ (ds dX ⟨1,(0:Nat),5,0⟩ v0)) 0=[(0,1,aS (dV (aq (ds dX ⟨1,(1:Nat),6,0⟩ (ds dX ⟨1,(0:Nat),5,0⟩ v0)) 0).k 1))]:=by
  rw[ue,tj,wZ,xU];rfl
 rw[e2,e1,uM,t3]at e3;obtain⟨L4,jr,PD,ln,z4,_⟩:=PA.send e3 0 0;have xV:=H4.go (s:=⟨3,0,0,0⟩);have h5:sF (0,1,aS (dV (aq (ds dX ⟨1,(1:Nat),6,0⟩ (ds dX ⟨1,(0:Nat),5,0⟩ v0)) 0).k 1))=1:=by
  rw[PC _ (by rw[t3];exact jo),k2 0 0,ag (by omega),k1 0 0,ak (by omega),k00]
 have f4:aw (aq (ds dX ⟨3,0,0,0⟩ (ds dX ⟨2,(0:Nat),0,0⟩ (ds dX ⟨1,(1:Nat),6,0⟩ (ds dX ⟨1,(0:Nat),5,0⟩ v0)))) 1).k=1:=by
  have q0:=ln 1 0;rw[ak ⟨rfl,rfl⟩,k3,k2,ag (by omega),k1,ag (by omega),p3 1 0 (by omega) (by omega),h5]at q0;have q1:=ln 1 1;rw[ag (by show ¬ ((1:Nat)=1∧(1:Nat)=0);omega),k3,k2,ak (by omega),Pz]at q1;refine L4.front (j:=0) (by omega) (λj hj=>?_) (by omega) (by rw[q0];rfl);have:j=0∨j=1:=by omega
  rcases this with rfl | rfl
  ·rw[q0];decide
  ·rw[q1];omega
 clear p3 k1 k2 k3 ln t3 h5 PC;refine RN 2 E I λa E=>?_;obtain⟨adL,cL,adE,cE,xs,es,⟨eH,da,eK⟩,I⟩:=aR.xL I;have b0:xs.length=2:=by rw[← xU,← da,bf]
 have JO:xs[1].1.z.zW=true:=(hP.2 _ (by rw[← eH];exact cV.2 ⟨xs[1],iI _,rfl⟩)).2;refine RN 3 E I λa E=>?_;replace E:=E.aK 17;refine RN 4 E I λa E=>?_;replace E:=E.aK 21;refine CL 1 E I (sB (i:=0) ((I.pick (Sl 81 1 adL xs.length cL (xs.map cC))).pick (aa B.mb 107 [.slice adL xs.length cL,pt B.q,.slice adE es.length cE])) (by omega)) λa w E I=>?_;refine RN 3 E I λa E=>?_;replace E:=E.aK 26;refine CL 1 E I (HH (i:=1) ((I.pick (Sl 81 1 adL xs.length cL (xs.map cC))).pick (aa B.mb 107 [.slice adL xs.length cL,pt B.q,.slice adE es.length cE])) (by omega)) λa w E I=>?_;refine RN 1 E I λa E=>?_;rw[JO,Bool.not_true]at E;refine RN 2 E I λa E=>?_;replace E:=E.aK 31;refine CL 1 E I (CP (I.pick (aa B.mb 107 [.slice adL xs.length cL,pt B.q,.slice adE es.length cE]))) λa w E I=>?_;refine RN 2 E I λa E=>?_;replace E:=E.aK 35;refine RN 2 E I λa E=>?_;replace I:=aR.vG (I.sub (M:=aa B.mb 107 [.slice adL xs.length cL,pt B.q,.slice adE es.length cE]::Sl 81 1 adL xs.length cL (xs.map cC)::ah (cA W dX 0) xs::bN B.q (v0.net.map cR)::Sl 90 1 adE es.length cE (es.map bw)::ah eN es::L)) eH da eK;refine CL 2 E I (z8 (t:=⟨1,(0:Nat),5,0⟩) I ⟨vr,by decide,fI,by decide⟩ Dc (by decide) (by decide)) λa w E I=>?_;rw[z1]at E;refine CL 4 E I (z8 (t:=⟨1,(1:Nat),6,0⟩) I ⟨vr,by decide,fI,by decide⟩ (o1.more (by decide)) (by decide) (by decide)) λa w E I=>?_;rw[z2]at E;refine CL 4 E I (z8 (t:=⟨2,(0:Nat),0,0⟩) I ⟨vr,by decide,fI,by decide⟩ (o2.more (by decide)) (by decide) (by decide)) λa w E I=>?_;rw[z3]at E;refine CL 4 E I (z8 (t:=⟨3,0,0,0⟩) I ⟨vr,by decide,fI,by decide⟩ (H4.more (by decide)) (by decide) (by decide)) λa w E I=>?_;rw[z4]at E;have n5:=PD.trans (PB.trans (tj.trans (wZ.trans xU)));clear Dc o1 o2 H4 L0 Px Py PA z1 z2 z3 z4 e1 e2 e3 xU wZ tj PB PD;generalize ds dX ⟨3,0,0,0⟩ (ds dX ⟨2,(0:Nat),0,0⟩ (ds dX ⟨1,(1:Nat),6,0⟩ (ds dX ⟨1,(0:Nat),5,0⟩ v0)))=v at I xV L4 f4 jr n5;refine RN 2 E I λa E=>?_;obtain⟨adL,cL,adE,cE,xs,es,⟨eH,da,eK⟩,I⟩:=aR.xL I;have b0:xs.length=2:=by rw[← n5,← da,bf]
 obtain⟨x,hx,pf⟩:∃ x,xs[1]?=some (x,aq v 1)∧B.fC[1]?=some x:=HL eH da (by omega);obtain⟨_,gX⟩:=aZ.1 hx;have hM:=x.qU (W:=W) (p:=dX) vr (by decide) (fI x (bH pf));have hw:=(xV.pl 1 (by omega)).1;refine CL 1 E I (sB (i:=1) ((I.pick (Sl 81 1 adL xs.length cL (xs.map cC))).pick (aa B.mb 107 [.slice adL xs.length cL,pt B.q,.slice adE es.length cE])) (by omega)) λa w E I=>?_;rw[show cC xs[1]=.iface x.z.t (.pointer (some x.z.ad)) from by rw[gX]]at E;replace I:=CU (I.pick (ah (cA W dX 40) xs)) hx;refine RN 0 E I λa E=>?_;refine jN E rfl hM.CC hM.CD rfl (hM.CE _ _ 40 (aq v 1) (by decide) hw (I.pick (x.J W dX 40 (aq v 1)))) (by rfl) ?_;clear E I;rintro e w ⟨lM,dD,rfl,I⟩;refine⟨_,rfl,λa E=>?_⟩;refine RN 5 E I λa E=>?_;rw[show (lR (aq v 1)).2=1 from f4]at E;replace I:=H2 ((I.pick (ah (cA W dX 40) (xs.eraseIdx 1))).pick (x.J W dX 40 (aq v 1))) hx;replace I:=aR.vG (I.sub (M:=aa B.mb 107 [.slice adL xs.length cL,pt B.q,.slice adE es.length cE]::Sl 81 1 adL xs.length cL (xs.map cC)::ah (cA W dX 40) xs::bN B.q (v.net.map cR)::Sl 90 1 adE es.length cE (es.map bw)::ah eN es::L)) eH da eK;refine RN 4 E I λa E=>?_;replace E:=E.eG 56;refine RN 4 E I λa E=>?_;replace E:=E.eG 60;refine RN 4 E I λa E=>?_;replace E:=E.eG 64;refine RN 4 E I λa E=>?_;replace E:=E.eG 68;refine RN 4 E I λa E=>?_;replace E:=E.eG 72;refine RN 1 E I λa E=>?_;obtain⟨adL,cL,adE,cE,xs,es,⟨eH,da,eK⟩,I⟩:=aR.xL I;refine CL 0 E I (CP (I.pick (aa B.mb 107 [.slice adL xs.length cL,pt B.q,.slice adE es.length cE]))) λa w E I=>?_;refine CL 0 E I (Og (I.pick (bN B.q (v.net.map cR)))) λa w E I=>?_;rw[bf,jr]at E;replace I:=aR.vG (I.sub (M:=aa B.mb 107 [.slice adL xs.length cL,pt B.q,.slice adE es.length cE]::Sl 81 1 adL xs.length cL (xs.map cC)::ah (cA W dX 40) xs::bN B.q (v.net.map cR)::Sl 90 1 adE es.length cE (es.map bw)::ah eN es::L)) eH da eK;refine RN 3 E I λa E=>?_;replace E:=E.eG 78;refine CL 2 E I (z8 (t:=⟨0,0,0,0⟩) I ⟨vr,by decide,fI,by decide⟩ (xV.more (by decide)) (by decide) (by decide)) λa w E I=>?_;rw[Pw (.inl (by decide))]at E;rw[ds,ag (by decide),Pw (.inl (by decide)),L4.still]at I;refine RN 3 E I λa E=>?_;replace E:=E.eG 84;refine aX 1 E I (adv (i:=0) I (by omega) xV.ev (by rw[L4.ev _ (xG (d:=[]) (by rw[xV.ev];omega))];decide)) λad2 c2 a w E I=>?_;rw[L4.ev _ (xG (d:=[]) (by rw[xV.ev];omega))]at E;refine RT 4 E I ?_;exact⟨rfl,I.sub⟩
end
end
section
structure xW (W:World)(p:Pr)(B:jH)(D:oc)(cf:Cf)(tb:List UInt8)(jJ:Bool):Prop where
 mb:D.mb=B.mb
 fC:vK B.fC cf tb jJ cf.n.toNat
 mZ:Da W D.mZ cf tb
 gs:cY ⟨cf.a8,cf.order,tb⟩
 pr:dq p
 sz:p.title.size≤1000000000
section
variable {W w:World}{L:List SP}{c:Nat}{p:Pr}{v:Wd}{B:jH}{D:oc}{t:fB}{cf:Cf}{tb:List UInt8}{jJ:Bool}
theorem vK.gs {fC:List fJ}{n:Nat}(h:vK fC cf tb jJ n)(hg:cY ⟨cf.a8,cf.order,tb⟩):∀ x∈fC,cY x.z.gs:=λx hx=>by rw[(h.2 x hx).1];exact hg
theorem xW.ok (h:xW W p B D cf tb jJ)(hc:c≤1000000):B.Ok p c:=⟨h.pr,h.sz,h.fC.gs h.gs,hc⟩
theorem adV (I:U W w (aR W B p c v::bK W D p v::L))(qj:xW W p B D cf tb jJ)(hv:bB p cf c v)(hc:c≤1000000) :
   Calls Tryz.prog 33 #[pt D.wb] w λe V=>e=.returned (.bool true)∧U W V (aR W B p c v::bK W D p v::L) :=
 adQ I qj.mb (qj.ok hc) hv (by rw[hv.n];exact qj.fC) qj.mZ qj.gs (by omega)
theorem PE (I:U W w (aR W B p c v::bK W D p v::L))(qj:xW W p B D cf tb jJ)(hv:bB p cf c v)(wU:qk v)(hc:c≤900000) :
   Calls Tryz.prog 32 #[pt D.wb,.agg (dY t).toArray] w λe V=>e=.returned (.bool true)∧U W V (aR W B p (c+10) (ds p t v)::bK W D p (ds p t v)::L) :=
 adA I qj.mb (qj.ok (by omega)) hv wU (by omega) λw u hu hcu I=>adV I qj hu (by omega)
structure Wc (p:Pr)(cf:Cf)(c:Nat)(v:Wd):Prop where
 ok:bB p cf c v
 calm:qk v
theorem Wc.go (h:Wc p cf c v):Wc p cf (c+10) (ds p t v):=⟨h.ok.go.more (by omega),adz h.calm⟩
theorem Wc.new (h:ft cf):Wc p cf 0 (gM p cf cf.n.toNat):=⟨HX h,Ph h⟩
end
end
section
open Go.RowKit Go.ChangeShapes Go.WideShapes Go.ChangeAt
set_option linter.constructorNameAsVariable false
set_option maxRecDepth 100000
section
variable {W W' w:World}{L:List SP}
theorem adW {L:List SP}(hb:Below W.heap.size W W')(I:U W' w L):Below W.heap.size W w:=hb.trans (I.below.mono hb.size)
end
end
section
structure agp where
 tb:Nat
 n:Nat
 B:jH
 D:oc
abbrev cfT (n:Nat):Cf:=⟨n,0,77,2,8,2,1,3,2,7⟩
section
variable {W w:World}{L:List SP}{n:Nat}
theorem adX (I:U W w L):Calls Tryz.prog 39 #[] w λe V=>e=.returned (.bool true)∧U W V L:=by
 refine EN Tryz.func39 Tryz.ntmps39 rfl rfl λa E=>?_;refine CL 3 E I (adU I) λa w E I=>?_;refine RT 1 E I ?_;exact⟨rfl,I⟩
theorem adY (I:U W w L):Calls Tryz.prog 13 #[] w λe V=>e=.returned (.bool true)∧U W V L:=by
 refine EN Tryz.func13 Tryz.ntmps13 rfl rfl λa E=>?_;refine CL 3 E I (adX I) λa w E I=>?_;refine RT 1 E I ?_;exact⟨rfl,I⟩
theorem adZ {x L:Int}(h:0<L):-L<x.tmod L∧x.tmod L<L:=by
 have h1:=Int.natAbs_tmod x L;have h2:=Nat.mod_lt x.natAbs (show 0<L.natAbs by omega);omega
theorem ad0 (I:U W w L){x:Int}{k:Nat}(hk:0<k)(ca:k≤1000):Calls Tryz.prog 14 #[.int .i64 x,.int .i64 k] w λe V=>∃ y:Nat,e=.returned (.int .i64 y)∧y<k∧U W V L:=by
 have hb:=adZ (x:=x) (L:=k) (by omega);refine EN Tryz.func14 Tryz.ntmps14 rfl rfl λa E=>?_;refine IF 11 E I (λaj a E=>?_) λaj a E=>?_
 ·
  refine RT 6 E I ?_;exact⟨(x.tmod k).natAbs,by rw[fU (by omega) (by omega),show (((x.tmod k).natAbs:Nat):Int)=0-x.tmod k from by omega],by omega,I⟩
 refine RT 3 E I ?_;exact⟨(x.tmod k).natAbs,by rw[show (((x.tmod k).natAbs:Nat):Int)=x.tmod k from by omega],by omega,I⟩
theorem ad1 (I:U W w L):Calls Tryz.prog 16 #[.int .i64 n] w λe V=>e=.returned (.agg (bV (cfT n)).toArray)∧U W V L:=by
 refine EN Tryz.func16 Tryz.ntmps16 rfl rfl λa E=>?_;refine AL 1 E I λb2 a w E I=>?_;refine SA 3 E I λa w E I=>?_;refine RT 0 E I ?_;exact⟨rfl,I.sub⟩
end
end
section
section
variable {W w:World}{L:List SP}{n c i f:Nat}{p:Pr}{cf:Cf}{v:Wd}{D:oc}
theorem H5 {w:World}{y:sH}{p:Pr}(h:Db w p y)(hf:f<y.1.2.k.mr.length):∃ b o,y.2.1.ch=some ⟨b,o,none⟩∧w.cell? ⟨b,o+f,none⟩=some (.int .u32 (y.1.2.k.mr.getD f 0:Nat)):=by
 obtain⟨b,o,h1,h2⟩:=h.mr (by omega);refine⟨b,o,h1,h2 f _ ?_⟩;rw[c0,bm,aD hf,bl,aD hf];rfl
theorem PF {w:World}{y:sH}{p:Pr}{b o:Nat}(h:Db w p y)(he:y.2.1.ch=some ⟨b,o,none⟩)(hf:f<y.1.2.k.mr.length):w.cell? ⟨b,o+f,none⟩=some (.int .u32 (y.1.2.k.mr.getD f 0:Nat)):=by
 obtain⟨b',o',h1,h2⟩:=H5 h hf;rw[he]at h1;cases h1;exact h2
theorem PG {P:Program}{ops:Array Oper}{Q:Exit→Act→World→Prop}{C C':World→Prop}{bg:List Nat}(k:∀ w,C' w→C w):∀ (fuel:Nat) (bD:Array Bool) (a:Act) (w:World),hJ P ops Q C' bg fuel bD a w→hJ P ops Q C bg fuel bD a w
 | 0,_,_,_,h=>h
 | fuel+1,_,_,_,h=>⟨h.1,λi hi=>wpOp_mono (λa' V h'=>⟨λhn=>k _ (h'.1 hn),PG k fuel _ a' V h'.2⟩) (h.2 i hi)⟩
theorem PH {P:Program}{ops:Array Oper}{Q:Exit→Act→World→Prop}{C:World→Prop}{bg od:List Nat}{fuel m:Nat}{a:Act}{w:World}{b:Bool}(C':World→Prop)(k:∀ w,C' w→C w)(hC:C w)(h:gj P ops Q C' bg od fuel m a w):CN b C (gj P ops Q C bg od fuel m) a w :=
 ⟨λ_=>hC,PG k _ _ _ _ h⟩
set_option maxHeartbeats 2000000 in
theorem ad3 (I:U W w (bK W D p v::L))(hv:bB p cf c v)(hA:∀ i j f,i<v.ps.length→j<v.ps.length→f<aw (aq v i).k→f<aw (aq v j).k→bM (aq v i).k.ls f=bM (aq v j).k.ls f∧(aq v i).k.mr.getD f 0=(aq v j).k.mr.getD f 0)
   (xM:∀ l∈v.ev,∀ e∈l,e.1≠3) (ka:9*c+100≤1000000000):Calls Tryz.prog 18 #[pt D.wb] w λe V=>e=.returned (.bool true)∧U W V (bK W D p v::L):=by
 replace I:=bK.open I;obtain⟨adP,cP,adN,cN,iW,iC,rs,fs,⟨ib,kE,nC⟩,I⟩:=I;obtain⟨ys,oe,I⟩:=HY (I.pick (ah (dm W p) rs));have ia:rs.length=v.ps.length:=by rw[← kE,bf]
 have iS:ys.length=v.ps.length:=by rw[← ia,← oe,bf]
 have eY:fs.length=v.ps.length:=by rw[← hv.ev,← nC,bf]
 have hn:=hv.len;have tV:∀ i,i<v.ps.length→∃ y,ys[i]?=some y∧y.1.2=aq v i∧(rs.map dM)[i]?=some (pt y.1.1.pb):=λi hi=>by
  refine⟨ys[i],aD (by omega),?_,?_⟩
  ·rw[aq,← kE,← oe,List.map_map,bl,bm,aD (by omega)];rfl
  ·rw[← oe,List.map_map,bm,aD (by omega)];rfl
 have cm:∀ V,U W V (ah (kU W p) ys::aa D.wb 40 [pt D.mb,.slice adP rs.length cP,.slice adN v.net.length cN,.slice iW fs.length iC]::Sl 34 1 adP rs.length cP (rs.map dM)::bU 60 adN v.net.length cN v.net::Sl 70 1 iW fs.length iC (fs.map bw)::ah fj fs::L)→U W V (bK W D p v::L):=λV h=>by
  have h1:=HZ h;rw[oe]at h1;exact bK.close (h1.sub (M:=aa D.wb 40 [pt D.mb,.slice adP rs.length cP,.slice adN v.net.length cN,.slice iW fs.length iC]::Sl 34 1 adP rs.length cP (rs.map dM)::ah (dm W p) rs::bU 60 adN v.net.length cN v.net::Sl 70 1 iW fs.length iC (fs.map bw)::ah fj fs::L)) ib kE nC
 replace I:=I.sub (M:=ah (kU W p) ys::aa D.wb 40 [pt D.mb,.slice adP rs.length cP,.slice adN v.net.length cN,.slice iW fs.length iC]::Sl 34 1 adP rs.length cP (rs.map dM)::bU 60 adN v.net.length cN v.net::Sl 70 1 iW fs.length iC (fs.map bw)::ah fj fs::L);generalize hM:(ah (kU W p) ys::aa D.wb 40 [pt D.mb,.slice adP rs.length cP,.slice adN v.net.length cN,.slice iW fs.length iC]::Sl 34 1 adP rs.length cP (rs.map dM)::bU 60 adN v.net.length cN v.net::Sl 70 1 iW fs.length iC (fs.map bw)::ah fj fs::L)=M at I cm;obtain⟨bp,op,DZ⟩:∃ bp op,adP=some ⟨bp,op,none⟩:=by
  rw[← hM]at I;obtain⟨bp,op,h,_⟩:=(I.pick (Sl 34 1 adP rs.length cP (rs.map dM))).bY adP (by omega);exact⟨bp,op,h⟩
 obtain⟨jl,oF,hbF⟩:∃ jl oF,iW=some ⟨jl,oF,none⟩:=by
  rw[← hM]at I;obtain⟨bp,op,h,_⟩:=(I.pick (Sl 70 1 iW fs.length iC (fs.map bw))).bY iW (by omega);exact⟨bp,op,h⟩
 have PI:=I;clear I;subst DZ hbF;have sI:∀ V,U W V M→Rd V D.wb 0 [pt D.mb,.slice (some ⟨bp,op,none⟩) rs.length cP,.slice adN v.net.length cN,.slice (some ⟨jl,oF,none⟩) fs.length iC]:=λV h=>by
  rw[← hM]at h;exact h.ai (b:=D.wb)
 have xX:∀ V,U W V M→Rd V bp op (rs.map dM):=λV h=>by
  rw[← hM]at h;exact h.cJ bp op (by omega)
 have PJ:∀ V,U W V M→Rd V jl oF (fs.map bw):=λV h=>by
  rw[← hM]at h;exact h.cJ jl oF (by omega)
 have rY:∀ {i:Nat} {y:sH} {V:World},U W V M→ys[i]?=some y→Db V p y:=λh hy=>by
  rw[← hM]at h;exact H0 h hy
 have ad4:∀ {i:Nat} {x:ko} {V:World},U W V M→fs[i]?=some x→0<x.2.2.length→∃ b o,x.1=some ⟨b,o,none⟩∧Rd V b o (rows bZ x.2.2):=λ{i x V} h hx h0=>by
  rw[← hM]at h;obtain⟨hi,h1⟩:=aZ.1 hx;have h2:=(h.pick (ah fj fs)).fo hi;rw[h1]at h2;replace h2:U W V (Sl 102 3 x.1 x.2.2.length x.2.1 (rows bZ x.2.2)::_):=h2;exact h2.bY x.1 h0
 clear hM;have I:=PI;clear PI;refine EN Tryz.func18 Tryz.ntmps18 rfl rfl λa E=>?_;refine RN 5 E I λa E=>?_;refine aQ (λμ a w=>∃ (i:Nat),(μ=v.ps.length-i∧i≤v.ps.length)∧Fr a 142 [(0,pt D.wb),(3,.int .i64 i)]∧U W w M) (v.ps.length) (⟨0,⟨rfl,by omega⟩,E.ab [0,3],I⟩) ?_;clear E I;rintro μ a w ⟨i,⟨rfl,hi⟩,E,I⟩;refine RN 6 E I λa E=>?_;refine SS E (ae E ((sI _ I) 1 _ rfl)) λa E=>?_;refine IF 2 E I (λaj a E=>?_) λaj a E=>?_
 ·
  have aF:i<v.ps.length:=by omega
  obtain⟨y,hy,tT,H6⟩:=tV i aF;have vQ:cx p y.1.2:=by rw[tT];exact (hv.pl i aF).1
  have De:bk y.2.2=y.1.2.k.ls:=(rY I hy).eq;refine RN 4 E I λa E=>?_;refine aQ (λμ a w=>∃ (k:Nat),(μ=i-k∧k≤i)∧Fr a 142 [(0,pt D.wb),(3,.int .i64 i),(4,.int .i64 k)]∧U W w M) (i) (⟨0,⟨rfl,by omega⟩,E.ab [0,3,4],I⟩) ?_;clear E I;rintro μ a w ⟨k,⟨rfl,hk⟩,E,I⟩;refine IF 5 E I (λao a E=>?_) λao a E=>?_
  ·
   have dS:k<v.ps.length:=by omega
   obtain⟨z,hz,qO,xT⟩:=tV k dS;have sJ:cx p z.1.2:=by rw[qO];exact (hv.pl k dS).1
   have Df:bk z.2.2=z.1.2.k.ls:=(rY I hz).eq;refine a1 2 (λw0 V=>U W V M) [10,14,16,17,18,19,20] [0,1,2,4,11,12,13,15,3003,5,3006,7,8,3009,3014,3016,3017,3018,3019,3020,1010,1021,22,23] E I λa w E I hH=>?_;have hC:=hH.at w I;refine RH 8 E I hH hC λa E=>?_;refine QH E (λw hc=>ae E (sI _ hc 1 _ rfl)) hC λa E=>?_;refine RH 1 E I hH hC λa E=>?_;refine QH E (λw hc=>ae E (xX _ hc i _ H6)) hC λa E=>?_;refine RH 2 E I hH hC λa E=>?_;refine QH E (λw hc=>ae E ((rY hc hy).pb 0 _ rfl)) hC λa E=>?_;refine QH E (λw hc=>ae E (sI _ hc 1 _ rfl)) hC λa E=>?_;refine RH 1 E I hH hC λa E=>?_;refine QH E (λw hc=>ae E (xX _ hc k _ xT)) hC λa E=>?_;refine RH 2 E I hH hC λa E=>?_;refine QH E (λw hc=>ae E ((rY hc hz).pb 0 _ rfl)) hC λa E=>?_;refine RH 0 E I hH hC λa E=>?_;refine CL 0 E I (Ps (A:=y.2.1) I vQ.wc De λV h=>⟨(rY h hy).cb,(rY h hy).ls⟩) λa w E I=>?_;replace hC:=hH.at w I;refine RH 0 E I hH hC λa E=>?_;refine CL 0 E I (Ps (A:=z.2.1) I sJ.wc Df λV h=>⟨(rY h hz).cb,(rY h hz).ls⟩) λa w E I=>?_;refine RN 1 E I λa E=>?_;rw[show min ((aw y.1.2.k:Nat):Int) ((aw z.1.2.k:Nat):Int)=((min (aw y.1.2.k) (aw z.1.2.k):Nat):Int) from by omega]at E;refine RN 1 E I λa E=>?_;refine RN 2 E I λa E=>?_;refine aQ (λμ a w=>∃ (f:Nat),(μ=min (aw y.1.2.k) (aw z.1.2.k)-f∧f≤min (aw y.1.2.k) (aw z.1.2.k))∧Fr a 142 [(0,pt D.wb),(3,.int .i64 i),(4,.int .i64 k),(5,.int .i64 (min (aw y.1.2.k) (aw z.1.2.k):Nat)),(6,.int .i64 f)]∧U W w M) (min (aw y.1.2.k) (aw z.1.2.k)) (⟨0,⟨rfl,by omega⟩,E.ab [0,3,4,5,6],I⟩) ?_;clear E I;rintro μ a w ⟨f,⟨rfl,hf⟩,E,I⟩;refine IF 5 E I (λay a E=>?_) λay a E=>?_
   ·
    have eY:f<aw y.1.2.k∧f<aw z.1.2.k:=by omega
    obtain⟨zq,oT⟩:bM y.1.2.k.ls f=bM z.1.2.k.ls f∧y.1.2.k.mr.getD f 0=z.1.2.k.mr.getD f 0:=by
     rw[tT,qO]at eY ⊢;exact hA i k f aF dS eY.1 eY.2
    have ad5:y.1.2.k.ls.length=y.2.2.length:=by rw[← De,gn]
    have ad6:z.1.2.k.ls.length=z.2.2.length:=by rw[← Df,gn]
    have Cp:=vQ.full;have LC:=sJ.full;have hy8:=vQ.wc.ls;have hz8:=sJ.wc.ls;have hyn:=vQ.wc.n;have KE:=sJ.wc.n;have tW:=gC vQ.wc.ny vQ.wc.lO;obtain⟨by1,oy1,ib,_⟩:=H5 (f:=f) (rY I hy) (by rw[vQ.full];exact eY.1);obtain⟨bz1,oz1,cv,_⟩:=H5 (f:=f) (rY I hz) (by rw[sJ.full];exact eY.2);refine RN 2 E I λa E=>?_;simp only[List.append];refine a1 0 (λw0 V=>U W V M) [14,15,19,21,22,23,24,25,26,27,28,30,31,53,55,56,57,58,59,60,61,62,64,65] [0,1,2,4,13,16,17,18,20,29,3003,5,3006,7,8,3009,10,11,3012,3019,3021,3022,3023,3024,3025,3026,3027,3028,1014,3015,1030,1031,32,33,34,35,36,38,47,50,51,52,54,63,3037,39,3040,41,42,3043,44,45,3046,48,3049,1053,1055,1056,1057,1058,1059,1060,1061,1062,1064,1065,66,67] E I λa w E I hH=>?_;have hC:=hH.at w I;refine RH 10 E I hH hC λa E=>?_;refine QH E (λw hc=>ae E (sI _ hc 1 _ rfl)) hC λa E=>?_;refine RH 1 E I hH hC λa E=>?_;refine QH E (λw hc=>ae E (xX _ hc i _ H6)) hC λa E=>?_;refine RH 2 E I hH hC λa E=>?_;refine QH E (λw hc=>ae E ((rY hc hy).pb 0 _ rfl)) hC λa E=>?_;refine RH 2 E I hH hC λa E=>?_;refine QH E (λw hc=>ae E ((rY hc hy).cb 10 _ rfl)) hC λa E=>?_;rw[ad5]at E;refine RH 0 E I hH hC λa E=>?_;refine QH E (λw hc=>ae E (sI _ hc 1 _ rfl)) hC λa E=>?_;refine RH 1 E I hH hC λa E=>?_;refine QH E (λw hc=>ae E (xX _ hc k _ xT)) hC λa E=>?_;refine RH 2 E I hH hC λa E=>?_;refine QH E (λw hc=>ae E ((rY hc hz).pb 0 _ rfl)) hC λa E=>?_;refine RH 2 E I hH hC λa E=>?_;refine QH E (λw hc=>ae E ((rY hc hz).cb 10 _ rfl)) hC λa E=>?_;rw[ad6]at E;refine RH 0 E I hH hC λa E=>?_;refine aX 0 E I (GV (xs:=y.2.2) (f:=f) I (by omega) (by omega) (λV hw=>(rY hw hy).ls) (by rw[De];exact eY.1)) λvR jj a w E I=>?_;rw[De,zq]at E I;refine PH (λV=>U W V M∧aL V vR (bM z.1.2.k.ls f).length (bM z.1.2.k.ls f)) (λ_ h=>h.1) I.tail ?_;have hH:=Hd.any (λV=>U W V M∧aL V vR (bM z.1.2.k.ls f).length (bM z.1.2.k.ls f));have hC:=hH.at w ⟨I.tail,I.cr vR _ rfl rfl⟩;refine RH 0 E I hH hC λa E=>?_;refine QH E (λw hc=>ky E Tryz.underlying22 Tryz.underlying5 Tryz.underlying9 (hc.2)) hC λa E=>?_;refine RH 0 E I hH hC λa E=>?_;refine aX 0 E I (GV (xs:=z.2.2) (f:=f) I (by omega) (by omega) (λV hw=>(rY hw.tail hz).ls) (by rw[Df];exact eY.2)) λjE agq a w E I=>?_;rw[Df]at E I;refine PH (λV=>(U W V M∧aL V vR (bM z.1.2.k.ls f).length (bM z.1.2.k.ls f))∧aL V jE (bM z.1.2.k.ls f).length (bM z.1.2.k.ls f)) (λ_ h=>h.1) ⟨I.tail.tail,I.cr vR _ rfl rfl⟩ ?_;have hH:=Hd.any (λV=>(U W V M∧aL V vR (bM z.1.2.k.ls f).length (bM z.1.2.k.ls f))∧aL V jE (bM z.1.2.k.ls f).length (bM z.1.2.k.ls f));have hC:=hH.at w ⟨⟨I.tail.tail,I.cr vR _ rfl rfl⟩,I.cr jE _ rfl rfl⟩;refine RH 0 E I hH hC λa E=>?_;refine SS E (ky E Tryz.underlying22 Tryz.underlying5 Tryz.underlying9 (hC.2)) λa E=>?_;refine RH 0 E I hH hC λa E=>?_;refine QP E (λw=>Fc E) λa E=>?_;rw[pC,beq_self_eq_true,Bool.not_true]at E;refine RH 1 E I hH hC λa E=>?_;replace E:=E.aK 83;refine RH 10 E I hH hC λa E=>?_;refine QH E (λw hc=>ae E (sI _ hc.1.1 1 _ rfl)) hC λa E=>?_;refine RH 1 E I hH hC λa E=>?_;refine QH E (λw hc=>ae E (xX _ hc.1.1 i _ H6)) hC λa E=>?_;refine RH 2 E I hH hC λa E=>?_;refine QH E (λw hc=>ae E ((rY hc.1.1 hy).pb 0 _ rfl)) hC λa E=>?_;refine RH 2 E I hH hC λa E=>?_;refine QH E (λw hc=>ae E ((rY hc.1.1 hy).cb 16 _ rfl)) hC λa E=>?_;rw[ib]at E;refine RH 1 E I hH hC λa E=>?_;refine QH E (λw hc=>ae E (PF (rY hc.1.1 hy) ib (by omega))) hC λa E=>?_;rw[oT]at E;refine RH 0 E I hH hC λa E=>?_;refine bu E (cu E rfl (s:=83)) (ae E (sI _ hC.1.1 1 _ rfl)) rfl λa E=>?_;refine RH 1 E I hH hC λa E=>?_;refine bu E (cu E rfl (s:=83)) (ae E (xX _ hC.1.1 k _ xT)) rfl λa E=>?_;refine RH 2 E I hH hC λa E=>?_;refine bu E (cu E rfl (s:=83)) (ae E ((rY hC.1.1 hz).pb 0 _ rfl)) rfl λa E=>?_;refine RH 2 E I hH hC λa E=>?_;refine bu E (cu E rfl (s:=83)) (ae E ((rY hC.1.1 hz).cb 16 _ rfl)) rfl λa E=>?_;rw[cv]at E;refine RH 1 E I hH hC λa E=>?_;refine bu E (cu E rfl (s:=83)) (ae E (PF (rY hC.1.1 hz) cv (by omega))) rfl λa E=>?_;refine RH 2 E I hH hC λa E=>?_;rw[bn (by simp)]at E;refine RN 4 E I λa E=>?_;exact⟨min (aw y.1.2.k) (aw z.1.2.k)-(f+1),by omega,f+1,⟨rfl,by omega⟩,E.ab [0,3,4,5,6],I.sub⟩
   refine RN 3 E I λa E=>?_;exact⟨i-(k+1),by omega,k+1,⟨rfl,by omega⟩,E.ab [0,3,4],I⟩
  obtain⟨x,hx⟩:∃ x,fs[i]?=some x:=⟨_,aD (by omega)⟩;have wv:(fs.map bw)[i]?=some (.slice x.1 x.2.2.length x.2.1):=by rw[bm,hx];rfl
  have b0:=(hv.kQ x.2.2 (by rw[← nC];exact cV.2 ⟨x,bH hx,rfl⟩)).1;have hxE:∀ e∈x.2.2,e.1≠3:=xM x.2.2 (by rw[← nC];exact cV.2 ⟨x,bH hx,rfl⟩);refine RN 2 E I λa E=>?_;refine aQ (λμ a w=>∃ (k:Nat),(μ=x.2.2.length-k∧k≤x.2.2.length)∧Fr a 142 [(0,pt D.wb),(3,.int .i64 i),(7,.int .i64 k)]∧U W w M) (x.2.2.length) (⟨0,⟨rfl,by omega⟩,E.ab [0,3,7],I⟩) ?_;clear E I;rintro μ a w ⟨k,⟨rfl,hk⟩,E,I⟩;refine RN 6 E I λa E=>?_;refine SS E (ae E ((sI _ I) 3 _ rfl)) λa E=>?_;refine RN 2 E I λa E=>?_;refine SS E (ae E ((PJ _ I) i _ wv)) λa E=>?_;refine IF 2 E I (λbO a E=>?_) λbO a E=>?_
  ·
   have dS:k<x.2.2.length:=by omega
   obtain⟨be,agr,zE,l9⟩:=ad4 I hx (by omega);replace l9:=g8 B2 l9 (aD dS);have mC:=hxE _ (iI dS);refine RN 5 E I λa E=>?_;refine SS E (ae E ((sI _ I) 3 _ rfl)) λa E=>?_;refine RN 2 E I λa E=>?_;refine SS E (ae E ((PJ _ I) i _ wv)) λa E=>?_;rw[zE]at E;refine RN 3 E I λa E=>?_;refine SS E (ae E (l9 0 _ rfl)) λa E=>?_;refine RN 1 E I λa E=>?_;rw[bn (by omega)]at E;refine RN 4 E I λa E=>?_;exact⟨x.2.2.length-(k+1),by omega,k+1,⟨rfl,by omega⟩,E.ab [0,3,7],I⟩
  refine RN 3 E I λa E=>?_;exact⟨v.ps.length-(i+1),by omega,i+1,⟨rfl,by omega⟩,E.ab [0,3],I⟩
 refine RT 2 E I ?_;exact⟨rfl,cm _ I⟩
end
end
section
section
variable {W w:World}{L:List SP}{c i:Nat}{p:Pr}{v:Wd}{cf:Cf}{G:List (List UInt8)}{ad7:Int→Prop}{D:oc}
theorem ad8 (I:U W w (bK W D p v::L))(hv:bB p cf c v)(jm:c9 p cf ad7 G v)(ka:9*c+100≤1000000000):Calls Tryz.prog 18 #[pt D.wb] w λe V=>e=.returned (.bool true)∧U W V (bK W D p v::L) :=
 ad3 I hv (λi j f hi hj h1 h2=>(jm.pl i hi).agree (jm.pl j hj) h1 h2) jm.bw ka
theorem aL.below {W W':World}{ad:Option Addr}{m:Nat}{bs:List UInt8}(h:aL W ad m bs)(hb:Below W.heap.size W W'):aL W' ad m bs :=
 h.fK (L:=[]) ⟨hb,λ_=>none,λ_ _ h=>(by cases h),trivial⟩
end
end
section
section
variable {W w:World}{L:List SP}{n c c' m i:Nat}{ad au:Option Addr}{l:List Ml}
theorem ad9 (I:U W w (bU 60 ad n c l::bU 60 au n c' l::L))(hn:n≤1000):Calls Tryz.prog 37 #[.slice ad n c,.slice au n c'] w λr V=>r=.returned (.bool true)∧U W V (bU 60 ad n c l::bU 60 au n c' l::L):=by
 obtain⟨xs,eh,b0,I⟩:=bU.open I;obtain⟨ys,lY,iS,I⟩:=bU.open (I.pick (bU 60 au n c' l));have bd:xs.length=n:=by rw[← b0,← eh,bf]
 have oe:ys.length=n:=by rw[← iS,← lY,bf]
 refine EN Tryz.func37 Tryz.ntmps37 rfl rfl λa E=>?_;refine RN 9 E I λa E=>?_;rw[bn (by omega)]at E;refine RN 4 E I λa E=>?_;refine aQ (λμ a w=>∃ (i:Nat),(μ=n-i∧i≤n)∧Fr a 56 [(0,.slice ad n c),(1,.slice au n c'),(5,.int .i64 i)]∧U W w (Sl 60 3 au n c' (rows bJ ys)::ah bS ys::Sl 60 3 ad n c (rows bJ xs)::ah bS xs::L)) (n) (⟨0,⟨rfl,by omega⟩,E.ab [0,1,5],I.sub⟩) ?_;clear E I;rintro μ a w ⟨i,⟨rfl,hi⟩,E,I⟩;refine IF 6 E I (λao a E=>?_) λao a E=>?_
 ·
  have aF:i<xs.length:=by omega
  have ea:i<ys.length:=by omega
  obtain⟨m,hm⟩:∃ m,m=xs[i].2.2:=⟨_,rfl⟩;obtain⟨xa,xc,hx⟩:∃ a c,xs[i]=(a,c,m):=⟨xs[i].1,xs[i].2.1,by rw[hm]⟩;obtain⟨ya,yc,hy⟩:∃ a c,ys[i]=(a,c,m):=⟨ys[i].1,ys[i].2.1,by
   have h1:(xs.map (·.2.2))[i]?=(ys.map (·.2.2))[i]?:=by rw[eh,lY]
   rw[bm,bm,aD aF,aD ea]at h1;have h2:xs[i].2.2=ys[i].2.2:=by simpa using h1
   rw[hm,h2]⟩
  refine RN 2 E I λa E=>?_;have BI:aL w.drew xa m.2.2.length m.2.2:=by
   have h1:=(I.drew.pick (ah bS xs)).fo aF;rw[hx]at h1;exact U.cr (L:=bS (xa,xc,m)::_) h1 _ _ (k:=(fk.head:fk (Sl 5 1 xa m.2.2.length xc (bc m.2.2)::_) xa _ _ _ _ _ _)) rfl rfl
  have PK:aL w.drew ya m.2.2.length m.2.2:=by
   have h1:=(I.drew.pick (ah bS ys)).fo ea;rw[hy]at h1;exact U.cr (L:=bS (ya,yc,m)::_) h1 _ _ (k:=(fk.head:fk (Sl 5 1 ya m.2.2.length yc (bc m.2.2)::_) ya _ _ _ _ _ _)) rfl rfl
  obtain⟨kK,ox,rfl,eS⟩:=(I.drew.pick (Sl 60 3 ad n c (rows bJ xs))).bY ad (by omega);obtain⟨vO,vP,rfl,lU⟩:=(I.drew.pick (Sl 60 3 au n c' (rows bJ ys))).bY au (by omega);replace eS:=g8 nz eS (aD aF);replace lU:=g8 nz lU (aD ea);rw[hx]at eS;rw[hy]at lU;refine qy 0 (λV=>(Rd V kK (ox+i*3) (bJ (xa,xc,m))∧Rd V vO (vP+i*3) (bJ (ya,yc,m)))∧aL V xa m.2.2.length m.2.2∧aL V ya m.2.2.length m.2.2) [9,21,35,36] [0,1,2,3,5,6,7,8,3004,1009,10,11,12,13,14,15,17,18,19,20,3016,1021,22,23,24,25,26,27,28,31,32,33,34,3029,3030,1035,1036,37,38] E I λa E=>?_;replace I:=I.drew;generalize w.drew=w at I eS lU BI PK ⊢;have hC:(Rd w kK (ox+i*3) (bJ (xa,xc,m))∧Rd w vO (vP+i*3) (bJ (ya,yc,m)))∧aL w xa m.2.2.length m.2.2∧aL w ya m.2.2.length m.2.2:=⟨⟨eS,lU⟩,BI,PK⟩;have hH:=Hd.any (λV=>(Rd V kK (ox+i*3) (bJ (xa,xc,m))∧Rd V vO (vP+i*3) (bJ (ya,yc,m)))∧aL V xa m.2.2.length m.2.2∧aL V ya m.2.2.length m.2.2);refine RH 8 E I hH hC λa E=>?_;refine QH E (λw hc=>ae E (hc.1.1 0 (.int .i64 m.1) rfl)) hC λa E=>?_;refine RH 0 E I hH hC λa E=>?_;refine SS E (ae E (hC.1.2 0 (.int .i64 m.1) rfl)) λa E=>?_;refine RH 2 E I hH hC λa E=>?_;rw[bn (by omega)]at E;refine RH 8 E I hH hC λa E=>?_;refine QH E (λw hc=>ae E (hc.1.1 1 (.int .i64 m.2.1) rfl)) hC λa E=>?_;refine RH 0 E I hH hC λa E=>?_;refine bu E (cu E rfl (s:=28)) (ae E (hC.1.2 1 (.int .i64 m.2.1) rfl)) rfl λa E=>?_;refine RH 3 E I hH hC λa E=>?_;rw[bn (by omega)]at E;refine RH 8 E I hH hC λa E=>?_;refine QH E (λw hc=>ae E (hc.1.1 2 (.slice xa m.2.2.length xc) rfl)) hC λa E=>?_;refine QH E (λw hc=>ky E Tryz.underlying22 Tryz.underlying5 Tryz.underlying9 (hc.2.1)) hC λa E=>?_;refine RH 0 E I hH hC λa E=>?_;refine bu E (cu E rfl (s:=41)) (ae E (hC.1.2 2 (.slice ya m.2.2.length yc) rfl)) rfl λa E=>?_;refine RH 0 E I hH hC λa E=>?_;refine bu E (cu E rfl (s:=41)) (ky E Tryz.underlying22 Tryz.underlying5 Tryz.underlying9 (hC.2.2)) rfl λa E=>?_;refine RH 0 E I hH hC λa E=>?_;refine QP E (λw=>Fc E) λa E=>?_;rw[pC,beq_self_eq_true,Bool.not_true]at E;refine RH 1 E I hH hC λa E=>?_;replace E:=E.aK 55;refine RN 4 E I λa E=>?_;exact⟨n-(i+1),by omega,i+1,⟨rfl,by omega⟩,E.ab [0,1,5],I.sub⟩
 refine RT 2 E I ?_;have h8:=bU.close (n:=n) (c:=c') ((I.pick (ah bS ys)).pick (Sl 60 3 au n c' (rows bJ ys))) lY iS;have h9:=bU.close (n:=n) (c:=c) ((h8.pick (ah bS xs)).pick (Sl 60 3 ad n c (rows bJ xs))) eh b0;exact⟨rfl,h9.sub⟩
end
def jK (k:Nat):Cf:=⟨2,0,77,2,8,1+(k:Int),0,3,2,7⟩
def Dg (a:Nat)(b:UInt8):List fB:=[⟨1,a,(b.toNat:Nat),0⟩,⟨7,a,0,0⟩,⟨7,a,1,0⟩,⟨2,a,0,0⟩,⟨7,0,0,0⟩,⟨3,0,0,0⟩]
theorem aea {a:Nat}{b:UInt8}:∀ t∈Dg a b,t.fn≠6:=by
 intro t ht;simp only[Dg,List.mem_cons,not_mem_nil,or_false]at ht;rcases ht with rfl | rfl | rfl | rfl | rfl | rfl <;> exact (by intro e;simp at e)
theorem H7 (t:fB):(dY t).length=4:=rfl
theorem go7 {p:Pr}{t:fB}{v:Wd}(h:t.fn=7):ds p t v=v:=by rw[ds,ak h]
theorem Wc.more {p:Pr}{cf:Cf}{c d:Nat}{v:Wd}(h:Wc p cf c v)(hd:c≤d):Wc p cf d v:=⟨h.ok.more hd,h.calm⟩
set_option maxHeartbeats 4000000 in
theorem aeb (vS:Pr)(q9:Option Addr)(ra:Nat)(df:Option Addr)(Aa Ab:Nat)(z1:List Int)(dz:Int)(a3:Option Addr)(Ac Ad:Nat)(z3:List Int)(W:World)(w0:Bo W vS q9 ra)(Dh:pT .u8 W df Aa Ab z1)(w2:(Lit.int .i64 dz).wf=true)(w3:pT .u8 W a3 Ac Ad z3) :
   Calls Tryz.prog 10 #[.agg (bx vS q9 ra).toArray,.slice df Aa Ab,.int .i64 dz,.slice a3 Ac Ad] W λe V=>e=.returned (.bool true)∧Below W.heap.size W V:=by
 have I:=U.start W;obtain⟨T0,hT0,aec⟩:=Dh.KV;have aed:=N1 Dh;obtain⟨P0,G1,aee⟩:=w3.KV;have aef:=N1 w3;obtain⟨cv,ew⟩:=XU (K:=40) (by decide) vS;refine EN Tryz.func10 Tryz.ntmps10 rfl rfl λa E=>?_;refine BX 1 E I λb4 a w E I=>?_;change U W w (aa b4 45 (bx vS q9 ra)::_) at I;refine CL 2 E I (adY I) λa w E I=>?_;refine RN 5 E I λa E=>?_;replace E:=E.aK 18;refine CL 3 E I (XX (K:=40) (w0.ro I)) λa w E I=>?_;refine aX 1 E I (N0 (K:=20) I aec aed) λags cT a w E ⟨rU,hcT,I⟩=>?_;refine aX 1 E I (N0 (K:=8) I aee aef) λaeg cP a w E ⟨Ae,hcP,I⟩=>?_;refine SA 0 E I λa w E I=>?_;refine RN 2 E I λa E=>?_;have zB:(T0.take 20).length≤20:=by rw[dH];omega
 have qN:(P0.take 8).length≤8:=by rw[dH];omega
 generalize T0.take 20=T at E rU hcT zB;generalize P0.take 8=P at E Ae hcP qN;generalize oU 40 vS=p at I E cv ew;refine CL 1 E I (ad1 (n:=2) I) λa w E I=>?_;refine AL 0 E I λiJ a w E I=>?_;refine SA 0 E I λa w E I=>?_;refine aW 2 E I (ad0 (k:=3) I (by decide) (by decide)) λk a w E ⟨hk,I⟩=>?_;refine ST 2 E I (λa w E I=>?_);refine ST 1 E I (λa w E I=>?_);refine RN 0 E I λa E=>?_;replace I:U W w (aa iJ 28 (bV (jK k))::_):=I;refine aW 5 E I (acu (cf:=jK k) (tb:=T) (I.pick (az W p q9 ra)) cv ew rfl) λrr a w E ⟨jh,I⟩=>?_;refine IF 1 E I (λao a E=>?_) λao a E=>?_
 ·
  refine RT 2 E I ?_;exact⟨rfl,I.below⟩
 refine RN 1 E I λa E=>?_;have eV:=jh.1 (by simpa using ao);have H8:Rd w iJ 0 (bV (jK k)):=I.ai (b:=iJ);have lj:Rd w b4 0 (bx p q9 ra):=I.ai (b:=b4);have PL:=Rd.lt H8;have FZ:b4<w.heap.size:=Rd.lt lj;have xS:zZ w p q9 ra:=U.roW (I.pick (az W p q9 ra));have uQ:=I.below;obtain⟨W2,PM⟩:∃ W2,W2=w:=⟨_,rfl⟩;replace I:U W2 w []:=by rw[PM];exact U.start w
 rw[← PM]at H8 lj PL FZ xS uQ;replace rU:=rU.below uQ;replace Ae:=Ae.below uQ;have PN:∀ {V L},U W2 V L→Rd V iJ 0 (bV (jK k)):=λI j v hj=>(I.below.cell PL).trans (H8 j v hj);have PO:∀ {V L},U W2 V L→Rd V b4 0 (bx p q9 ra):=λI j v hj=>(I.below.cell FZ).trans (lj j v hj);refine a1 0 (λw0 V=>U W2 V []) [1,3,4,5] [2,6,3000,3001,3004,3005,1003,1007,8,9] E I λa w E I hH=>?_;have hC:=hH.at w I;refine RH 2 E I hH hC λa E=>?_;refine QH E (λw hc=>bQ E Tryz.underlying28 rfl Ty.t28 (PN hc)) hC λa E=>?_;refine QH E (λw hc=>bQ E Tryz.underlying45 rfl Ty.t45 (PO hc)) hC λa E=>?_;refine QH E (λw hc=>bQ E Tryz.underlying28 rfl Ty.t28 (PN hc)) hC λa E=>?_;refine QH E (λw hc=>bQ E Tryz.underlying45 rfl Ty.t45 (PO hc)) hC λa E=>?_;refine RH 0 E I hH hC λa E=>?_;refine aX 0 E I (Pq (cf:=jK k) (tb:=T) eV I xS rfl eV.2.1 cv ew (by omega) (λV h=>rU.fK h)) λDi D1 a w E ⟨H9,I⟩=>?_;replace hC:=hH.at w I.nil;refine RH 0 E I hH hC λa E=>?_;refine aX 0 E I (Pq (cf:=jK k) (tb:=T) eV I xS rfl eV.2.1 cv ew (by omega) (λV h=>rU.fK h)) λDk D2 a w E ⟨zX,I⟩=>?_;replace hC:=hH.at w I.nil;refine RH 2 E I hH hC λa E=>?_;have PQ:xW W2 p Di D1 (jK k) T true:=⟨H9.1,H9.2.1,H9.2.2,eV.2.2,eV.2.1,cv⟩;have PR:xW W2 p Dk D2 (jK k) T false:=⟨zX.1,zX.2.1,zX.2.2,eV.2.2,eV.2.1,cv⟩;have aj:Wc p (jK k) 0 (gM p (jK k) (jK k).n.toNat):=Wc.new (p:=p) eV.1;have PS:c9 p (jK k) (λ_=>True) _ (gM p (jK k) (jK k).n.toNat):=c9.new (p:=p) eV.1;generalize gM p (jK k) (jK k).n.toNat=v0 at I aj PS;generalize W2=W at I PQ PR uQ Ae;refine RN 5 E I λa E=>?_;replace E:=E.aK 46;refine RN 3 E I λa E=>?_;replace E:=E.aK 49;refine RN 4 E I λa E=>?_;refine aQ (λμ a w=>∃ (i Af cb:Nat) (v:Wd) (G:List (List UInt8)),(μ=P.length-i∧(i≤P.length∧Af≤60*i∧cb≤60*i)∧(Wc p (jK k) Af v∧Wc p (jK k) cb v)∧c9 p (jK k) (λ_=>True) G v)∧Fr a 119 [(3,.slice aeg P.length cP),(11,pt D1.wb),(12,pt D2.wb),(13,.int .i64 i)]∧U W w (aR W Di p Af v::bK W D1 p v::aR W Dk p cb v::bK W D2 p v::[])) (P.length) (⟨0,0,0,v0,_,⟨rfl,⟨by omega,by omega,by omega⟩,⟨aj,aj⟩,PS⟩,E.ab [3,11,12,13],I.sub⟩) ?_;clear E I;rintro μ a w ⟨i,Af,cb,v,G,⟨rfl,⟨hi,aeh,aei⟩,⟨re,p9⟩,jm⟩,E,I⟩;refine IF 6 E I (λbj a E=>?_) λbj a E=>?_
 ·
  have aF:i<P.length:=by omega
  obtain⟨aej,aek,rfl,w4⟩:=(Ae.fK I).get (by omega);have hx8:=lK P[i];have iE:((i:Nat):Int).tmod 2=((i%2:Nat):Int):=rfl;refine RN 4 E I λa E=>?_;rw[iE]at E;refine RN 3 E I λa E=>?_;refine SS E (ae E (w4 i _ (dQ (by omega)))) λa E=>?_;refine SX 0 E I (fU (by omega) (by omega)) λa E=>?_;refine RN 3 E I λa E=>?_;rw[iE]at E;refine RN 3 E I λa E=>?_;rw[iE]at E;refine RN 3 E I λa E=>?_;rw[iE]at E;refine RN 3 E I λa E=>?_;refine cn E rfl I Tryz.underlying84 Ty.t58 rfl rfl rfl rfl (by decide) (by decide) λxY a w E I ho=>?_;clear ho;refine RN 1 E I λa E=>?_;obtain⟨ls,eD⟩:∃ ls,ls=Dg (i%2) P[i]:=⟨_,rfl⟩;replace I:U W w (aa xY 58 (rows dY (Dg (i%2) P[i]))::_):=I;rw[← eD]at I;have hl6:ls.length=6:=by rw[eD];rfl
  have dj:∀ t∈ls,t.fn≠6:=by rw[eD];exact aea
  clear eD;refine RN 2 E I λa E=>?_;refine aQ (λμ a w=>∃ (j ug uh:Nat) (v:Wd) (G:List (List UInt8)),(μ=6-j∧(j≤6∧ug≤60*i+10*j∧uh≤60*i+10*j)∧(Wc p (jK k) ug v∧Wc p (jK k) uh v)∧c9 p (jK k) (λ_=>True) G v)∧Fr a 119 [(3,.slice (some ⟨aej,aek,none⟩) P.length cP),(11,pt D1.wb),(12,pt D2.wb),(13,.int .i64 i),(14,.slice (some ⟨xY,0,none⟩) 6 6),(15,.int .i64 j)]∧U W w (aa xY 58 (rows dY ls)::aR W Di p ug v::bK W D1 p v::aR W Dk p uh v::bK W D2 p v::[])) (6) (⟨0,Af,cb,v,G,⟨rfl,⟨by omega,by omega,by omega⟩,⟨re,p9⟩,jm⟩,E.ab [3,11,12,13,14,15],I.sub⟩) ?_;clear E I;rintro μ a w ⟨j,ug,uh,v,G,⟨rfl,⟨hj,aeh,aei⟩,⟨re,p9⟩,jm⟩,E,I⟩;refine IF 6 E I (λbO a E=>?_) λbO a E=>?_
  ·
   have ea:j<6:=by omega
   obtain⟨t,ht⟩:∃ t,ls[j]?=some t:=⟨_,aD (by omega)⟩;have ht6:=dj t (bH ht);obtain⟨ael,hG2⟩:=jm.go (t:=t) re.ok trivial trivial ht6;have aem:=re.go (t:=t);have aen:=p9.go (t:=t);refine RN 6 E I λa E=>?_;refine SS E (bQ E Tryz.underlying58 rfl Ty.t58 ((by have h9:=g8 H7 (I.ai (b:=xY)) ht;rwa [ep]at h9))) λa E=>?_;refine CL 0 E I (PE ((I.pick (bK W D1 p v)).pick (aR W Di p ug v)) PQ re.ok re.calm (by omega)) λa w E I=>?_;refine RN 2 E I λa E=>?_;replace E:=E.aK 89;refine RN 4 E I λa E=>?_;refine bu E (cu E rfl (s:=89)) (ae E ((by have h9:=g8 H7 (I.ai (b:=xY)) ht;rw[ep]at h9;exact h9 0 _ rfl))) rfl λa E=>?_;refine BY 2 E I (λjO a E=>?_) λjO a E=>?_
   ·
    refine RN 4 E I λa E=>?_;refine bu E (cu E rfl (s:=96)) (bQ E Tryz.underlying58 rfl Ty.t58 ((by have h9:=g8 H7 (I.ai (b:=xY)) ht;rwa [ep]at h9))) rfl λa E=>?_;refine CL 0 E I (PE ((I.pick (bK W D2 p v)).pick (aR W Dk p uh v)) PR p9.ok p9.calm (by omega)) λa w E I=>?_;refine RN 3 E I λa E=>?_;replace E:=E.aK 105;refine RN 4 E I λa E=>?_;exact⟨6-(j+1),by omega,j+1,ug+10,uh+10,ds p t v,ael,⟨rfl,⟨by omega,by omega,by omega⟩,⟨aem,aen⟩,hG2⟩,E.ab [3,11,12,13,14,15],I.sub⟩
   refine RN 13 E I λa E=>?_;have h7:t.fn=7:=by simpa using jO
   rw[go7 h7]at I;exact⟨6-(j+1),by omega,j+1,ug+10,uh,v,G,⟨rfl,⟨by omega,by omega,by omega⟩,⟨re.more (by omega),p9⟩,jm⟩,E.ab [3,11,12,13,14,15],I.sub⟩
  refine RN 3 E I λa E=>?_;exact⟨P.length-(i+1),by omega,i+1,ug,uh,v,G,⟨rfl,⟨by omega,by omega,by omega⟩,⟨re,p9⟩,jm⟩,E.ab [3,11,12,13],I.sub⟩
 refine RN 1 E I λa E=>?_;have oM:=re.ok.net.1;obtain⟨Ia,lW,adN,cN,adE,cE,xs,es,⟨eH,da,eK⟩,I⟩:=bK.open (I.pick (bK W D1 p v));obtain⟨aeo,cA2,q7,q8,aep,cE2,xs2,es2,_,I⟩:=bK.open (I.pick (bK W D2 p v));refine a1 0 (λw0 V=>Rd V D1.wb 0 [pt D1.mb,.slice Ia xs.length lW,.slice adN v.net.length cN,.slice adE es.length cE]∧Rd V D2.wb 0 [pt D2.mb,.slice aeo xs2.length cA2,.slice q7 v.net.length q8,.slice aep es2.length cE2]) [7] [0,1,2,4,5,6,3003,1007,1008,9,10,1011,12,13] E I λa w E I hH=>?_;have hC:=hH.at w ⟨I.ai (b:=D1.wb),I.ai (b:=D2.wb)⟩;refine RH 6 E I hH hC λa E=>?_;refine QH E (λw hc=>ae E (hc.1 2 _ rfl)) hC λa E=>?_;refine RH 0 E I hH hC λa E=>?_;refine SS E (ae E (hC.2 2 _ rfl)) λa E=>?_;refine RH 0 E I hH hC λa E=>?_;refine CL 0 E I (ad9 ((I.pick (bU 60 q7 v.net.length q8 v.net)).pick (bU 60 adN v.net.length cN v.net)) (by omega)) λa w E I=>?_;replace hC:=hH.at w ⟨I.ai (b:=D1.wb),I.ai (b:=D2.wb)⟩;refine RH 1 E I hH hC λa E=>?_;replace E:=E.eG 115;refine RH 1 E I hH hC λa E=>?_;have h9:=bK.close (I.sub (M:=aa D1.wb 40 [pt D1.mb,.slice Ia xs.length lW,.slice adN v.net.length cN,.slice adE es.length cE]::Sl 34 1 Ia xs.length lW (xs.map dM)::ah (dm W p) xs::bU 60 adN v.net.length cN v.net::Sl 70 1 adE es.length cE (es.map bw)::ah fj es::[])) eH da eK;replace I:=h9;refine CL 0 E I (ad8 I re.ok jm (by omega)) λa w E I=>?_;refine RN 2 E I λa E=>?_;refine RT 0 E I ?_;exact⟨rfl,adW uQ I⟩
end
section
set_option maxRecDepth 100000
theorem gq {x y:Bool}(h:x=true)(k:y=true):(x&&y)=true:=by rw[h,k];rfl
theorem aeq {P:Program}{f:FuncId}{fn:Func}{s:ChangeSpec}{c:OpenClaim}(k1:c.wf (OpenSpec.ofChange s)=true)(k2:laidOutB P=true)(k3:mapsRowed P=true)(ln:fn.params.all (P.readableRec ·)=true)(y8:namedTie P c.named s.vars=true)
   (aer:(c.stops==[])=true) (aes:(P.stops==[])=true) (aet:(c.knobs==[])=true) (aeu:(P.stopKnobs==[])=true) (Ib:(c.inPlace==P.inPlace f)=true) (Dd:(c.unfollowed==P.unfollowed f)=true) (Ic:(c.recurses==P.recurses f)=true) (Ie:(c.named==P.varsNamed f)=true)
   (k14:(c.maps==(fn.params.toList++s.plain.varTypes P).any (P.mapsRec ·))=true) (k15:(c.ifaces==(fn.params.toList++s.plain.varTypes P).any (P.ifacesRec ·))=true) (k16:(c.mapsOut==P.mapsAmong fn.resultTypes.toList)=true)
   (k17:(c.loops==(fn.params.toList++s.plain.varTypes P).any (P.loopsFrom ·))=true) (k18:(c.wideKeys==(fn.params.toList++s.plain.varTypes P++fn.resultTypes.toList).any (P.wideKeysFrom ·))=true) (k19:s.vars.all (P.varReadable ·)=true) (k20:fn.resultTypes.all (λt=>P.readableRec t&&decide (t<P.types.size))=true)
   (k21:(c.ifacesOut==fn.resultTypes.toList.any (P.ifacesRec ·))=true) (k22:(c.loopsOut==fn.resultTypes.toList.any (P.loopsFrom ·))=true) (k23:(c.plainKeys==P.plainKeys)=true) (k24:c.shortTexts.isNone=true) (k25:P.stopsHeard=true) (k26:P.mayEnter=true) (k27:(c.lifted==P.liftsFinal)=true) (k28:(P.make==some c.make)=true)
   (k29:(c.kinds==(if c.domain.isEmpty then [] else fn.params.toList.map λt=>match P.underlying t with | some (.int k)=>some k | _=>none))=true) (k30:(c.pinned==c.pinnedBy)=true) (k31:(c.veiled==(fn.params.toList++s.plain.varTypes P++fn.resultTypes.toList).any (P.veiledRec ·))=true) (k32:c.veiledFits P fn.params.toList (fn.params.toList++s.plain.varTypes P++fn.resultTypes.toList)=true):joinedFacts P f fn s c=true:=by
 unfold joinedFacts;exact gq (gq (gq (gq (gq (gq (gq (gq (gq (gq (gq (gq (gq (gq (gq (gq (gq (gq (gq (gq (gq (gq (gq (gq (gq (gq (gq (gq (gq (gq (gq k1 k2) k3) ln) y8) aer) aes) aet) aeu) Ib) Dd) Ic) Ie) k14) k15) k16) k17) k18) k19) k20) k21) k22) k23) k24) k25) k26) k27) k28) k29) k30) k31) k32
theorem PT:laidOutB Tryz.prog=true:=by kernel_rfl
theorem aev:mapsRowed Tryz.prog=true:=by kernel_rfl
theorem aew:Tryz.prog.stopsHeard=true:=by kernel_rfl
theorem aex:Tryz.prog.mayEnter=true:=by kernel_rfl
theorem aey (c:OpenClaim)(h:c.plainKeys=Rows.matchNoneRow.plainKeys):(c.plainKeys==Tryz.prog.plainKeys)=true:=by
 rw[h];kernel_rfl
theorem aez (c:OpenClaim)(h:c.lifted=Rows.matchNoneRow.lifted):(c.lifted==Tryz.prog.liftsFinal)=true:=by
 rw[h];kernel_rfl
theorem aeA (c:OpenClaim)(h:c.make=Rows.matchNoneRow.make):(Tryz.prog.make==some c.make)=true:=by
 rw[h];kernel_rfl
end
end Go.Proofs.YteoldcfapaiobaaGreat
