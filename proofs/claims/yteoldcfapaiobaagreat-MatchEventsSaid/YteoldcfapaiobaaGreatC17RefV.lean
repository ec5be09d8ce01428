/- The document's players: what can be read of all of them. -/
import Derived.Test.YteoldcfapaiobaaGreatC16HonW
import Derived.Test.YteoldcfapaiobaaGreatC13RefC
import Derived.Test.YteoldcfapaiobaaGreatC14RefG
import Derived.Test.YteoldcfapaiobaaGreatC15ArgC
import Derived.Test.YteoldcfapaiobaaGreatRows
import Derived.KernelRfl
import Derived.JoinedOf
namespace Go.Proofs.YteoldcfapaiobaaGreat
open List (mem_cons_self nil_append map_cons length_nil getElem?_range getElem_mem)
open Go.RowKit
set_option linter.unusedVariables false
set_option linter.unusedSimpArgs false
set_option maxRecDepth 10000
set_option synthInstance.maxSize 4000
set_option synthInstance.maxHeartbeats 400000
section
abbrev wL:=(fT×Pl)×(my×List ea)
def lO (W:World)(p:Pr)(y:wL):SP:=λh=>bj y.2.2=y.1.2.k.ls∧cm [aa y.1.1.pb 51 (eP p y.1.1 y.1.2.g),aa y.1.1.core.cb 72 (cU y.1.2.k y.1.1.core y.2.1),Sl 65 1 (some ⟨y.1.1.core.lb,y.1.1.core.lo,none⟩) y.1.2.k.ls.length y.1.1.core.cL (y.2.2.map aM),ah a7 y.2.2,
 aa y.1.1.core.hb 3 (eZ y.1.2.k.ps),aa y.1.1.core.dV 3 (eO y.1.2.k.ps),aa y.1.1.core.wb 313 (rows e4 y.1.2.k.ps),aa y.1.1.core.xb 4 (e0 y.1.2.k.ps),Sl 100 1 y.2.1.ck y.1.2.k.mr.length y.2.1.cM (c4 y.1.2.k.mr),Sl 102 3 y.2.1.adE y.1.2.k.ev.length y.2.1.cE (rows bW y.1.2.k.ev),aA W p y.1.1.aq y.1.1.cO] h
structure acx (w:World)(p:Pr)(y:wL):Prop where
 pb:Rd w y.1.1.pb 0 (eP p y.1.1 y.1.2.g)
 cb:Rd w y.1.1.core.cb 0 (cU y.1.2.k y.1.1.core y.2.1)
 ls:iJ w (some ⟨y.1.1.core.lb,y.1.1.core.lo,none⟩) y.2.2
 eq:bj y.2.2=y.1.2.k.ls
 mr:0<y.1.2.k.mr.length→∃ b o,y.2.1.ck=some ⟨b,o,none⟩∧Rd w b o (c4 y.1.2.k.mr)
section
variable {W w:World}{L:List SP}{i:Nat}{p:Pr}{xs:List (fT×Pl)}{ys:List wL}{y:wL}{k:Ks}{A:my}{BD:List ea}
theorem acy {x:fT×Pl}(I:U W w (dj W p x::L)):∃ z,U W w (lO W p (x,z)::L):=by
 replace I:U W w (bX W x.1 p x.2::L):=I;obtain⟨A,I⟩:=aW.open ((bX.open I).pick (aW x.1.core x.2.k));obtain⟨BD,cj,I⟩:=bL.open (I.pick (bL x.1.core.lb x.1.core.lo x.1.core.cL x.2.k.ls));refine⟨(A,BD),U.shut (M:=[_,_,_,_,_,_,_,_,_,_,_]) (I.sub (M:=aa x.1.pb 51 (eP p x.1 x.2.g)::aa x.1.core.cb 72 (cU x.2.k x.1.core A)::Sl 65 1 (some ⟨x.1.core.lb,x.1.core.lo,none⟩) x.2.k.ls.length x.1.core.cL (BD.map aM)::ah a7 BD::aa x.1.core.hb 3 (eZ x.2.k.ps)::aa x.1.core.dV 3 (eO x.2.k.ps)::aa x.1.core.wb 313 (rows e4 x.2.k.ps)::aa x.1.core.xb 4 (e0 x.2.k.ps)::Sl 100 1 A.ck x.2.k.mr.length A.cM (c4 x.2.k.mr)::Sl 102 3 A.adE x.2.k.ev.length A.cE (rows bW x.2.k.ev)::aA W p x.1.aq x.1.cO::L)) λ_ h=>⟨cj,h⟩⟩
theorem lO.open (I:U W w (lO W p y::L)):bj y.2.2=y.1.2.k.ls∧U W w (aa y.1.1.pb 51 (eP p y.1.1 y.1.2.g)::aa y.1.1.core.cb 72 (cU y.1.2.k y.1.1.core y.2.1)::Sl 65 1 (some ⟨y.1.1.core.lb,y.1.1.core.lo,none⟩) y.1.2.k.ls.length y.1.1.core.cL (y.2.2.map aM)::ah a7 y.2.2 ::
 aa y.1.1.core.hb 3 (eZ y.1.2.k.ps)::aa y.1.1.core.dV 3 (eO y.1.2.k.ps)::aa y.1.1.core.wb 313 (rows e4 y.1.2.k.ps)::aa y.1.1.core.xb 4 (e0 y.1.2.k.ps)::Sl 100 1 y.2.1.ck y.1.2.k.mr.length y.2.1.cM (c4 y.1.2.k.mr)::Sl 102 3 y.2.1.adE y.1.2.k.ev.length y.2.1.cE (rows bW y.1.2.k.ev)::aA W p y.1.1.aq y.1.1.cO::L) :=
 ⟨I.tell λ_ h=>h.1,I.open (M:=[_,_,_,_,_,_,_,_,_,_,_]) λ_ h=>h.2⟩
theorem acz (I:U W w (lO W p y::L)):U W w (dj W p y.1::L):=by
 obtain⟨cj,I⟩:=lO.open I;replace I:=bL.close ((I.pick (ah a7 y.2.2)).pick (Sl 65 1 (some ⟨y.1.1.core.lb,y.1.1.core.lo,none⟩) y.1.2.k.ls.length y.1.1.core.cL (y.2.2.map aM))) cj;replace I:=aW.fold I y.1.1.core y.1.2.k y.2.1;exact bX.fold I y.1.1 p y.1.2
theorem NO:∀ {xs:List (fT×Pl)} {L:List SP},U W w (ah (dj W p) xs::L)→∃ ys:List wL,ys.map (·.1)=xs∧U W w (ah (lO W p) ys::L)
 | [],_,I=>⟨[],rfl,U.iI I.tail⟩
 | x::xs,L,I=>by
  have h1:U W w (dj W p x::ah (dj W p) xs::L):=U.fE (l:=x::xs) (i:=0) I (by simp);obtain⟨z,h2⟩:=acy h1;obtain⟨ys,h3,h4⟩:=NO (h2.pick (ah (dj W p) xs));exact⟨(x,z)::ys,by rw[map_cons,h3],U.vd (h4.pick (lO W p (x,z)))⟩
theorem NP:∀ {ys:List wL} {L:List SP},U W w (ah (lO W p) ys::L)→U W w (ah (dj W p) (ys.map (·.1))::L)
 | [],_,I=>U.iI I.tail
 | y::ys,L,I=>by
  have h1:U W w (lO W p y::ah (lO W p) ys::L):=U.fE (l:=y::ys) (i:=0) I (by simp);have h2:=NP ((acz h1).pick (ah (lO W p) ys));exact U.vd (h2.pick (dj W p y.1))
theorem NQ (I:U W w (ah (lO W p) ys::L))(hy:ys[i]?=some y):acx w p y:=by
 obtain⟨hi,h1⟩:=a2.1 hy;replace I:=I.fE hi;rw[h1]at I;obtain⟨h2,I⟩:=lO.open I;refine⟨I.ai (b:=y.1.1.pb),I.ai (b:=y.1.1.core.cb),?_,h2,λh0=>?_⟩
 ·exact U.oD ((I.pick (ah a7 y.2.2)).pick (Sl 65 1 (some ⟨y.1.1.core.lb,y.1.1.core.lo,none⟩) y.1.2.k.ls.length y.1.1.core.cL (y.2.2.map aM)))
 ·exact (I.pick (Sl 100 1 y.2.1.ck y.1.2.k.mr.length y.2.1.cM (c4 y.1.2.k.mr))).bY y.2.1.ck h0
end
end
section
section
variable {W w:World}{L:List SP}{c i:Nat}{p:Pr}{v:Wd}{B:jk}{D:pK}{t:fU}{cf:Cf}{tb:List UInt8}{jm:Bool}
instance fJ.isNil (z:fJ):th z.mul (!z.yH):=⟨by
 cases z with
 | mu M=>exact .inr ⟨⟨_,rfl⟩,rfl⟩
 | pl B=>exact .inl ⟨rfl,rfl⟩⟩
theorem fJ.acA {z:fJ}(h:z.yH=true):∃ M,z=.mu M:=by
 cases z with
 | mu M=>exact⟨M,rfl⟩
 | pl B=>cases h
theorem acB {adL adE im:Option Addr}{cL cE iq:Nat}{xs:List (fz×Pl)}{es:List kr}{l:List jy}(I:U W w (aa B.mb 107 [.slice adL xs.length cL,pt B.q,.slice adE es.length cE]::Sl 81 1 adL xs.length cL (xs.map cA)::Sl 90 1 adE es.length cE (es.map bx)::ah eA es::L))(hi:i<xs.length)(hK:es[i]?=some (im,iq,l))(hl:l.length≤1000000000) :
   Calls Tryz.prog 34 #[pt B.mb,.int .i64 i] w λe V=>∃ ad c',e=.returned (.slice ad l.length c')∧U W V (Sl 135 1 ad l.length c' (l.map cx)::aa B.mb 107 [.slice adL xs.length cL,pt B.q,.slice adE es.length cE]::Sl 81 1 adL xs.length cL (xs.map cA)::Sl 90 1 adE es.length cE (es.map bx)::ah eA es::L):=by
 obtain⟨wG,oK⟩:=a2.1 hK;refine EN Tryz.func34 Tryz.ntmps34 rfl rfl λa E=>?_;refine CL 6 E I (rA I hi) λa w E I=>?_;refine RN 1 E I λa E=>?_;replace E:=E.aN 8;refine RN 2 E I λa E=>?_;obtain⟨eQ,oE,rfl,iM⟩:=(I.pick (Sl 90 1 adE es.length cE (es.map bx))).bY adE (by omega);have og:=iM i (.slice im l.length iq) (by rw[bm,hK];rfl);refine RN 6 E I λa E=>?_;refine SS E (ag E (og)) λa E=>?_;replace I:=(I.pick (ah eA es)).fE wG;rw[oK]at I;change U W w (Sl 135 1 im l.length iq (l.map cx)::_) at I;refine aY 0 E I (M0 I hl) λad2 c2 a w E I=>?_;refine RT 1 E I ?_;refine⟨ad2,c2,rfl,?_⟩;have h4:=(I.pick (ah eA (es.eraseIdx i))).pick (Sl 135 1 im l.length iq (l.map cx));have h5:U W w (ah eA es::_):=U.wC (f:=eA) wG (by rw[oK];exact h4);exact h5.sub
theorem Gz {xs:List (fz×Pl)}{x:fz}{s:Pl}(I:U W w (x.J W p c s::ah (cy W p c) (xs.eraseIdx i)::L))(hx:xs[i]?=some (x,s)):U W w (ah (cy W p c) xs::L):=by
 obtain⟨hi,h1⟩:=a2.1 hx;refine U.wC hi ?_;rw[h1];exact I
set_option maxHeartbeats 2000000 in
theorem acC (I:U W w (aH W B p c v::bw W D p v::L))(wH:D.mb=B.mb)(hB:B.Ok p c)(hv:bD p cf c v)(hP:uV B.fp cf tb jm v.ps.length)(rk:BC W D.mB cf tb)(fy:cR ⟨cf.ba,cf.order,tb⟩)(k9:9*c+100≤1000000000) :
   Calls Tryz.prog 33 #[pt D.wb] w λe V=>e=.returned (.bool true)∧U W V (aH W B p c v::bw W D p v::L):=by
 replace I:=aH.uS I;obtain⟨adL,cL,adE,cE,xs,es,⟨eg,c3,dJ⟩,I⟩:=I;replace I:=bw.open (I.pick (bw W D p v));obtain⟨adP,cP,adN,cN,oO,nc,rs,fs,⟨jO,l5,rl⟩,I⟩:=I;rw[wH]at I;obtain⟨ys,nH,j3,I⟩:=cu.open (I.pick (cu 60 adN v.net.length cN v.net));have cj:xs.length=v.ps.length:=by rw[← c3,bd]
 have iM:rs.length=v.ps.length:=by rw[← l5,bd]
 have uW:ys.length=v.net.length:=by rw[← nH,bd]
 have o6:=hv.net.1;have aci:es.length=v.ps.length:=by rw[← hv.ev,← dJ,bd]
 have aeX:fs.length=v.ps.length:=by rw[← hv.ev,← rl,bd]
 have M9:=hv.ev;have pD:=hv.len;replace I:U W w (aa B.mb 107 [.slice adL xs.length cL,pt B.q,.slice adE es.length cE]::Sl 81 1 adL xs.length cL (xs.map cA)::ah (cy W p c) xs::bJ B.q (v.net.map cK)::Sl 90 1 adE es.length cE (es.map bx)::ah eA es::aa D.wb 40 [pt B.mb,.slice adP rs.length cP,.slice adN v.net.length cN,.slice oO fs.length nc]::Sl 34 1 adP rs.length cP (rs.map ek)::ah (dj W p) rs::Sl 60 3 adN v.net.length cN (rows bZ ys)::ah b0 ys::Sl 70 1 oO fs.length nc (fs.map bx)::ah fK fs::L):=I.sub;refine EN Tryz.func33 Tryz.ntmps33 rfl rfl λa E=>?_;refine aZ 4 (λw0 V=>Rd V D.wb 0 [pt B.mb,.slice adP rs.length cP,.slice adN v.net.length cN,.slice oO fs.length nc]) [4,5,9,10] [0,1,2,6,7,8,3003,3009,3010,1004,1005,11] E I λa w E I hH=>?_;have hC:=hH.at w (I.ai (b:=D.wb));refine RH 6 E I hH hC λa E=>?_;refine QH E (λw hc=>ag E (hc 0 _ rfl)) hC λa E=>?_;refine QH E (λw hc=>ag E (hc 2 _ rfl)) hC λa E=>?_;refine RH 1 E I hH hC λa E=>?_;refine CL 0 E I (Bg (I.pick (aa B.mb 107 [.slice adL xs.length cL,pt B.q,.slice adE es.length cE]))) λa w E I=>?_;replace hC:=hH.at w (I.ai (b:=D.wb));refine RH 0 E I hH hC λa E=>?_;refine CL 0 E I (MD (I.pick (bJ B.q (v.net.map cK)))) λa w E I=>?_;replace hC:=hH.at w (I.ai (b:=D.wb));rw[bd]at E;refine RH 1 E I hH hC λa E=>?_;rw[bn (by simp)]at E;refine RN 4 E I λa E=>?_;refine aR (λμ a w=>∃ (i:Nat),(μ=v.net.length-i∧i≤v.net.length)∧Fr a 150 [(0,pt D.wb),(3,.int .i64 i)]∧U W w (aa B.mb 107 [.slice adL xs.length cL,pt B.q,.slice adE es.length cE]::Sl 81 1 adL xs.length cL (xs.map cA)::ah (cy W p c) xs::bJ B.q (v.net.map cK)::Sl 90 1 adE es.length cE (es.map bx)::ah eA es::aa D.wb 40 [pt B.mb,.slice adP rs.length cP,.slice adN v.net.length cN,.slice oO fs.length nc]::Sl 34 1 adP rs.length cP (rs.map ek)::ah (dj W p) rs::Sl 60 3 adN v.net.length cN (rows bZ ys)::ah b0 ys::Sl 70 1 oO fs.length nc (fs.map bx)::ah fK fs::L)) (v.net.length) (⟨0,⟨rfl,by omega⟩,E.ab [0,3],I.sub⟩) ?_;clear E I;rintro μ a w ⟨i,⟨rfl,hi⟩,E,I⟩;refine IF 9 E I (λao a E=>?_) λao a E=>?_
 ·
  have aJ:i<v.net.length:=by omega
  obtain⟨y,hy,acD⟩:∃ y,ys[i]?=some y∧v.net[i]?=some y.2.2:=by
   refine⟨_,aI (by omega),?_⟩;rw[← nH,bm,aI (by omega)];rfl
  obtain⟨bC,on,rfl,_⟩:=(I.pick (Sl 60 3 adN v.net.length cN (rows bZ ys))).bY adN (by omega);refine CL 6 E I (Bg (I.pick (aa B.mb 107 [.slice adL xs.length cL,pt B.q,.slice adE es.length cE]))) λa w E I=>?_;refine aY 1 E I (Gc (I.pick (bJ B.q (v.net.map cK))) acD) λam jl a w E I=>?_;refine AL 3 E I λb4 a w E I=>?_;refine SA 0 E I λa w E I=>?_;refine aZ 2 (λw0 V=>(Rd V b4 0 [.int .i64 y.2.2.1,.int .i64 y.2.2.2.1,.slice am y.2.2.2.2.length jl]∧Rd V D.wb 0 [pt B.mb,.slice adP rs.length cP,.slice (some ⟨bC,on,none⟩) v.net.length cN,.slice oO fs.length nc])∧Rd V bC (on+i*3) (bZ y)∧a6 V am y.2.2.2.2.length y.2.2.2.2∧a6 V y.1 y.2.2.2.2.length y.2.2.2.2) [8,10,11,12,21,23,24,25,35,37,38,39,40] [0,1,2,3,5,6,7,9,3004,1008,1010,1011,1012,13,14,15,16,18,19,20,22,3017,1021,1023,1024,1025,26,27,28,29,32,33,34,36,3030,3031,1035,1037,1038,1039,1040,41,42] E I λa w E I hH=>?_;have hC:=hH.at w ⟨⟨I.ai (b:=b4),I.ai (b:=D.wb)⟩,jA oy (I.cC bC on (by omega)) hy,I.cF am _ rfl rfl,Gr (I.pick (ah b0 ys)) hy⟩;refine RH 3 E I hH hC λa E=>?_;replace E:=E.aN 41;refine RH 5 E I hH hC λa E=>?_;refine QH E (λw hc=>ag E (hc.1.1 0 _ rfl)) hC λa E=>?_;refine RH 0 E I hH hC λa E=>?_;refine bE E (cS E rfl (s:=41)) (ag E (hC.1.2 2 _ rfl)) rfl λa E=>?_;refine RH 2 E I hH hC λa E=>?_;refine bE E (cS E rfl (s:=41)) (ag E (hC.2.1 0 _ rfl)) rfl λa E=>?_;refine RH 3 E I hH hC λa E=>?_;rw[bn (by omega)]at E;refine RH 5 E I hH hC λa E=>?_;refine QH E (λw hc=>ag E (hc.1.1 1 _ rfl)) hC λa E=>?_;refine RH 0 E I hH hC λa E=>?_;refine bE E (cS E rfl (s:=54)) (ag E (hC.1.2 2 _ rfl)) rfl λa E=>?_;refine RH 2 E I hH hC λa E=>?_;refine bE E (cS E rfl (s:=54)) (ag E (hC.2.1 1 _ rfl)) rfl λa E=>?_;refine RH 3 E I hH hC λa E=>?_;rw[bn (by omega)]at E;refine RH 5 E I hH hC λa E=>?_;refine QH E (λw hc=>ag E (hc.1.1 2 _ rfl)) hC λa E=>?_;refine QH E (λw hc=>lV E Tryz.underlying22 Tryz.underlying5 Tryz.underlying9 (hc.2.2.1)) hC λa E=>?_;refine RH 0 E I hH hC λa E=>?_;refine bE E (cS E rfl (s:=67)) (ag E (hC.1.2 2 _ rfl)) rfl λa E=>?_;refine RH 2 E I hH hC λa E=>?_;refine bE E (cS E rfl (s:=67)) (ag E (hC.2.1 2 _ rfl)) rfl λa E=>?_;refine RH 0 E I hH hC λa E=>?_;refine bE E (cS E rfl (s:=67)) (lV E Tryz.underlying22 Tryz.underlying5 Tryz.underlying9 (hC.2.2.2)) rfl λa E=>?_;refine RH 0 E I hH hC λa E=>?_;refine QP E (λw=>Ws E) λa E=>?_;rw[qI,beq_self_eq_true,Bool.not_true]at E;refine RH 1 E I hH hC λa E=>?_;replace E:=E.aN 81;refine RN 4 E I λa E=>?_;exact⟨v.net.length-(i+1),by omega,i+1,⟨rfl,by omega⟩,E.ab [0,3],I.sub⟩
 refine RN 3 E I λa E=>?_;refine aR (λμ a w=>∃ (i:Nat),(μ=v.ps.length-i∧i≤v.ps.length)∧Fr a 150 [(0,pt D.wb),(6,.int .i64 i)]∧U W w (aa B.mb 107 [.slice adL xs.length cL,pt B.q,.slice adE es.length cE]::Sl 81 1 adL xs.length cL (xs.map cA)::ah (cy W p c) xs::bJ B.q (v.net.map cK)::Sl 90 1 adE es.length cE (es.map bx)::ah eA es::aa D.wb 40 [pt B.mb,.slice adP rs.length cP,.slice adN v.net.length cN,.slice oO fs.length nc]::Sl 34 1 adP rs.length cP (rs.map ek)::ah (dj W p) rs::Sl 60 3 adN v.net.length cN (rows bZ ys)::ah b0 ys::Sl 70 1 oO fs.length nc (fs.map bx)::ah fK fs::L)) (v.ps.length) (⟨0,⟨rfl,by omega⟩,E.ab [0,6],I.sub⟩) ?_;clear E I;rintro μ a w ⟨i,⟨rfl,hi⟩,E,I⟩;refine IF 9 E I (λbh a E=>?_) λbh a E=>?_
 ·
  have aJ:i<v.ps.length:=by omega
  obtain⟨x,hx,oJ⟩:∃ x,xs[i]?=some (x,an v i)∧B.fp[i]?=some x:=Gf eg c3 (by omega);obtain⟨_,gS⟩:=a2.1 hx;obtain⟨r,hr⟩:∃ r,rs[i]?=some (r,an v i):=Bt l5 (by omega);have ta:(rs.map ek)[i]?=some (pt r.pb):=by rw[bm,hr];rfl
  have ll:r∈D.mB:=by rw[← jO];exact c1.2 ⟨_,bK hr,rfl⟩
  obtain⟨GA,Dy⟩:=rk r ll;have hxG:=hP.2 x (bK oJ);have hM:=x.qi (W:=W) (p:=p) hB.pr hB.sz (hB.gs x (bK oJ));obtain⟨hw,c5,wE⟩:=hv.pl i aJ;have mh:=hB.c;obtain⟨im,iq,l,hK⟩:∃ im iq l,es[i]?=some (im,iq,l):=⟨_,_,_,aI (by omega)⟩;obtain⟨wG,oK⟩:=a2.1 hK;have qh:v.ev.getD i []=l:=by rw[← dJ,bl,bm,hK];rfl
  obtain⟨yL,yM,om⟩:∃ yL yM,fs[i]?=some (yL,yM,l):=by
   have h1:(fs.map (·.2.2))[i]?=some l:=by rw[rl,← qh,bl,aI (by omega)];rfl
   rw[bm,aI (by omega)]at h1;refine⟨fs[i].1,fs[i].2.1,?_⟩;rw[aI (by omega),← Option.some.inj h1]
  obtain⟨v8,NR⟩:=a2.1 om;obtain⟨ib,hlo⟩:=hv.kQ l (by rw[← qh];exact uL (by omega));have hG:l.length≤1000000000:=by omega
  obtain⟨bp,op,rfl,_⟩:=(I.pick (Sl 34 1 adP rs.length cP (rs.map ek))).bY adP (by omega);obtain⟨lq,rG,rfl,_⟩:=(I.pick (Sl 70 1 oO fs.length nc (fs.map bx))).bY oO (by omega);refine aZ 3 (λw0 V=>(Rd V D.wb 0 [pt B.mb,.slice (some ⟨bp,op,none⟩) rs.length cP,.slice adN v.net.length cN,.slice (some ⟨lq,rG,none⟩) fs.length nc]∧Rd V bp op (rs.map ek))∧Rd V lq rG (fs.map bx)) [5,9,11,12,21,22,26,28,29] [0,1,2,4,6,7,8,10,3003,3009,3011,3012,1005,1013,14,15,16,17,18,20,23,24,25,27,3019,3026,3028,3029,1021,1022,1030,31,32] E I λa w E I hH=>?_;have hC:=hH.at w ⟨⟨I.ai (b:=D.wb),I.cC bp op (by omega)⟩,I.cC lq rG (by omega)⟩;refine RH 8 E I hH hC λa E=>?_;refine QH E (λw hc=>ag E (hc.1.1 0 _ rfl)) hC λa E=>?_;refine QH E (λw hc=>ag E (hc.1.1 1 _ rfl)) hC λa E=>?_;refine RH 1 E I hH hC λa E=>?_;refine QH E (λw hc=>ag E (hc.1.2 i _ ta)) hC λa E=>?_;refine RH 0 E I hH hC λa E=>?_;refine CL 0 E I (rA ((I.pick (Sl 81 1 adL xs.length cL (xs.map cA))).pick (aa B.mb 107 [.slice adL xs.length cL,pt B.q,.slice adE es.length cE])) (by omega)) λa w E I=>?_;replace hC:=hH.at w ⟨⟨I.ai (b:=D.wb),I.cC bp op (by omega)⟩,I.cC lq rG (by omega)⟩;rw[show cA xs[i]=.iface x.z.t (.pointer (some x.z.ad)) from by rw[gS]]at E;replace I:=Bu (I.pick (ah (dj W p) rs)) hr;replace I:=Bl (I.pick (ah (cy W p c) xs)) hx;refine RH 0 E I hH hC λa E=>?_;refine CL 0 E I (aaW hM (by omega) ((I.pick (bX W r p (an v i))).pick (x.J W p c (an v i))) hw hB.pr hB.sz (by rw[GA];exact fy) (by rw[GA,hxG.1]) (by rw[GA];exact Dy)) λa w E I=>?_;replace hC:=hH.at w ⟨⟨I.ai (b:=D.wb),I.cC bp op (by omega)⟩,I.cC lq rG (by omega)⟩;replace I:=Gz ((I.pick (ah (cy W p c) (xs.eraseIdx i))).pick (x.J W p c (an v i))) hx;replace I:=Bv ((I.pick (ah (dj W p) (rs.eraseIdx i))).pick (bX W r p (an v i))) hr;refine RH 2 E I hH hC λa E=>?_;replace E:=E.aN 106;refine RH 8 E I hH hC λa E=>?_;refine QH E (λw hc=>ag E (hc.1.1 0 _ rfl)) hC λa E=>?_;refine QH E (λw hc=>ag E (hc.1.1 3 _ rfl)) hC λa E=>?_;refine RH 1 E I hH hC λa E=>?_;refine QH E (λw hc=>ag E (hc.2 i (.slice yL l.length yM) (by rw[bm,om];rfl))) hC λa E=>?_;replace I:=I.sub (M:=aa B.mb 107 [.slice adL xs.length cL,pt B.q,.slice adE es.length cE]::Sl 81 1 adL xs.length cL (xs.map cA)::Sl 90 1 adE es.length cE (es.map bx)::ah eA es::ah (dj W p) rs::ah (cy W p c) xs::bJ B.q (v.net.map cK)::aa D.wb 40 [pt B.mb,.slice (some ⟨bp,op,none⟩) rs.length cP,.slice adN v.net.length cN,.slice (some ⟨lq,rG,none⟩) fs.length nc]::Sl 34 1 (some ⟨bp,op,none⟩) rs.length cP (rs.map ek)::Sl 60 3 adN v.net.length cN (rows bZ ys)::ah b0 ys::Sl 70 1 (some ⟨lq,rG,none⟩) fs.length nc (fs.map bx)::ah fK fs::L);refine RH 0 E I hH hC λa E=>?_;refine aY 0 E I (acB I (by omega) hK hG) λld dK a w E I=>?_;replace hC:=hH.at w ⟨⟨I.ai (b:=D.wb),I.cC bp op (by omega)⟩,I.cC lq rG (by omega)⟩;refine RH 0 E I hH hC λa E=>?_;refine aY 0 E I (acs I hG hlo) λad2 c2 a w E I=>?_;replace hC:=hH.at w ⟨⟨I.ai (b:=D.wb),I.cC bp op (by omega)⟩,I.cC lq rG (by omega)⟩;replace I:=(I.pick (ah fK fs)).fE v8;rw[NR]at I;change U W w (Sl 102 3 yL l.length yM (rows bW l)::_) at I;refine RH 0 E I hH hC λa E=>?_;refine CL 0 E I (acu (I.pick (Sl 102 3 ad2 l.length c2 (rows bW l))) hG) λa w E I=>?_;have gL:U W w (ah fK fs::_):=U.wC (f:=fK) v8 (by rw[NR];exact ((I.pick (ah fK (fs.eraseIdx i))).pick (Sl 102 3 yL l.length yM (rows bW l))));replace I:=gL;clear gL;refine RN 2 E I λa E=>?_;replace E:=E.aN 123;refine CL 7 E I (Ga ((I.pick (Sl 81 1 adL xs.length cL (xs.map cA))).pick (aa B.mb 107 [.slice adL xs.length cL,pt B.q,.slice adE es.length cE])) (by omega)) λa w E I=>?_;rw[show xs[i].1.z.mul=x.z.mul from by rw[gS]]at E;refine BY 5 E I (λbA a E=>?_) λbA a E=>?_
  ·
   obtain⟨M,NS⟩:∃ M,x.z=.mu M:=fJ.acA (by simpa using bA);have NT:x.J W p c (an v i)=fh W M p x.cf c (an v i):=by unfold fz.J;rw[NS]
   have acE:ff (an v i).k=x.cf:=by
    have h1:(B.fp.map (·.cf))[i]?=some x.cf:=by rw[bm,oJ];rfl
    rw[hP.1,bm,getElem?_range aJ]at h1;rw[c5];exact Option.some.inj h1
   replace I:=Bl (I.pick (ah (cy W p c) xs)) hx;rw[NT]at I;obtain⟨zs,sT,I⟩:=NO (I.pick (ah (dj W p) rs));obtain⟨z,hz,NU⟩:∃ z,zs[i]?=some z∧z.1=(r,an v i):=by
    rw[← sT,bm]at hr;cases h1:zs[i]? with
    | none=>rw[h1]at hr;cases hr
    | some z=>rw[h1]at hr;exact⟨z,rfl,Option.some.inj hr⟩
   rw[show x.z.mul=pt M.mb from by rw[NS];rfl]at E;refine RN 7 E I λa E=>?_;refine bE E (cS E rfl (s:=132)) (ag E ((I.cC bp op (by omega)) i _ ta)) rfl λa E=>?_;refine RN 2 E I λa E=>?_;refine bE E (cS E rfl (s:=132)) (ag E (by have h9:=(NQ (I.pick (ah (lO W p) zs)) hz).pb 0 _ rfl;rw[NU]at h9;exact h9)) rfl λa E=>?_;refine RN 2 E I λa E=>?_;refine bE E (cS E rfl (s:=132)) (bT E Tryz.underlying28 rfl Ty.t28 (by have h9:=((NQ (I.pick (ah (lO W p) zs)) hz).cb).part 0 10;rw[NU]at h9;exact h9)) rfl λa E=>?_;rw[show List.take 10 (List.drop 0 (cU (r,an v i).2.k (r,an v i).1.core z.2.1))=cc x.cf from by rw[← acE];rfl]at E;refine CL 0 E I (acv (I.pick (fh W M p x.cf c (an v i)))) λa w E I=>?_;rw[← NT]at I;have gL:=NP (I.pick (ah (lO W p) zs));rw[sT]at gL;replace I:=Gz ((gL.pick (ah (cy W p c) (xs.eraseIdx i))).pick (x.J W p c (an v i))) hx;refine RN 2 E I λa E=>?_;replace E:=E.aN 149;refine RN 4 E I λa E=>?_;exact⟨v.ps.length-(i+1),by omega,i+1,⟨rfl,by omega⟩,E.ab [0,6],I.sub⟩
  refine RN 21 E I λa E=>?_;exact⟨v.ps.length-(i+1),by omega,i+1,⟨rfl,by omega⟩,E.ab [0,6],I.sub⟩
 refine RT 2 E I ?_;have h8:=cu.close (n:=v.net.length) (c:=cN) ((I.pick (ah b0 ys)).pick (Sl 60 3 adN v.net.length cN (rows bZ ys))) nH rfl;rw[← wH]at h8;have h9:U W w (bw W D p v::_):=bw.close (h8.sub (M:=aa D.wb 40 [pt D.mb,.slice adP rs.length cP,.slice adN v.net.length cN,.slice oO fs.length nc]::Sl 34 1 adP rs.length cP (rs.map ek)::ah (dj W p) rs::cu 60 adN v.net.length cN v.net::Sl 70 1 oO fs.length nc (fs.map bx)::ah fK fs::aa D.mb 107 [.slice adL xs.length cL,pt B.q,.slice adE es.length cE]::Sl 81 1 adL xs.length cL (xs.map cA)::ah (cy W p c) xs::bJ B.q (v.net.map cK)::Sl 90 1 adE es.length cE (es.map bx)::ah eA es::L)) jO l5 rl;rw[wH]at h9;refine⟨rfl,aH.s5 (adL:=adL) (cL:=cL) (adE:=adE) (cE:=cE) (xs:=xs) (es:=es) ?_ eg c3 dJ⟩;exact h9.sub
end
end
section
section
variable {W w:World}{L:List SP}{c i:Nat}{p:Pr}{v:Wd}{B:jk}{t:fU}{cf:Cf}
def mC:Cf:=⟨2,0,0,0,4,1,0,2,1,5⟩
theorem yN (I:U W w (aH W B p c v::L))(hB:B.Ok p (c+10))(hv:bD p cf c v)(k9:9*c+100≤1000000000)(hf:t.fn≠7) :
   Calls Tryz.prog 29 #[pt B.mb,.agg (ei t).toArray] w λe V=>e=.returned (.int .i64 (bq p t v).1)∧U W V (aH W B p (c+10) (cX p t v)::L) :=
 (M8 I hB hv k9).mono λe V ⟨z,h1,h2,_,I⟩=>⟨by rw[h1,h2 hf],by rw[cX,ae hf];exact I⟩
theorem NV (hf:t.fn<1∨8<t.fn):bq p t v=(1,v):=by rw[bq,ak hf]
set_option maxHeartbeats 2000000 in
theorem acF (I:U W w L):Calls Tryz.prog 26 #[] w λe V=>e=.returned (.bool true)∧U W V L:=by
 have wu:eN mC:=by decide
 have gM:oI (dS mC 0) bz []:=⟨wu,qq,by decide⟩;refine EN Tryz.func26 Tryz.ntmps26 rfl rfl λa E=>?_;refine bg 4 E I (Mm I) λadP a w E I=>?_;refine bg 0 E I (Nu (cf:=mC) (tb:=[]) (adT:=none) (cT:=0) gM I rfl (by decide) (by decide) (by decide) (λV h=>a6.nil)) λB a w E ⟨hP,I⟩=>?_;refine RN 5 E I λa E=>?_;have fy:∀ x∈B.fp,cR x.z.gs:=λx hx=>by rw[(hP.2 x hx).1];decide
 have L0:Lv bz mC (λ_=>0) (fq bz mC mC.n.toNat):=Lv.new wu;have wM:(fq bz mC mC.n.toNat).ps.length=2:=rF;have tJ:(fq bz mC mC.n.toNat).net=[]:=rfl;have lf:∀ x y,x<2→y<2→bF (fq bz mC mC.n.toNat) x y=0:=λx y hx hy=>BB wu hx hy;have BE:=Gu (p:=bz) wu;generalize fq bz mC mC.n.toNat=v0 at I L0 wM tJ lf BE;have Vd:mC.bt.toNat=4:=rfl;obtain⟨NW,e1,vL,k1,z1⟩:=L0.al (i:=0) (by omega) 5 0;have k00:=lf 0 0 (by omega) (by omega);replace z1:=z1 (by omega);have o1:=BE.go (s:=⟨1,(0:Nat),5,0⟩);obtain⟨NX,e2,sk,k2,z2⟩:=NW.al (i:=1) (by omega) 6 0;have BF:=lf 1 1 (by omega) (by omega);have NY:=k1 1 1;rw[ae (by omega)]at NY;replace z2:=z2 (by omega);have pZ:=o1.go (s:=⟨1,(1:Nat),6,0⟩);obtain⟨NZ,e3,N0,k3,N1,z3⟩:=NX.tick (i:=0) (by decide) (by omega) (by rw[e2,e1,tJ,sk,vL,wM];decide) 0 0;have GC:=pZ.go (s:=⟨2,(0:Nat),0,0⟩);have t3:td (cX bz ⟨1,(1:Nat),6,0⟩ (cX bz ⟨1,(0:Nat),5,0⟩ v0)) 0=[(0,1,aS (dP (an (cX bz ⟨1,(1:Nat),6,0⟩ (cX bz ⟨1,(0:Nat),5,0⟩ v0)) 0).k 1))]:=by
  rw[td,sk,vL,wM];rfl
 rw[e2,e1,tJ,t3]at e3;obtain⟨L4,iT,N2,k4,z4,_⟩:=NZ.send e3 0 0;have wN:=GC.go (s:=⟨3,0,0,0⟩);have h5:rD (0,1,aS (dP (an (cX bz ⟨1,(1:Nat),6,0⟩ (cX bz ⟨1,(0:Nat),5,0⟩ v0)) 0).k 1))=1:=by
  rw[N1 _ (by rw[t3];exact mem_cons_self),k2 0 0,ae (by omega),k1 0 0,ak (by omega),k00]
 have f4:ax (an (cX bz ⟨3,0,0,0⟩ (cX bz ⟨2,(0:Nat),0,0⟩ (cX bz ⟨1,(1:Nat),6,0⟩ (cX bz ⟨1,(0:Nat),5,0⟩ v0)))) 1).k=1:=by
  have r7:=k4 1 0;rw[ak ⟨rfl,rfl⟩,k3,k2,ae (by omega),k1,ae (by omega),lf 1 0 (by omega) (by omega),h5]at r7;have q1:=k4 1 1;rw[ae (by show ¬ ((1:Nat)=1∧(1:Nat)=0);omega),k3,k2,ak (by omega),NY]at q1;refine L4.front (j:=0) (by omega) (λj hj=>?_) (by omega) (by rw[r7];rfl);have:j=0∨j=1:=by omega
  rcases this with rfl | rfl
  ·rw[r7];decide
  ·rw[q1];omega
 clear lf k1 k2 k3 k4 t3 h5 N1;refine RN 2 E I λa E=>?_;obtain⟨adL,cL,adE,cE,xs,es,⟨eg,c3,dJ⟩,I⟩:=aH.uS I;have cj:xs.length=2:=by rw[← wM,← c3,bd]
 have Ih:xs[1].1.z.yH=true:=(hP.2 _ (by rw[← eg];exact c1.2 ⟨xs[1],getElem_mem _,rfl⟩)).2;refine RN 3 E I λa E=>?_;replace E:=E.aN 17;refine RN 4 E I λa E=>?_;replace E:=E.aN 21;refine CL 1 E I (rA (i:=0) ((I.pick (Sl 81 1 adL xs.length cL (xs.map cA))).pick (aa B.mb 107 [.slice adL xs.length cL,pt B.q,.slice adE es.length cE])) (by omega)) λa w E I=>?_;refine RN 3 E I λa E=>?_;replace E:=E.aN 26;refine CL 1 E I (Ga (i:=1) ((I.pick (Sl 81 1 adL xs.length cL (xs.map cA))).pick (aa B.mb 107 [.slice adL xs.length cL,pt B.q,.slice adE es.length cE])) (by omega)) λa w E I=>?_;refine RN 1 E I λa E=>?_;rw[Ih,Bool.not_true]at E;refine RN 2 E I λa E=>?_;replace E:=E.aN 31;refine CL 1 E I (Bg (I.pick (aa B.mb 107 [.slice adL xs.length cL,pt B.q,.slice adE es.length cE]))) λa w E I=>?_;refine RN 2 E I λa E=>?_;replace E:=E.aN 35;refine RN 2 E I λa E=>?_;replace I:=aH.s5 (I.sub (M:=aa B.mb 107 [.slice adL xs.length cL,pt B.q,.slice adE es.length cE]::Sl 81 1 adL xs.length cL (xs.map cA)::ah (cy W bz 0) xs::bJ B.q (v0.net.map cK)::Sl 90 1 adE es.length cE (es.map bx)::ah eA es::L)) eg c3 dJ;refine CL 2 E I (yN (t:=⟨1,(0:Nat),5,0⟩) I ⟨qq,by decide,fy,by decide⟩ BE (by decide) (by decide)) λa w E I=>?_;rw[z1]at E;refine CL 4 E I (yN (t:=⟨1,(1:Nat),6,0⟩) I ⟨qq,by decide,fy,by decide⟩ (o1.more (by decide)) (by decide) (by decide)) λa w E I=>?_;rw[z2]at E;refine CL 4 E I (yN (t:=⟨2,(0:Nat),0,0⟩) I ⟨qq,by decide,fy,by decide⟩ (pZ.more (by decide)) (by decide) (by decide)) λa w E I=>?_;rw[z3]at E;refine CL 4 E I (yN (t:=⟨3,0,0,0⟩) I ⟨qq,by decide,fy,by decide⟩ (GC.more (by decide)) (by decide) (by decide)) λa w E I=>?_;rw[z4]at E;have n5:=N2.trans (N0.trans (sk.trans (vL.trans wM)));clear BE o1 pZ GC L0 NW NX NZ z1 z2 z3 z4 e1 e2 e3 wM vL sk N0 N2;generalize cX bz ⟨3,0,0,0⟩ (cX bz ⟨2,(0:Nat),0,0⟩ (cX bz ⟨1,(1:Nat),6,0⟩ (cX bz ⟨1,(0:Nat),5,0⟩ v0)))=v at I wN L4 f4 iT n5;refine RN 2 E I λa E=>?_;obtain⟨adL,cL,adE,cE,xs,es,⟨eg,c3,dJ⟩,I⟩:=aH.uS I;have cj:xs.length=2:=by rw[← n5,← c3,bd]
 obtain⟨x,hx,oJ⟩:∃ x,xs[1]?=some (x,an v 1)∧B.fp[1]?=some x:=Gf eg c3 (by omega);obtain⟨_,gS⟩:=a2.1 hx;have hM:=x.qi (W:=W) (p:=bz) qq (by decide) (fy x (bK oJ));have hw:=(wN.pl 1 (by omega)).1;refine CL 1 E I (rA (i:=1) ((I.pick (Sl 81 1 adL xs.length cL (xs.map cA))).pick (aa B.mb 107 [.slice adL xs.length cL,pt B.q,.slice adE es.length cE])) (by omega)) λa w E I=>?_;rw[show cA xs[1]=.iface x.z.t (.pointer (some x.z.ad)) from by rw[gS]]at E;replace I:=Bl (I.pick (ah (cy W bz 40) xs)) hx;refine RN 0 E I λa E=>?_;refine js E rfl hM.A6 hM.A7 rfl (hM.A8 _ _ 40 (an v 1) (by decide) hw (I.pick (x.J W bz 40 (an v 1)))) (by rfl) ?_;clear E I;rintro e w ⟨ld,dK,rfl,I⟩;refine⟨_,rfl,λa E=>?_⟩;refine RN 5 E I λa E=>?_;rw[show (lk (an v 1)).2=1 from f4]at E;replace I:=Gz ((I.pick (ah (cy W bz 40) (xs.eraseIdx 1))).pick (x.J W bz 40 (an v 1))) hx;replace I:=aH.s5 (I.sub (M:=aa B.mb 107 [.slice adL xs.length cL,pt B.q,.slice adE es.length cE]::Sl 81 1 adL xs.length cL (xs.map cA)::ah (cy W bz 40) xs::bJ B.q (v.net.map cK)::Sl 90 1 adE es.length cE (es.map bx)::ah eA es::L)) eg c3 dJ;refine RN 4 E I λa E=>?_;replace E:=E.ef 56;refine RN 4 E I λa E=>?_;replace E:=E.ef 60;refine RN 4 E I λa E=>?_;replace E:=E.ef 64;refine RN 4 E I λa E=>?_;replace E:=E.ef 68;refine RN 4 E I λa E=>?_;replace E:=E.ef 72;refine RN 1 E I λa E=>?_;obtain⟨adL,cL,adE,cE,xs,es,⟨eg,c3,dJ⟩,I⟩:=aH.uS I;refine CL 0 E I (Bg (I.pick (aa B.mb 107 [.slice adL xs.length cL,pt B.q,.slice adE es.length cE]))) λa w E I=>?_;refine CL 0 E I (MD (I.pick (bJ B.q (v.net.map cK)))) λa w E I=>?_;rw[bd,iT]at E;replace I:=aH.s5 (I.sub (M:=aa B.mb 107 [.slice adL xs.length cL,pt B.q,.slice adE es.length cE]::Sl 81 1 adL xs.length cL (xs.map cA)::ah (cy W bz 40) xs::bJ B.q (v.net.map cK)::Sl 90 1 adE es.length cE (es.map bx)::ah eA es::L)) eg c3 dJ;refine RN 3 E I λa E=>?_;replace E:=E.ef 78;refine CL 2 E I (yN (t:=⟨0,0,0,0⟩) I ⟨qq,by decide,fy,by decide⟩ (wN.more (by decide)) (by decide) (by decide)) λa w E I=>?_;rw[NV (.inl (by decide))]at E;rw[cX,ae (by decide),NV (.inl (by decide)),L4.still]at I;refine RN 3 E I λa E=>?_;replace E:=E.ef 84;refine aY 1 E I (Gt (i:=0) I (by omega) wN.ev (by rw[L4.ev _ (uL (d:=[]) (by rw[wN.ev];omega))];decide)) λad2 c2 a w E I=>?_;rw[L4.ev _ (uL (d:=[]) (by rw[wN.ev];omega))]at E;refine RT 4 E I ?_;exact⟨rfl,I.sub⟩
end
end
section
structure yO (W:World)(p:Pr)(B:jk)(D:pK)(cf:Cf)(tb:List UInt8)(jm:Bool):Prop where
 mb:D.mb=B.mb
 fp:uV B.fp cf tb jm cf.n.toNat
 mB:BC W D.mB cf tb
 gs:cR ⟨cf.ba,cf.order,tb⟩
 pr:dg p
 sz:p.title.size≤1000000000
section
variable {W w:World}{L:List SP}{c:Nat}{p:Pr}{v:Wd}{B:jk}{D:pK}{t:fU}{cf:Cf}{tb:List UInt8}{jm:Bool}
theorem uV.gs {fp:List fz}{n:Nat}(h:uV fp cf tb jm n)(hg:cR ⟨cf.ba,cf.order,tb⟩):∀ x∈fp,cR x.z.gs:=λx hx=>by rw[(h.2 x hx).1];exact hg
theorem yO.ok (h:yO W p B D cf tb jm)(hc:c≤1000000):B.Ok p c:=⟨h.pr,h.sz,h.fp.gs h.gs,hc⟩
theorem acG (I:U W w (aH W B p c v::bw W D p v::L))(mA:yO W p B D cf tb jm)(hv:bD p cf c v)(hc:c≤1000000) :
   Calls Tryz.prog 33 #[pt D.wb] w λe V=>e=.returned (.bool true)∧U W V (aH W B p c v::bw W D p v::L) :=
 acC I mA.mb (mA.ok hc) hv (by rw[hv.n];exact mA.fp) mA.mB mA.gs (by omega)
theorem N3 (I:U W w (aH W B p c v::bw W D p v::L))(mA:yO W p B D cf tb jm)(hv:bD p cf c v)(wI:oN v)(hc:c≤900000) :
   Calls Tryz.prog 32 #[pt D.wb,.agg (ei t).toArray] w λe V=>e=.returned (.bool true)∧U W V (aH W B p (c+10) (cX p t v)::bw W D p (cX p t v)::L) :=
 acn I mA.mb (mA.ok (by omega)) hv wI (by omega) λw u hu hcu I=>acG I mA hu (by omega)
structure Wc (p:Pr)(cf:Cf)(c:Nat)(v:Wd):Prop where
 ok:bD p cf c v
 calm:oN v
theorem Wc.go (h:Wc p cf c v):Wc p cf (c+10) (cX p t v):=⟨h.ok.go.more (by omega),acm h.calm⟩
theorem Wc.new (h:eN cf):Wc p cf 0 (fq p cf cf.n.toNat):=⟨Gu h,NJ h⟩
end
end
section
open Go.RowKit Go.ChangeShapes Go.WideShapes Go.ChangeAt
set_option linter.constructorNameAsVariable false
set_option maxRecDepth 100000
section
variable {W W' w:World}{L:List SP}
theorem N4 {L:List SP}(hb:Below W.heap.size W W')(I:U W' w L):Below W.heap.size W w:=hb.trans (I.below.mono hb.size)
end
end
section
structure aeY where
 tb:Nat
 n:Nat
 B:jk
 D:pK
section
variable {L:List SP}
theorem N5 {x L:Int}(h:0<L):-L<x.tmod L∧x.tmod L<L:=by
 have h1:=Int.natAbs_tmod x L;have h2:=Nat.mod_lt x.natAbs (show 0<L.natAbs by omega);omega
end
end
section
def mD (v:Wd):Prop:=∀ i,i<v.ps.length→(v.ev.getD i []).length+(if (an v i).k.cl=true then 0 else 1)≤1
section
variable {p:Pr}{cf:Cf}{G:List (List UInt8)}{v:Wd}{c i:Nat}{m:Ml}{s':Pl}{net:List Ml}
theorem mD.put (h:mD v)(hl:v.ev.length=v.ps.length)(wI:oN v)(hi:i<v.ps.length)(I:s'.k.ev.length+(v.ev.getD i []).length+(if s'.k.cl=true then 0 else 1)≤1):mD (jB { v with ps:=v.ps.set i s',net:=net }):=by
 intro j hj;have iS:j<v.ps.length:=by
  rw[jB,(pG _ _).1]at hj;have:j<(v.ps.set i s').length:=hj
  rwa [br]at this
 have h1:=Bb { v with ps:=v.ps.set i s',net:=net } (by show v.ev.length=(v.ps.set i s').length;rw[br];exact hl) (i:=(v.ps.set i s').length) (j:=j) (bf _);rw[ak (by rw[br];exact iS),oG (v:=v) hi]at h1;have h2:=wA { v with ps:=v.ps.set i s',net:=net } (i:=(v.ps.set i s').length) (j:=j) (bf _);rw[ak (by rw[br];exact iS),oG (v:=v) hi]at h2;show ((b6 _ _).ev.getD j []).length+(if (an (b6 _ _) j).k.cl=true then 0 else 1)≤1;rw[h1,h2,aL];by_cases e:i=j
 ·subst e;rw[ak rfl];show (v.ev.getD i []).length+s'.k.ev.length+(if s'.k.cl=true then 0 else 1)≤1;omega
 ·rw[ae e,wI j iS];exact h j iS
theorem acH (k:Ks):(bu k).2.cl=true:=by
 unfold bu;split
 ·assumption
 ·rfl
theorem mD.ko (h:mD v)(hc:Wc p cf c v)(hi:i<v.ps.length)(b n:Int):mD (cX p ⟨8,i,b,n⟩ v):=by
 have aQ:bq p ⟨8,i,b,n⟩ v=(0,{ v with ps:=v.ps.set i ⟨(bu (an v i).k).2,(an v i).g⟩,net:=dY v.net (bu (an v i).k).1 }):=by
  rw[bq,ae (by show ¬ ((8:Int)<1∨(8:Int)<8);omega),ae (by show ¬ ((3:Int)≤8∧(8:Int)≤6);omega),uQ rfl rfl hi]
 rw[cX,ae (by show ¬ (8:Int)=7;omega),aQ];refine h.put hc.ok.ev hc.calm hi ?_;show (bu (an v i).k).2.ev.length+_+(if (bu (an v i).k).2.cl=true then 0 else 1)≤1;rw[ak (acH _),(Nr _).2.2,hc.calm i hi];have:=h i hi;simp only[length_nil];omega
theorem mD.send (h:mD v)(hc:Wc p cf c v)(lr:db p cf (·=2) G v){r:List Ml}(hm:v.net=m::r)(a b:Int):mD (cX p ⟨3,a,b,0⟩ v):=by
 rw[cX,ae (by show ¬ (3:Int)=7;omega),Gw p hm];obtain⟨q,hq⟩:=lr.net m (by rw[hm];exact mem_cons_self);have hi:=hq.lt.2;obtain⟨dQ,s9,bO,hn,_⟩:=hc.ok.oM hi;have h1:=h _ hi;refine h.put hc.ok.ev hc.calm hi ?_;by_cases cg:(an v m.2.1).k.cl=true
 ·have h0 : (dz p m.2.2 (an v m.2.1)).1 ≠ 0 := by
   show (dh m.2.2 (an v m.2.1).k).1≠0;rw[dh,ak cg];show (6:Int)≠0;decide
  rw[Ng (hc.ok.pl _ hi).1 h0,hc.calm _ hi];simp only[length_nil];omega
 ·have c5:(an v m.2.1).k.cl=false:=by simpa using cg
  obtain⟨_,_,hk⟩:=(lr.pl _ hi).Nk hq.kW c5 (by rw[hq.to,dQ]) (by rw[hq.fr,hn];have:=hq.lt.1;omega) (by rw[hq.id,bO]) hq.kind;rw[← hq.bs]at hk;rw[hk];rw[ae cg]at h1;show ((an v m.2.1).k.ev++[_]).length+_+(if true=true then 0 else 1)≤1;rw[hc.calm _ hi,ak rfl];simp only[nil_append,iP];omega
theorem db.acI (h:db p cf (·=2) G v)(hv:bD p cf c v)(hi:i<v.ps.length)(b n:Int):db p cf (·=2) G (cX p ⟨8,i,b,n⟩ v):=by
 have aQ:(bq p ⟨8,i,b,n⟩ v).2={ v with ps:=v.ps.set i ⟨(bu (an v i).k).2,(an v i).g⟩,net:=dY v.net (bu (an v i).k).1 }:=by
  rw[bq,ae (by show ¬ ((8:Int)<1∨(8:Int)<8);omega),ae (by show ¬ ((3:Int)≤8∧(8:Int)≤6);omega),uQ rfl rfl hi]
 have h1:=hv.step (s:=⟨8,i,b,n⟩);rw[cX,ae (by show ¬ (8:Int)=7;omega)];rw[aQ]at h1 ⊢;exact ((h.ko hv hi rfl).1.drain h1).1
theorem db.acJ {K:Int→Prop}(h:db p cf K G v)(hv:bD p cf c v)(a b n:Int):db p cf K G (cX p ⟨3,a,b,n⟩ v):=by
 have h1:=hv.step (s:=⟨3,a,b,n⟩);have h2:=h.yw hv (t:=⟨3,a,b,n⟩) (by show (3:Int)≠6;omega);rw[cX,ae (by show ¬ (3:Int)=7;omega)];rw[bq,ae (by show ¬ ((3:Int)<1∨(8:Int)<3);omega),ak (by show (3:Int)≤3∧(3:Int)≤6;omega)]at h1 ⊢;exact (h2.drain h1).1
theorem mD.new (hm:eN cf):mD (fq p cf cf.n.toNat):=λi hi=>by
 have h1:(fq p cf cf.n.toNat).ev.getD i []=[]:=List.eq_of_mem_replicate (show _∈List.replicate cf.n.toNat ([]:List jy) from uL (by rw[jK];rw[rF]at hi;exact hi));rw[h1];simp only[length_nil];split <;> omega
end
abbrev lu (n:Nat):Cf:=⟨n,0,0,0,4,1,0,0,0,3⟩
theorem BG {n:Nat}(h:2≤n∧n≤8):eN (lu n):=by
 have h2:eN (lu 2):=by decide
 refine⟨⟨⟨?_,?_⟩,⟨?_,?_⟩,h2.1.2.2⟩,h2.2⟩
 ·show (2:Int)≤(n:Int);omega
 ·show (n:Int)≤8;omega
 ·show (0:Int)≤0;omega
 ·show (0:Int)≤(n:Int)-1;omega
set_option maxHeartbeats 4000000 in
theorem acK (a0:Int)(cZ:Option Addr)(qs tf:Nat)(z1:List Int)(W:World)(w0:(Lit.int .i64 a0).wf=true)(GD:sA .i64 W cZ qs tf z1) :
   Calls Tryz.prog 9 #[.int .i64 a0,.slice cZ qs tf] W λe V=>e=.returned (.bool true)∧Below W.heap.size W V:=by
 have I:=U.start W;obtain⟨xs,cj,hxw,xd⟩:=GD.Wv;refine EN Tryz.func9 Tryz.ntmps9 rfl rfl λa E=>?_;refine CL 3 E I (acF I) λa w E I=>?_;refine RN 5 E I λa E=>?_;replace E:=E.aN 12;refine RN 1 E I λa E=>?_;refine b7 (M:=λa w=>(∃ n:Nat,(a0=n∧2≤n∧n≤8)∧Fr a 114 [(0,.int .i64 a0),(1,.slice cZ qs tf)])∧U W w []) ?_ ?_
 ·
  refine BY 4 E I (λbA a E=>?_) λbA a E=>?_
  ·
   refine RT 6 E I ?_;exact⟨rfl,I.below⟩
  refine IF 3 E I (λao a E=>?_) λao a E=>?_
  ·
   refine RT 2 E I ?_;exact⟨rfl,I.below⟩
  refine RN 0 E I λa E=>?_;exact⟨⟨a0.toNat,by omega,E.ab [0,1]⟩,I⟩
 clear E;(try clear I);rintro a w ⟨⟨n,⟨rfl,lD,pD⟩,E⟩,I⟩;refine bg 3 E I (Mm I) λadP a w E I=>?_;have yK:yJ w bz adP 12:=U.roW I;have sj:=I.below;obtain⟨W2,N6⟩:∃ W2,W2=w:=⟨_,rfl⟩;replace I:U W2 w []:=by rw[N6];exact U.start w
 rw[← N6]at yK sj;have N7:∀ w L,U W2 w L→qs=0∨∃ b off,cZ=some ⟨b,off,none⟩∧Rd w b off (xs.map (.int .i64)):=λw L I=>(xd W [] (U.start W)).imp id λ⟨b,off,h1,h2,h3⟩=>⟨b,off,h1,λj v hj=>(I.below.cell (wO h2 sj.size)).trans ((sj.cell h2).trans (h3 j v hj))⟩;refine aY 0 E I (acw (cf:=lu n) (tb:=[]) (adT:=none) (cT:=0) ⟨BG ⟨lD,pD⟩,qq,show cR ⟨1,0,[]⟩ by decide⟩ I yK rfl qq (by decide) (by decide) (by decide) (λV h=>a6.nil)) λB D a w E ⟨hN,I⟩=>?_;refine RN 1 E I λa E=>?_;have mA:yO W2 bz B D (lu n) [] false:=⟨hN.1,hN.2.1,hN.2.2,show cR ⟨1,0,[]⟩ by decide,qq,by decide⟩;have aj:Wc bz (lu n) 0 (fq bz (lu n) n):=Wc.new (p:=bz) (BG ⟨lD,pD⟩);have N8:db bz (lu n) (·=2) _ (fq bz (lu n) n):=db.new (p:=bz) (BG ⟨lD,pD⟩);have N9:mD (fq bz (lu n) n):=mD.new (p:=bz) (BG ⟨lD,pD⟩);have ry:(fq bz (lu n) n).ps.length=n:=rF;replace I:U W2 w (aH W2 B bz 0 (fq bz (lu n) n)::bw W2 D bz (fq bz (lu n) n)::[]):=I;generalize fq bz (lu n) n=v0 at I aj N8 N9 ry;generalize W2=W at I mA sj N7;refine RN 4 E I λa E=>?_;replace E:=E.aN 24;refine RN 4 E I λa E=>?_;refine aR (λμ a w=>∃ (i c:Nat) (v:Wd) (G:List (List UInt8)),(μ=4-i∧(i≤4∧c≤700*i)∧(Wc bz (lu n) c v∧v.ps.length=n)∧db bz (lu n) (·=2) G v∧mD v)∧Fr a 114 [(0,.int .i64 n),(1,.slice cZ qs tf),(6,pt D.wb),(7,.int .i64 i)]∧U W w (aH W B bz c v::bw W D bz v::[])) (4) (⟨0,0,v0,_,⟨rfl,⟨by omega,by omega⟩,⟨aj,ry⟩,N8,N9⟩,E.ab [0,1,6,7],I⟩) ?_;clear E I;rintro μ a w ⟨i,c,v,G,⟨rfl,⟨hi,mh⟩,⟨hc,hl⟩,lr,hv⟩,E,I⟩;refine BY 7 E I (λdp a E=>?_) λdp a E=>?_
 ·
  refine IF 3 E I (λbh a E=>?_) λbh a E=>?_
  ·
   have aJ:i<qs∧i<4:=by omega
   rcases N7 _ _ I with h9 | ⟨acL,acM,rfl,hrq⟩
   ·omega
   have e9:=hrq i _ (by rw[bm,aI (by omega)];rfl);generalize xs[i]'(by omega)=x at e9;have nu:=N5 (x:=x) (L:=n) (by omega);have nM:=N5 (x:=x.tmod n+n) (L:=n) (by omega);have hb3:=Int.tmod_nonneg (n:Int) (show 0≤x.tmod n+n by omega);obtain⟨lf,uM⟩:∃ lf:Nat,(x.tmod n+n).tmod n=lf:=⟨((x.tmod n+n).tmod n).toNat,by omega⟩;refine RN 7 E I λa E=>?_;refine SS E (ag E (e9)) λa E=>?_;refine RN 6 E I λa E=>?_;rw[uM]at E;refine CL 1 E I (N3 (t:=⟨8,lf,0,0⟩) I mA hc.ok hc.calm (by omega)) λa w E I=>?_;have GF:=hc.go (t:=⟨8,lf,0,0⟩);have Oa:=hv.ko hc (i:=lf) (by omega) 0 0;have Ob:(cX bz ⟨8,lf,0,0⟩ v).ps.length=n:=by have h1:=GF.ok.n;rw[h1];rfl
   have Oc:=lr.acI hc.ok (i:=lf) (by omega) 0 0;generalize cX bz ⟨8,lf,0,0⟩ v=v1 at I GF Oa Ob Oc;refine RN 1 E I λa E=>?_;replace E:=E.aN 48;refine RN 3 E I λa E=>?_;refine aR (λμ a w=>∃ (k dK:Nat) (u:Wd),(μ=60-k∧(k≤60∧dK≤c+10+10*k)∧(Wc bz (lu n) dK u∧u.ps.length=n)∧db bz (lu n) (·=2) G u∧mD u)∧Fr a 114 [(0,.int .i64 n),(1,.slice (some ⟨acL,acM,none⟩) qs tf),(6,pt D.wb),(7,.int .i64 i),(8,.int .i64 k)]∧U W w (aH W B bz dK u::bw W D bz u::[])) (60) (⟨0,c+10,v1,⟨rfl,⟨by omega,by omega⟩,⟨GF,Ob⟩,Oc,Oa⟩,E.ab [0,1,6,7,8],I⟩) ?_;clear E I;rintro μ a w ⟨k,dK,u,⟨rfl,⟨hk,ao⟩,⟨u1,nS⟩,BH,GG⟩,E,I⟩;refine RN 5 E I λa E=>?_;obtain⟨adP,cP,adN,cN,adE,cE,iu,e5,hx,gL⟩:=bw.open (I.pick (bw W D bz u));have pM:Rd w D.wb 0 [pt D.mb,.slice adP iu.length cP,.slice adN u.net.length cN,.slice adE e5.length cE]:=gL.ai (b:=D.wb);clear gL;refine BY 0 E I (λbA a E=>?_) λbA a E=>?_
   ·
    obtain⟨adP,cP,adN,cN,adE,cE,iu,e5,hx,gL⟩:=bw.open (I.pick (bw W D bz u));have pM:Rd w D.wb 0 [pt D.mb,.slice adP iu.length cP,.slice adN u.net.length cN,.slice adE e5.length cE]:=gL.ai (b:=D.wb);clear gL;refine RN 3 E I λa E=>?_;refine bE E (cS E rfl (s:=51)) (ag E (pM 2 _ rfl)) rfl λa E=>?_;refine IF 3 E I (λeE a E=>?_) λeE a E=>?_
    ·
     obtain⟨m,r,hm⟩:∃ m r,u.net=m::r:=by
      cases h:u.net with
      | nil=>have h9:=congrArg List.length h;rw[length_nil]at h9;omega
      | cons m r=>exact⟨m,r,rfl⟩
     refine CL 4 E I (N3 (t:=⟨3,0,0,0⟩) I mA u1.ok u1.calm (by omega)) λa w E I=>?_;have Od:=u1.go (t:=⟨3,0,0,0⟩);have acN:=GG.send u1 BH hm 0 0;have acO:=BH.acJ u1.ok 0 0 0;refine RN 1 E I λa E=>?_;replace E:=E.aN 64;refine RN 4 E I λa E=>?_;exact⟨60-(k+1),by omega,k+1,dK+10,_,⟨rfl,⟨by omega,by omega⟩,⟨Od,by rw[Od.ok.n];rfl⟩,acO,acN⟩,E.ab [0,1,6,7,8],I⟩
    refine RN 3 E I λa E=>?_;exact⟨4-(i+1),by omega,i+1,dK,u,G,⟨rfl,⟨by omega,by omega⟩,⟨u1,nS⟩,BH,GG⟩,E.ab [0,1,6,7],I⟩
   obtain⟨adP,cP,adN,cN,adE,cE,iu,e5,hx,gL⟩:=bw.open (I.pick (bw W D bz u));have pM:Rd w D.wb 0 [pt D.mb,.slice adP iu.length cP,.slice adN u.net.length cN,.slice adE e5.length cE]:=gL.ai (b:=D.wb);clear gL;refine RN 11 E I λa E=>?_;exact⟨4-(i+1),by omega,i+1,dK,u,G,⟨rfl,⟨by omega,by omega⟩,⟨u1,nS⟩,BH,GG⟩,E.ab [0,1,6,7],I⟩
  refine RN 3 E I λa E=>?_;refine aR (λμ a w=>∃ (j:Nat),(μ=n-j∧j≤n)∧Fr a 114 [(0,.int .i64 n),(6,pt D.wb),(9,.int .i64 j)]∧U W w (aH W B bz c v::bw W D bz v::[])) (n) (⟨0,⟨rfl,by omega⟩,E.ab [0,6,9],I⟩) ?_;clear E I;rintro μ a w ⟨j,⟨rfl,hj⟩,E,I⟩;refine IF 5 E I (λki a E=>?_) λki a E=>?_
  ·
   have dG:j<v.ps.length:=by omega
   have nC:=hv j dG;have pL:=hN.1;have mz:=hc.ok.ev;refine RN 2 E I λa E=>?_;obtain⟨adP,cP,adN,cN,adE,cE,iu,e5,⟨eg,c3,dJ⟩,I⟩:=bw.open (I.pick (bw W D bz v));have hes:e5.length=v.ps.length:=by rw[← mz,← dJ,bd]
   obtain⟨e1,yP⟩:∃ e1,e5[j]?=some e1:=⟨_,aI (by omega)⟩;have hK:v.ev.getD j []=e1.2.2:=by rw[← dJ,bl,bm,yP];rfl
   rw[hK]at nC;have yQ:(e5.map bx)[j]?=some (.slice e1.1 e1.2.2.length e1.2.1):=by rw[bm,yP];rfl
   obtain⟨eQ,oE,rfl,_⟩:=(I.pick (Sl 70 1 adE e5.length cE (e5.map bx))).bY adE (by omega);refine aZ 0 (λw0 V=>Rd V D.wb 0 [pt D.mb,.slice adP iu.length cP,.slice adN v.net.length cN,.slice (some ⟨eQ,oE,none⟩) e5.length cE]∧Rd V eQ oE (e5.map bx)) [15,16,20,22,23,24] [0,1,2,4,1003,5,1006,7,8,9,10,11,12,14,17,18,19,21,3013,3020,3022,3023,3024,1015,1016,25,26] E I λa w E I hH=>?_;have hC:=hH.at w ⟨I.ai (b:=D.wb),I.cC eQ oE (by omega)⟩;refine RH 4 E I hH hC λa E=>?_;refine SS E (ag E (hC.1 3 _ rfl)) λa E=>?_;refine RH 1 E I hH hC λa E=>?_;refine SS E (ag E (hC.2 j _ yQ)) λa E=>?_;refine RH 3 E I hH hC λa E=>?_;rw[bn (by omega)]at E;refine RH 8 E I hH hC λa E=>?_;refine QH E (λw hc=>ag E (hc.1 0 _ rfl)) hC λa E=>?_;rw[pL]at E;refine RH 0 E I hH hC λa E=>?_;refine QH E (λw hc=>ag E (hc.1 3 _ rfl)) hC λa E=>?_;refine RH 1 E I hH hC λa E=>?_;refine QH E (λw hc=>ag E (hc.2 j _ yQ)) hC λa E=>?_;refine RH 1 E I hH hC λa E=>?_;refine aY 0 E I (Gt (I.pick (aH W B bz c v)) dG mz (by rw[hK];omega)) λad9 yo a w E I=>?_;replace hC:=hH.at w ⟨I.ai (b:=D.wb),I.cC eQ oE (by omega)⟩;rw[hK]at E;refine RH 3 E I hH hC λa E=>?_;rw[bn (by simp)]at E;refine RN 4 E I λa E=>?_;have h8:U W w (bw W D bz v::_):=bw.close (I.sub (M:=aa D.wb 40 [pt D.mb,.slice adP iu.length cP,.slice adN v.net.length cN,.slice (some ⟨eQ,oE,none⟩) e5.length cE]::Sl 34 1 adP iu.length cP (iu.map ek)::ah (dj W bz) iu::cu 60 adN v.net.length cN v.net::Sl 70 1 (some ⟨eQ,oE,none⟩) e5.length cE (e5.map bx)::ah fK e5::aH W B bz c v::[])) eg c3 dJ;exact⟨n-(j+1),by omega,j+1,⟨rfl,by omega⟩,E.ab [0,6,9],h8.sub⟩
  refine RN 1 E I λa E=>?_;obtain⟨adP,cP,adN,cN,adE,cE,iu,e5,hx,gL⟩:=bw.open (I.pick (bw W D bz v));have pM:Rd w D.wb 0 [pt D.mb,.slice adP iu.length cP,.slice adN v.net.length cN,.slice adE e5.length cE]:=gL.ai (b:=D.wb);clear gL;have pL:=hN.1;refine RN 3 E I λa E=>?_;refine SS E (ag E (pM 0 _ rfl)) λa E=>?_;rw[pL]at E;refine CL 0 E I (BA (y := -1) I (.inl (by decide))) λa w E I=>?_;refine RN 3 E I λa E=>?_;obtain⟨adP,cP,adN,cN,adE,cE,iu,e5,hx,gL⟩:=bw.open (I.pick (bw W D bz v));have pM:Rd w D.wb 0 [pt D.mb,.slice adP iu.length cP,.slice adN v.net.length cN,.slice adE e5.length cE]:=gL.ai (b:=D.wb);clear gL;replace E:=E.ef 104;refine RN 3 E I λa E=>?_;refine bE E (cS E rfl (s:=104)) (ag E (pM 0 _ rfl)) rfl λa E=>?_;rw[pL]at E;refine CL 1 E I (BA (y:=n) I (.inr (by omega))) λa w E I=>?_;refine RT 4 E I ?_;exact⟨rfl,N4 sj I⟩
 refine RN 7 E I λa E=>?_;refine aR (λμ a w=>∃ (j:Nat),(μ=n-j∧j≤n)∧Fr a 114 [(0,.int .i64 n),(6,pt D.wb),(9,.int .i64 j)]∧U W w (aH W B bz c v::bw W D bz v::[])) (n) (⟨0,⟨rfl,by omega⟩,E.ab [0,6,9],I⟩) ?_;clear E I;rintro μ a w ⟨j,⟨rfl,hj⟩,E,I⟩;refine IF 5 E I (λki a E=>?_) λki a E=>?_
 ·
  have dG:j<v.ps.length:=by omega
  have nC:=hv j dG;have pL:=hN.1;have mz:=hc.ok.ev;refine RN 2 E I λa E=>?_;obtain⟨adP,cP,adN,cN,adE,cE,iu,e5,⟨eg,c3,dJ⟩,I⟩:=bw.open (I.pick (bw W D bz v));have hes:e5.length=v.ps.length:=by rw[← mz,← dJ,bd]
  obtain⟨e1,yP⟩:∃ e1,e5[j]?=some e1:=⟨_,aI (by omega)⟩;have hK:v.ev.getD j []=e1.2.2:=by rw[← dJ,bl,bm,yP];rfl
  rw[hK]at nC;have yQ:(e5.map bx)[j]?=some (.slice e1.1 e1.2.2.length e1.2.1):=by rw[bm,yP];rfl
  obtain⟨eQ,oE,rfl,_⟩:=(I.pick (Sl 70 1 adE e5.length cE (e5.map bx))).bY adE (by omega);refine aZ 0 (λw0 V=>Rd V D.wb 0 [pt D.mb,.slice adP iu.length cP,.slice adN v.net.length cN,.slice (some ⟨eQ,oE,none⟩) e5.length cE]∧Rd V eQ oE (e5.map bx)) [15,16,20,22,23,24] [0,1,2,4,1003,5,1006,7,8,9,10,11,12,14,17,18,19,21,3013,3020,3022,3023,3024,1015,1016,25,26] E I λa w E I hH=>?_;have hC:=hH.at w ⟨I.ai (b:=D.wb),I.cC eQ oE (by omega)⟩;refine RH 4 E I hH hC λa E=>?_;refine SS E (ag E (hC.1 3 _ rfl)) λa E=>?_;refine RH 1 E I hH hC λa E=>?_;refine SS E (ag E (hC.2 j _ yQ)) λa E=>?_;refine RH 3 E I hH hC λa E=>?_;rw[bn (by omega)]at E;refine RH 8 E I hH hC λa E=>?_;refine QH E (λw hc=>ag E (hc.1 0 _ rfl)) hC λa E=>?_;rw[pL]at E;refine RH 0 E I hH hC λa E=>?_;refine QH E (λw hc=>ag E (hc.1 3 _ rfl)) hC λa E=>?_;refine RH 1 E I hH hC λa E=>?_;refine QH E (λw hc=>ag E (hc.2 j _ yQ)) hC λa E=>?_;refine RH 1 E I hH hC λa E=>?_;refine aY 0 E I (Gt (I.pick (aH W B bz c v)) dG mz (by rw[hK];omega)) λad9 yo a w E I=>?_;replace hC:=hH.at w ⟨I.ai (b:=D.wb),I.cC eQ oE (by omega)⟩;rw[hK]at E;refine RH 3 E I hH hC λa E=>?_;rw[bn (by simp)]at E;refine RN 4 E I λa E=>?_;have h8:U W w (bw W D bz v::_):=bw.close (I.sub (M:=aa D.wb 40 [pt D.mb,.slice adP iu.length cP,.slice adN v.net.length cN,.slice (some ⟨eQ,oE,none⟩) e5.length cE]::Sl 34 1 adP iu.length cP (iu.map ek)::ah (dj W bz) iu::cu 60 adN v.net.length cN v.net::Sl 70 1 (some ⟨eQ,oE,none⟩) e5.length cE (e5.map bx)::ah fK e5::aH W B bz c v::[])) eg c3 dJ;exact⟨n-(j+1),by omega,j+1,⟨rfl,by omega⟩,E.ab [0,6,9],h8.sub⟩
 refine RN 1 E I λa E=>?_;obtain⟨adP,cP,adN,cN,adE,cE,iu,e5,hx,gL⟩:=bw.open (I.pick (bw W D bz v));have pM:Rd w D.wb 0 [pt D.mb,.slice adP iu.length cP,.slice adN v.net.length cN,.slice adE e5.length cE]:=gL.ai (b:=D.wb);clear gL;have pL:=hN.1;refine RN 3 E I λa E=>?_;refine SS E (ag E (pM 0 _ rfl)) λa E=>?_;rw[pL]at E;refine CL 0 E I (BA (y := -1) I (.inl (by decide))) λa w E I=>?_;refine RN 3 E I λa E=>?_;obtain⟨adP,cP,adN,cN,adE,cE,iu,e5,hx,gL⟩:=bw.open (I.pick (bw W D bz v));have pM:Rd w D.wb 0 [pt D.mb,.slice adP iu.length cP,.slice adN v.net.length cN,.slice adE e5.length cE]:=gL.ai (b:=D.wb);clear gL;replace E:=E.ef 104;refine RN 3 E I λa E=>?_;refine bE E (cS E rfl (s:=104)) (ag E (pM 0 _ rfl)) rfl λa E=>?_;rw[pL]at E;refine CL 1 E I (BA (y:=n) I (.inr (by omega))) λa w E I=>?_;refine RT 4 E I ?_;exact⟨rfl,N4 sj I⟩
end
section
set_option maxRecDepth 100000
theorem gd {x y:Bool}(h:x=true)(k:y=true):(x&&y)=true:=by rw[h,k];rfl
theorem acP {P:Program}{f:FuncId}{fn:Func}{s:ChangeSpec}{c:OpenClaim}(k1:c.wf (OpenSpec.ofChange s)=true)(k2:laidOutB P=true)(k3:mapsRowed P=true)(k4:fn.params.all (P.readableRec ·)=true)(xU:namedTie P c.named s.vars=true)
   (acQ:(c.stops==[])=true) (acR:(P.stops==[])=true) (acS:(c.knobs==[])=true) (acT:(P.stopKnobs==[])=true) (GH:(c.inPlace==P.inPlace f)=true) (BF:(c.unfollowed==P.unfollowed f)=true) (GI:(c.recurses==P.recurses f)=true) (GJ:(c.named==P.varsNamed f)=true)
   (k14:(c.maps==(fn.params.toList++s.plain.varTypes P).any (P.mapsRec ·))=true) (k15:(c.ifaces==(fn.params.toList++s.plain.varTypes P).any (P.ifacesRec ·))=true) (k16:(c.mapsOut==P.mapsAmong fn.resultTypes.toList)=true)
   (k17:(c.loops==(fn.params.toList++s.plain.varTypes P).any (P.loopsFrom ·))=true) (k18:(c.wideKeys==(fn.params.toList++s.plain.varTypes P++fn.resultTypes.toList).any (P.wideKeysFrom ·))=true) (k19:s.vars.all (P.varReadable ·)=true) (k20:fn.resultTypes.all (λt=>P.readableRec t&&decide (t<P.types.size))=true)
   (k21:(c.ifacesOut==fn.resultTypes.toList.any (P.ifacesRec ·))=true) (k22:(c.loopsOut==fn.resultTypes.toList.any (P.loopsFrom ·))=true) (k23:(c.plainKeys==P.plainKeys)=true) (k24:c.shortTexts.isNone=true) (k25:P.stopsHeard=true) (k26:P.mayEnter=true) (k27:(c.lifted==P.liftsFinal)=true) (k28:(P.make==some c.make)=true)
   (k29:(c.kinds==(if c.domain.isEmpty then [] else fn.params.toList.map λt=>match P.underlying t with | some (.int k)=>some k | _=>none))=true) (k30:(c.pinned==c.pinnedBy)=true) (k31:(c.veiled==(fn.params.toList++s.plain.varTypes P++fn.resultTypes.toList).any (P.veiledRec ·))=true) (k32:c.veiledFits P fn.params.toList (fn.params.toList++s.plain.varTypes P++fn.resultTypes.toList)=true):joinedFacts P f fn s c=true:=by
 unfold joinedFacts;exact gd (gd (gd (gd (gd (gd (gd (gd (gd (gd (gd (gd (gd (gd (gd (gd (gd (gd (gd (gd (gd (gd (gd (gd (gd (gd (gd (gd (gd (gd (gd k1 k2) k3) k4) xU) acQ) acR) acS) acT) GH) BF) GI) GJ) k14) k15) k16) k17) k18) k19) k20) k21) k22) k23) k24) k25) k26) k27) k28) k29) k30) k31) k32
theorem Oe:laidOutB Tryz.prog=true:=by kernel_rfl
theorem acU:mapsRowed Tryz.prog=true:=by kernel_rfl
theorem acV:Tryz.prog.stopsHeard=true:=by kernel_rfl
theorem acW:Tryz.prog.mayEnter=true:=by kernel_rfl
theorem acX (c:OpenClaim)(h:c.plainKeys=Rows.matchNoneRow.plainKeys):(c.plainKeys==Tryz.prog.plainKeys)=true:=by
 rw[h];kernel_rfl
theorem acY (c:OpenClaim)(h:c.lifted=Rows.matchNoneRow.lifted):(c.lifted==Tryz.prog.liftsFinal)=true:=by
 rw[h];kernel_rfl
theorem acZ (c:OpenClaim)(h:c.make=Rows.matchNoneRow.make):(Tryz.prog.make==some c.make)=true:=by
 rw[h];kernel_rfl
end
end Go.Proofs.YteoldcfapaiobaaGreat
