/- quintainlaw27.World: Same. -/
import Derived.Test.YteoldcfapaiobaaGreatA16HonW
import Derived.Test.YteoldcfapaiobaaGreatA13RefC
import Derived.Test.YteoldcfapaiobaaGreatA14RefG
import Derived.Test.YteoldcfapaiobaaGreatA15ArgC
import Derived.Test.YteoldcfapaiobaaGreatRows
import Derived.KernelRfl
import Derived.JoinedOf
namespace Go.Proofs.YteoldcfapaiobaaGreat
open List (mem_cons_self getElem?_range getElem_mem)
open Go.RowKit
set_option linter.unusedVariables false
set_option linter.unusedSimpArgs false
set_option maxRecDepth 10000
set_option synthInstance.maxSize 4000
set_option synthInstance.maxHeartbeats 400000
section
section
variable {W w:World}{L:List SP}{c i:Nat}{p:Pr}{v:Wd}{B:jw}{D:qi}{t:fz}{cf:Cf}{tb:List UInt8}{hL:Bool}
instance fK.isNil (z:fK):s4 z.mul (!z.yt):=⟨by
 cases z with
 | mu M=>exact .inr ⟨⟨_,rfl⟩,rfl⟩
 | pl B=>exact .inl ⟨rfl,rfl⟩⟩
theorem fK.ab5 {z:fK}(h:z.yt=true):∃ M,z=.mu M:=by
 cases z with
 | mu M=>exact⟨M,rfl⟩
 | pl B=>cases h
theorem ab6 {adL adE im:Option Addr}{cL cE iq:Nat}{xs:List (fA×Pl)}{es:List kl}{l:List jV}(I:V W w (aa B.mb 107 [.slice adL xs.length cL,pt B.q,.slice adE es.length cE]::Sl 81 1 adL xs.length cL (xs.map cB)::Sl 90 1 adE es.length cE (es.map bF)::ah eC es::L))(hi:i<xs.length)(kQ:es[i]?=some (im,iq,l))(hl:l.length≤1000000000) :
   Calls Tryz.prog 34 #[pt B.mb,.int .i64 i] w λe w'=>∃ ad c',e=.returned (.slice ad l.length c')∧V W w' (Sl 135 1 ad l.length c' (l.map cy)::aa B.mb 107 [.slice adL xs.length cL,pt B.q,.slice adE es.length cE]::Sl 81 1 adL xs.length cL (xs.map cB)::Sl 90 1 adE es.length cE (es.map bF)::ah eC es::L):=by
 obtain⟨wv,oA⟩:=a1.1 kQ;refine EN Tryz.func34 Tryz.ntmps34 rfl rfl λa E=>?_;refine CL 6 E I (rp I hi) λa w E I=>?_;refine RN 1 E I λa E=>?_;replace E:=E.aN 8;refine RN 2 E I λa E=>?_;obtain⟨iD,oE,rfl,iK⟩:=(I.pick (Sl 90 1 adE es.length cE (es.map bF))).bY adE (by omega);have n1:=iK i (.slice im l.length iq) (by rw[bn,kQ];rfl);refine RN 6 E I λa E=>?_;refine SS E (ag E (n1)) λa E=>?_;replace I:=(I.pick (ah eC es)).fE wv;rw[oA]at I;change V W w (Sl 135 1 im l.length iq (l.map cy)::_) at I;refine a2 0 E I (ML I hl) λad2 c2 a w E I=>?_;refine RT 1 E I ?_;refine⟨ad2,c2,rfl,?_⟩;have h4:=(I.pick (ah eC (es.eraseIdx i))).pick (Sl 135 1 im l.length iq (l.map cy));have h5:V W w (ah eC es::_):=V.wi (f:=eC) wv (by rw[oA];exact h4);exact h5.sub
theorem Gm {xs:List (fA×Pl)}{x:fA}{s:Pl}(I:V W w (x.J W p c s::ah (cz W p c) (xs.eraseIdx i)::L))(hx:xs[i]?=some (x,s)):V W w (ah (cz W p c) xs::L):=by
 obtain⟨hi,h1⟩:=a1.1 hx;refine V.wi hi ?_;rw[h1];exact I
set_option maxHeartbeats 2000000 in
theorem ab7 (I:V W w (aP W B p c v::b9 W D p v::L))(wx:D.mb=B.mb)(hB:B.Ok p c)(hv:bI p cf c v)(hP:uG B.fk cf tb hL v.ps.length)(q9:Bi W D.mv cf tb)(fy:c1 ⟨cf.ba,cf.order,tb⟩)(k0:9*c+100≤1000000000) :
   Calls Tryz.prog 33 #[pt D.wb] w λe w'=>e=.returned (.bool true)∧V W w' (aP W B p c v::b9 W D p v::L):=by
 replace I:=aP.wm I;obtain⟨adL,cL,adE,cE,xs,es,⟨ep,dc,ew⟩,I⟩:=I;replace I:=b9.open (I.pick (b9 W D p v));obtain⟨adP,cP,adN,cN,oD,m4,rs,fs,⟨jI,lX,ra⟩,I⟩:=I;rw[wx]at I;obtain⟨ys,nA,jY,I⟩:=cv.open (I.pick (cv 60 adN v.net.length cN v.net));have ch:xs.length=v.ps.length:=by rw[← dc,bf]
 have iK:rs.length=v.ps.length:=by rw[← lX,bf]
 have uH:ys.length=v.net.length:=by rw[← nA,bf]
 have oY:=hv.net.1;have abQ:es.length=v.ps.length:=by rw[← hv.ev,← ew,bf]
 have aer:fs.length=v.ps.length:=by rw[← hv.ev,← ra,bf]
 have MT:=hv.ev;have vY:=hv.len;replace I:V W w (aa B.mb 107 [.slice adL xs.length cL,pt B.q,.slice adE es.length cE]::Sl 81 1 adL xs.length cL (xs.map cB)::ah (cz W p c) xs::bD B.q (v.net.map cS)::Sl 90 1 adE es.length cE (es.map bF)::ah eC es::aa D.wb 40 [pt B.mb,.slice adP rs.length cP,.slice adN v.net.length cN,.slice oD fs.length m4]::Sl 34 1 adP rs.length cP (rs.map eD)::ah (dv W p) rs::Sl 60 3 adN v.net.length cN (rows bW ys)::ah bX ys::Sl 70 1 oD fs.length m4 (fs.map bF)::ah fW fs::L):=I.sub;refine EN Tryz.func33 Tryz.ntmps33 rfl rfl λa E=>?_;refine aY 4 (λw0 w'=>Rd w' D.wb 0 [pt B.mb,.slice adP rs.length cP,.slice adN v.net.length cN,.slice oD fs.length m4]) [4,5,9,10] [0,1,2,6,7,8,3003,3009,3010,1004,1005,11] E I λa w E I hH=>?_;have U:=hH.at w (I.ai (b:=D.wb));refine RH 6 E I hH U λa E=>?_;refine QH E (λw hc=>ag E (hc 0 _ rfl)) U λa E=>?_;refine QH E (λw hc=>ag E (hc 2 _ rfl)) U λa E=>?_;refine RH 1 E I hH U λa E=>?_;refine CL 0 E I (AT (I.pick (aa B.mb 107 [.slice adL xs.length cL,pt B.q,.slice adE es.length cE]))) λa w E I=>?_;replace U:=hH.at w (I.ai (b:=D.wb));refine RH 0 E I hH U λa E=>?_;refine CL 0 E I (Mo (I.pick (bD B.q (v.net.map cS)))) λa w E I=>?_;replace U:=hH.at w (I.ai (b:=D.wb));rw[bf]at E;refine RH 1 E I hH U λa E=>?_;rw[bq (by simp)]at E;refine RN 4 E I λa E=>?_;refine aS (λμ a w=>∃ (i:Nat),(μ=v.net.length-i∧i≤v.net.length)∧Fr a 150 [(0,pt D.wb),(3,.int .i64 i)]∧V W w (aa B.mb 107 [.slice adL xs.length cL,pt B.q,.slice adE es.length cE]::Sl 81 1 adL xs.length cL (xs.map cB)::ah (cz W p c) xs::bD B.q (v.net.map cS)::Sl 90 1 adE es.length cE (es.map bF)::ah eC es::aa D.wb 40 [pt B.mb,.slice adP rs.length cP,.slice adN v.net.length cN,.slice oD fs.length m4]::Sl 34 1 adP rs.length cP (rs.map eD)::ah (dv W p) rs::Sl 60 3 adN v.net.length cN (rows bW ys)::ah bX ys::Sl 70 1 oD fs.length m4 (fs.map bF)::ah fW fs::L)) (v.net.length) (⟨0,⟨rfl,by omega⟩,E.ab [0,3],I.sub⟩) ?_;clear E I;rintro μ a w ⟨i,⟨rfl,hi⟩,E,I⟩;refine IF 9 E I (λan a E=>?_) λan a E=>?_
 ·
  have aJ:i<v.net.length:=by omega
  obtain⟨y,hy,ab8⟩:∃ y,ys[i]?=some y∧v.net[i]?=some y.2.2:=by
   refine⟨_,aO (by omega),?_⟩;rw[← nA,bn,aO (by omega)];rfl
  obtain⟨bx,on,rfl,_⟩:=(I.pick (Sl 60 3 adN v.net.length cN (rows bW ys))).bY adN (by omega);refine CL 6 E I (AT (I.pick (aa B.mb 107 [.slice adL xs.length cL,pt B.q,.slice adE es.length cE]))) λa w E I=>?_;refine a2 1 E I (F0 (I.pick (bD B.q (v.net.map cS))) ab8) λam ji a w E I=>?_;refine AL 3 E I λb4 a w E I=>?_;refine SA 0 E I λa w E I=>?_;refine aY 2 (λw0 w'=>(Rd w' b4 0 [.int .i64 y.2.2.1,.int .i64 y.2.2.2.1,.slice am y.2.2.2.2.length ji]∧Rd w' D.wb 0 [pt B.mb,.slice adP rs.length cP,.slice (some ⟨bx,on,none⟩) v.net.length cN,.slice oD fs.length m4])∧Rd w' bx (on+i*3) (bW y)∧a6 w' am y.2.2.2.2.length y.2.2.2.2∧a6 w' y.1 y.2.2.2.2.length y.2.2.2.2) [8,10,11,12,21,23,24,25,35,37,38,39,40] [0,1,2,3,5,6,7,9,3004,1008,1010,1011,1012,13,14,15,16,18,19,20,22,3017,1021,1023,1024,1025,26,27,28,29,32,33,34,36,3030,3031,1035,1037,1038,1039,1040,41,42] E I λa w E I hH=>?_;have U:=hH.at w ⟨⟨I.ai (b:=b4),I.ai (b:=D.wb)⟩,jv oj (I.cX bx on (by omega)) hy,I.cF am _ rfl rfl,Gf (I.pick (ah bX ys)) hy⟩;refine RH 3 E I hH U λa E=>?_;replace E:=E.aN 41;refine RH 5 E I hH U λa E=>?_;refine QH E (λw hc=>ag E (hc.1.1 0 _ rfl)) U λa E=>?_;refine RH 0 E I hH U λa E=>?_;refine bz E (cW E rfl (s:=41)) (ag E (U.1.2 2 _ rfl)) rfl λa E=>?_;refine RH 2 E I hH U λa E=>?_;refine bz E (cW E rfl (s:=41)) (ag E (U.2.1 0 _ rfl)) rfl λa E=>?_;refine RH 3 E I hH U λa E=>?_;rw[bq (by omega)]at E;refine RH 5 E I hH U λa E=>?_;refine QH E (λw hc=>ag E (hc.1.1 1 _ rfl)) U λa E=>?_;refine RH 0 E I hH U λa E=>?_;refine bz E (cW E rfl (s:=54)) (ag E (U.1.2 2 _ rfl)) rfl λa E=>?_;refine RH 2 E I hH U λa E=>?_;refine bz E (cW E rfl (s:=54)) (ag E (U.2.1 1 _ rfl)) rfl λa E=>?_;refine RH 3 E I hH U λa E=>?_;rw[bq (by omega)]at E;refine RH 5 E I hH U λa E=>?_;refine QH E (λw hc=>ag E (hc.1.1 2 _ rfl)) U λa E=>?_;refine QH E (λw hc=>lP E Tryz.underlying22 Tryz.underlying5 Tryz.underlying9 (hc.2.2.1)) U λa E=>?_;refine RH 0 E I hH U λa E=>?_;refine bz E (cW E rfl (s:=67)) (ag E (U.1.2 2 _ rfl)) rfl λa E=>?_;refine RH 2 E I hH U λa E=>?_;refine bz E (cW E rfl (s:=67)) (ag E (U.2.1 2 _ rfl)) rfl λa E=>?_;refine RH 0 E I hH U λa E=>?_;refine bz E (cW E rfl (s:=67)) (lP E Tryz.underlying22 Tryz.underlying5 Tryz.underlying9 (U.2.2.2)) rfl λa E=>?_;refine RH 0 E I hH U λa E=>?_;refine QP E (λw=>VT E) λa E=>?_;rw[qy,beq_self_eq_true,Bool.not_true]at E;refine RH 1 E I hH U λa E=>?_;replace E:=E.aN 81;refine RN 4 E I λa E=>?_;exact⟨v.net.length-(i+1),by omega,i+1,⟨rfl,by omega⟩,E.ab [0,3],I.sub⟩
 refine RN 3 E I λa E=>?_;refine aS (λμ a w=>∃ (i:Nat),(μ=v.ps.length-i∧i≤v.ps.length)∧Fr a 150 [(0,pt D.wb),(6,.int .i64 i)]∧V W w (aa B.mb 107 [.slice adL xs.length cL,pt B.q,.slice adE es.length cE]::Sl 81 1 adL xs.length cL (xs.map cB)::ah (cz W p c) xs::bD B.q (v.net.map cS)::Sl 90 1 adE es.length cE (es.map bF)::ah eC es::aa D.wb 40 [pt B.mb,.slice adP rs.length cP,.slice adN v.net.length cN,.slice oD fs.length m4]::Sl 34 1 adP rs.length cP (rs.map eD)::ah (dv W p) rs::Sl 60 3 adN v.net.length cN (rows bW ys)::ah bX ys::Sl 70 1 oD fs.length m4 (fs.map bF)::ah fW fs::L)) (v.ps.length) (⟨0,⟨rfl,by omega⟩,E.ab [0,6],I.sub⟩) ?_;clear E I;rintro μ a w ⟨i,⟨rfl,hi⟩,E,I⟩;refine IF 9 E I (λbg a E=>?_) λbg a E=>?_
 ·
  have aJ:i<v.ps.length:=by omega
  obtain⟨x,hx,oz⟩:∃ x,xs[i]?=some (x,aq v i)∧B.fk[i]?=some x:=F2 ep dc (by omega);obtain⟨_,gT⟩:=a1.1 hx;obtain⟨r,hr⟩:∃ r,rs[i]?=some (r,aq v i):=A9 lX (by omega);have sX:(rs.map eD)[i]?=some (pt r.pb):=by rw[bn,hr];rfl
  have ld:r∈D.mv:=by rw[← jI];exact c8.2 ⟨_,bE hr,rfl⟩
  obtain⟨Gn,Dd⟩:=q9 r ld;have hxG:=hP.2 x (bE oz);have hM:=x.p6 (W:=W) (p:=p) hB.pr hB.sz (hB.gs x (bE oz));obtain⟨hw,df,wk⟩:=hv.pl i aJ;have mL:=hB.c;obtain⟨im,iq,l,kQ⟩:∃ im iq l,es[i]?=some (im,iq,l):=⟨_,_,_,aO (by omega)⟩;obtain⟨wv,oA⟩:=a1.1 kQ;have p5:v.ev.getD i []=l:=by rw[← ew,bl,bn,kQ];rfl
  obtain⟨yx,yy,n4⟩:∃ yx yy,fs[i]?=some (yx,yy,l):=by
   have h1:(fs.map (·.2.2))[i]?=some l:=by rw[ra,← p5,bl,aO (by omega)];rfl
   rw[bn,aO (by omega)]at h1;refine⟨fs[i].1,fs[i].2.1,?_⟩;rw[aO (by omega),← Option.some.inj h1]
  obtain⟨vO,Nw⟩:=a1.1 n4;obtain⟨ia,hlo⟩:=hv.kK l (by rw[← p5];exact AP (by omega));have hG:l.length≤1000000000:=by omega
  obtain⟨bp,op,rfl,_⟩:=(I.pick (Sl 34 1 adP rs.length cP (rs.map eD))).bY adP (by omega);obtain⟨lj,rC,rfl,_⟩:=(I.pick (Sl 70 1 oD fs.length m4 (fs.map bF))).bY oD (by omega);refine aY 3 (λw0 w'=>(Rd w' D.wb 0 [pt B.mb,.slice (some ⟨bp,op,none⟩) rs.length cP,.slice adN v.net.length cN,.slice (some ⟨lj,rC,none⟩) fs.length m4]∧Rd w' bp op (rs.map eD))∧Rd w' lj rC (fs.map bF)) [5,9,11,12,21,22,26,28,29] [0,1,2,4,6,7,8,10,3003,3009,3011,3012,1005,1013,14,15,16,17,18,20,23,24,25,27,3019,3026,3028,3029,1021,1022,1030,31,32] E I λa w E I hH=>?_;have U:=hH.at w ⟨⟨I.ai (b:=D.wb),I.cX bp op (by omega)⟩,I.cX lj rC (by omega)⟩;refine RH 8 E I hH U λa E=>?_;refine QH E (λw hc=>ag E (hc.1.1 0 _ rfl)) U λa E=>?_;refine QH E (λw hc=>ag E (hc.1.1 1 _ rfl)) U λa E=>?_;refine RH 1 E I hH U λa E=>?_;refine QH E (λw hc=>ag E (hc.1.2 i _ sX)) U λa E=>?_;refine RH 0 E I hH U λa E=>?_;refine CL 0 E I (rp ((I.pick (Sl 81 1 adL xs.length cL (xs.map cB))).pick (aa B.mb 107 [.slice adL xs.length cL,pt B.q,.slice adE es.length cE])) (by omega)) λa w E I=>?_;replace U:=hH.at w ⟨⟨I.ai (b:=D.wb),I.cX bp op (by omega)⟩,I.cX lj rC (by omega)⟩;rw[show cB xs[i]=.iface x.z.t (.pointer (some x.z.ad)) from by rw[gT]]at E;replace I:=Ba (I.pick (ah (dv W p) rs)) hr;replace I:=AY (I.pick (ah (cz W p c) xs)) hx;refine RH 0 E I hH U λa E=>?_;refine CL 0 E I (aas hM (by omega) ((I.pick (bT W r p (aq v i))).pick (x.J W p c (aq v i))) hw hB.pr hB.sz (by rw[Gn];exact fy) (by rw[Gn,hxG.1]) (by rw[Gn];exact Dd)) λa w E I=>?_;replace U:=hH.at w ⟨⟨I.ai (b:=D.wb),I.cX bp op (by omega)⟩,I.cX lj rC (by omega)⟩;replace I:=Gm ((I.pick (ah (cz W p c) (xs.eraseIdx i))).pick (x.J W p c (aq v i))) hx;replace I:=Bb ((I.pick (ah (dv W p) (rs.eraseIdx i))).pick (bT W r p (aq v i))) hr;refine RH 2 E I hH U λa E=>?_;replace E:=E.aN 106;refine RH 8 E I hH U λa E=>?_;refine QH E (λw hc=>ag E (hc.1.1 0 _ rfl)) U λa E=>?_;refine QH E (λw hc=>ag E (hc.1.1 3 _ rfl)) U λa E=>?_;refine RH 1 E I hH U λa E=>?_;refine QH E (λw hc=>ag E (hc.2 i (.slice yx l.length yy) (by rw[bn,n4];rfl))) U λa E=>?_;replace I:=I.sub (M:=aa B.mb 107 [.slice adL xs.length cL,pt B.q,.slice adE es.length cE]::Sl 81 1 adL xs.length cL (xs.map cB)::Sl 90 1 adE es.length cE (es.map bF)::ah eC es::ah (dv W p) rs::ah (cz W p c) xs::bD B.q (v.net.map cS)::aa D.wb 40 [pt B.mb,.slice (some ⟨bp,op,none⟩) rs.length cP,.slice adN v.net.length cN,.slice (some ⟨lj,rC,none⟩) fs.length m4]::Sl 34 1 (some ⟨bp,op,none⟩) rs.length cP (rs.map eD)::Sl 60 3 adN v.net.length cN (rows bW ys)::ah bX ys::Sl 70 1 (some ⟨lj,rC,none⟩) fs.length m4 (fs.map bF)::ah fW fs::L);refine RH 0 E I hH U λa E=>?_;refine a2 0 E I (ab6 I (by omega) kQ hG) λk6 eF a w E I=>?_;replace U:=hH.at w ⟨⟨I.ai (b:=D.wb),I.cX bp op (by omega)⟩,I.cX lj rC (by omega)⟩;refine RH 0 E I hH U λa E=>?_;refine a2 0 E I (abY I hG hlo) λad2 c2 a w E I=>?_;replace U:=hH.at w ⟨⟨I.ai (b:=D.wb),I.cX bp op (by omega)⟩,I.cX lj rC (by omega)⟩;replace I:=(I.pick (ah fW fs)).fE vO;rw[Nw]at I;change V W w (Sl 102 3 yx l.length yy (rows bS l)::_) at I;refine RH 0 E I hH U λa E=>?_;refine CL 0 E I (abZ (I.pick (Sl 102 3 ad2 l.length c2 (rows bS l))) hG) λa w E I=>?_;have uz:V W w (ah fW fs::_):=V.wi (f:=fW) vO (by rw[Nw];exact ((I.pick (ah fW (fs.eraseIdx i))).pick (Sl 102 3 yx l.length yy (rows bS l))));replace I:=uz;clear uz;refine RN 2 E I λa E=>?_;replace E:=E.aN 123;refine CL 7 E I (FY ((I.pick (Sl 81 1 adL xs.length cL (xs.map cB))).pick (aa B.mb 107 [.slice adL xs.length cL,pt B.q,.slice adE es.length cE])) (by omega)) λa w E I=>?_;rw[show xs[i].1.z.mul=x.z.mul from by rw[gT]]at E;refine BY 5 E I (λbw a E=>?_) λbw a E=>?_
  ·
   obtain⟨M,Nx⟩:∃ M,x.z=.mu M:=fK.ab5 (by simpa using bw);have Ny:x.J W p c (aq v i)=fj W M p x.cf c (aq v i):=by unfold fA.J;rw[Nx]
   have ab9:e4 (aq v i).k=x.cf:=by
    have h1:(B.fk.map (·.cf))[i]?=some x.cf:=by rw[bn,oz];rfl
    rw[hP.1,bn,getElem?_range aJ]at h1;rw[df];exact Option.some.inj h1
   replace I:=AY (I.pick (ah (cz W p c) xs)) hx;rw[Ny]at I;obtain⟨zs,sN,I⟩:=Nt (I.pick (ah (dv W p) rs));obtain⟨z,hz,Nz⟩:∃ z,zs[i]?=some z∧z.1=(r,aq v i):=by
    rw[← sN,bn]at hr;cases h1:zs[i]? with
    | none=>rw[h1]at hr;cases hr
    | some z=>rw[h1]at hr;exact⟨z,rfl,Option.some.inj hr⟩
   rw[show x.z.mul=pt M.mb from by rw[Nx];rfl]at E;refine RN 7 E I λa E=>?_;refine bz E (cW E rfl (s:=132)) (ag E ((I.cX bp op (by omega)) i _ sX)) rfl λa E=>?_;refine RN 2 E I λa E=>?_;refine bz E (cW E rfl (s:=132)) (ag E (by have h9:=(Nv (I.pick (ah (lI W p) zs)) hz).pb 0 _ rfl;rw[Nz]at h9;exact h9)) rfl λa E=>?_;refine RN 2 E I λa E=>?_;refine bz E (cW E rfl (s:=132)) (bO E Tryz.underlying28 rfl Ty.t28 (by have h9:=((Nv (I.pick (ah (lI W p) zs)) hz).cb).part 0 10;rw[Nz]at h9;exact h9)) rfl λa E=>?_;rw[show List.take 10 (List.drop 0 (cZ (r,aq v i).2.k (r,aq v i).1.core z.2.1))=b7 x.cf from by rw[← ab9];rfl]at E;refine CL 0 E I (ab0 (I.pick (fj W M p x.cf c (aq v i)))) λa w E I=>?_;rw[← Ny]at I;have uz:=Nu (I.pick (ah (lI W p) zs));rw[sN]at uz;replace I:=Gm ((uz.pick (ah (cz W p c) (xs.eraseIdx i))).pick (x.J W p c (aq v i))) hx;refine RN 2 E I λa E=>?_;replace E:=E.aN 149;refine RN 4 E I λa E=>?_;exact⟨v.ps.length-(i+1),by omega,i+1,⟨rfl,by omega⟩,E.ab [0,6],I.sub⟩
  refine RN 21 E I λa E=>?_;exact⟨v.ps.length-(i+1),by omega,i+1,⟨rfl,by omega⟩,E.ab [0,6],I.sub⟩
 refine RT 2 E I ?_;have h8:=cv.close (n:=v.net.length) (c:=cN) ((I.pick (ah bX ys)).pick (Sl 60 3 adN v.net.length cN (rows bW ys))) nA rfl;rw[← wx]at h8;have h9:V W w (b9 W D p v::_):=b9.close (h8.sub (M:=aa D.wb 40 [pt D.mb,.slice adP rs.length cP,.slice adN v.net.length cN,.slice oD fs.length m4]::Sl 34 1 adP rs.length cP (rs.map eD)::ah (dv W p) rs::cv 60 adN v.net.length cN v.net::Sl 70 1 oD fs.length m4 (fs.map bF)::ah fW fs::aa D.mb 107 [.slice adL xs.length cL,pt B.q,.slice adE es.length cE]::Sl 81 1 adL xs.length cL (xs.map cB)::ah (cz W p c) xs::bD B.q (v.net.map cS)::Sl 90 1 adE es.length cE (es.map bF)::ah eC es::L)) jI lX ra;rw[wx]at h9;refine⟨rfl,aP.uC (adL:=adL) (cL:=cL) (adE:=adE) (cE:=cE) (xs:=xs) (es:=es) ?_ ep dc ew⟩;exact h9.sub
end
end
section
section
variable {W w:World}{L:List SP}{c i:Nat}{p:Pr}{v:Wd}{B:jw}{t:fz}{cf:Cf}
def mw:Cf:=⟨2,0,0,0,4,1,0,2,1,5⟩
theorem yz (I:V W w (aP W B p c v::L))(hB:B.Ok p (c+10))(hv:bI p cf c v)(k0:9*c+100≤1000000000)(hf:t.fn≠7) :
   Calls Tryz.prog 29 #[pt B.mb,.agg (dC t).toArray] w λe w'=>e=.returned (.int .i64 (bt p t v).1)∧V W w' (aP W B p (c+10) (ee p t v)::L) :=
 (MS I hB hv k0).mono λe w' ⟨z,h1,h2,_,I⟩=>⟨by rw[h1,h2 hf],by rw[ee,ae hf];exact I⟩
theorem NA (hf:t.fn<1∨8<t.fn):bt p t v=(1,v):=by rw[bt,al hf]
set_option maxHeartbeats 2000000 in
theorem aca (I:V W w L):Calls Tryz.prog 26 #[] w λe w'=>e=.returned (.bool true)∧V W w' L:=by
 have ri:fg mw:=by decide
 have gn:nx (dN mw 0) cH []:=⟨ri,qf,by decide⟩;refine EN Tryz.func26 Tryz.ntmps26 rfl rfl λa E=>?_;refine bd 4 E I (L8 I) λadP a w E I=>?_;refine bd 0 E I (Na (cf:=mw) (tb:=[]) (adT:=none) (cT:=0) gn I rfl (by decide) (by decide) (by decide) (λw' h=>a6.nil)) λB a w E ⟨hP,I⟩=>?_;refine RN 5 E I λa E=>?_;have fy:∀ x∈B.fk,c1 x.z.gs:=λx hx=>by rw[(hP.2 x hx).1];decide
 have L0:Lv cH mw (λ_=>0) (gp cH mw mw.n.toNat):=Lv.new ri;have wB:(gp cH mw mw.n.toNat).ps.length=2:=rB;have qI:(gp cH mw mw.n.toNat).net=[]:=rfl;have pf:∀ x y,x<2→y<2→bK (gp cH mw mw.n.toNat) x y=0:=λx y hx hy=>Bh ri hx hy;have Bk:=Gi (p:=cH) ri;generalize gp cH mw mw.n.toNat=v0 at I L0 wB qI pf Bk;have UA:mw.bo.toNat=4:=rfl;obtain⟨NB,e1,vx,k1,z1⟩:=L0.ak (i:=0) (by omega) 5 0;have k00:=pf 0 0 (by omega) (by omega);replace z1:=z1 (by omega);have o1:=Bk.go (s:=⟨1,(0:Nat),5,0⟩);obtain⟨NC,e2,se,k2,z2⟩:=NB.ak (i:=1) (by omega) 6 0;have Bl:=pf 1 1 (by omega) (by omega);have ND:=k1 1 1;rw[ae (by omega)]at ND;replace z2:=z2 (by omega);have pO:=o1.go (s:=⟨1,(1:Nat),6,0⟩);obtain⟨NF,e3,NG,k3,NH,z3⟩:=NC.tick (i:=0) (by decide) (by omega) (by rw[e2,e1,qI,se,vx,wB];decide) 0 0;have Gp:=pO.go (s:=⟨2,(0:Nat),0,0⟩);have t3:sZ (ee cH ⟨1,(1:Nat),6,0⟩ (ee cH ⟨1,(0:Nat),5,0⟩ v0)) 0=[(0,1,aR (dS (aq (ee cH ⟨1,(1:Nat),6,0⟩ (ee cH ⟨1,(0:Nat),5,0⟩ v0)) 0).k 1))]:=by
  rw[sZ,se,vx,wB];rfl
 rw[e2,e1,qI,t3]at e3;obtain⟨L4,iQ,NI,k4,z4,_⟩:=NF.send e3 0 0;have wC:=Gp.go (s:=⟨3,0,0,0⟩);have h5:ry (0,1,aR (dS (aq (ee cH ⟨1,(1:Nat),6,0⟩ (ee cH ⟨1,(0:Nat),5,0⟩ v0)) 0).k 1))=1:=by
  rw[NH _ (by rw[t3];exact mem_cons_self),k2 0 0,ae (by omega),k1 0 0,al (by omega),k00]
 have f4:ax (aq (ee cH ⟨3,0,0,0⟩ (ee cH ⟨2,(0:Nat),0,0⟩ (ee cH ⟨1,(1:Nat),6,0⟩ (ee cH ⟨1,(0:Nat),5,0⟩ v0)))) 1).k=1:=by
  have rZ:=k4 1 0;rw[al ⟨rfl,rfl⟩,k3,k2,ae (by omega),k1,ae (by omega),pf 1 0 (by omega) (by omega),h5]at rZ;have q1:=k4 1 1;rw[ae (by show ¬ ((1:Nat)=1∧(1:Nat)=0);omega),k3,k2,al (by omega),ND]at q1;refine L4.front (j:=0) (by omega) (λj hj=>?_) (by omega) (by rw[rZ];rfl);have:j=0∨j=1:=by omega
  rcases this with rfl | rfl
  ·rw[rZ];decide
  ·rw[q1];omega
 clear pf k1 k2 k3 k4 t3 h5 NH;refine RN 2 E I λa E=>?_;obtain⟨adL,cL,adE,cE,xs,es,⟨ep,dc,ew⟩,I⟩:=aP.wm I;have ch:xs.length=2:=by rw[← wB,← dc,bf]
 have H3:xs[1].1.z.yt=true:=(hP.2 _ (by rw[← ep];exact c8.2 ⟨xs[1],getElem_mem _,rfl⟩)).2;refine RN 3 E I λa E=>?_;replace E:=E.aN 17;refine RN 4 E I λa E=>?_;replace E:=E.aN 21;refine CL 1 E I (rp (i:=0) ((I.pick (Sl 81 1 adL xs.length cL (xs.map cB))).pick (aa B.mb 107 [.slice adL xs.length cL,pt B.q,.slice adE es.length cE])) (by omega)) λa w E I=>?_;refine RN 3 E I λa E=>?_;replace E:=E.aN 26;refine CL 1 E I (FY (i:=1) ((I.pick (Sl 81 1 adL xs.length cL (xs.map cB))).pick (aa B.mb 107 [.slice adL xs.length cL,pt B.q,.slice adE es.length cE])) (by omega)) λa w E I=>?_;refine RN 1 E I λa E=>?_;rw[H3,Bool.not_true]at E;refine RN 2 E I λa E=>?_;replace E:=E.aN 31;refine CL 1 E I (AT (I.pick (aa B.mb 107 [.slice adL xs.length cL,pt B.q,.slice adE es.length cE]))) λa w E I=>?_;refine RN 2 E I λa E=>?_;replace E:=E.aN 35;refine RN 2 E I λa E=>?_;replace I:=aP.uC (I.sub (M:=aa B.mb 107 [.slice adL xs.length cL,pt B.q,.slice adE es.length cE]::Sl 81 1 adL xs.length cL (xs.map cB)::ah (cz W cH 0) xs::bD B.q (v0.net.map cS)::Sl 90 1 adE es.length cE (es.map bF)::ah eC es::L)) ep dc ew;refine CL 2 E I (yz (t:=⟨1,(0:Nat),5,0⟩) I ⟨qf,by decide,fy,by decide⟩ Bk (by decide) (by decide)) λa w E I=>?_;rw[z1]at E;refine CL 4 E I (yz (t:=⟨1,(1:Nat),6,0⟩) I ⟨qf,by decide,fy,by decide⟩ (o1.more (by decide)) (by decide) (by decide)) λa w E I=>?_;rw[z2]at E;refine CL 4 E I (yz (t:=⟨2,(0:Nat),0,0⟩) I ⟨qf,by decide,fy,by decide⟩ (pO.more (by decide)) (by decide) (by decide)) λa w E I=>?_;rw[z3]at E;refine CL 4 E I (yz (t:=⟨3,0,0,0⟩) I ⟨qf,by decide,fy,by decide⟩ (Gp.more (by decide)) (by decide) (by decide)) λa w E I=>?_;rw[z4]at E;have n5:=NI.trans (NG.trans (se.trans (vx.trans wB)));clear Bk o1 pO Gp L0 NB NC NF z1 z2 z3 z4 e1 e2 e3 wB vx se NG NI;generalize ee cH ⟨3,0,0,0⟩ (ee cH ⟨2,(0:Nat),0,0⟩ (ee cH ⟨1,(1:Nat),6,0⟩ (ee cH ⟨1,(0:Nat),5,0⟩ v0)))=v at I wC L4 f4 iQ n5;refine RN 2 E I λa E=>?_;obtain⟨adL,cL,adE,cE,xs,es,⟨ep,dc,ew⟩,I⟩:=aP.wm I;have ch:xs.length=2:=by rw[← n5,← dc,bf]
 obtain⟨x,hx,oz⟩:∃ x,xs[1]?=some (x,aq v 1)∧B.fk[1]?=some x:=F2 ep dc (by omega);obtain⟨_,gT⟩:=a1.1 hx;have hM:=x.p6 (W:=W) (p:=cH) qf (by decide) (fy x (bE oz));have hw:=(wC.pl 1 (by omega)).1;refine CL 1 E I (rp (i:=1) ((I.pick (Sl 81 1 adL xs.length cL (xs.map cB))).pick (aa B.mb 107 [.slice adL xs.length cL,pt B.q,.slice adE es.length cE])) (by omega)) λa w E I=>?_;rw[show cB xs[1]=.iface x.z.t (.pointer (some x.z.ad)) from by rw[gT]]at E;replace I:=AY (I.pick (ah (cz W cH 40) xs)) hx;refine RN 0 E I λa E=>?_;refine jl E rfl hM.AJ hM.AK rfl (hM.AM _ _ 40 (aq v 1) (by decide) hw (I.pick (x.J W cH 40 (aq v 1)))) (by rfl) ?_;clear E I;rintro e w ⟨k6,eF,rfl,I⟩;refine⟨_,rfl,λa E=>?_⟩;refine RN 5 E I λa E=>?_;rw[show (la (aq v 1)).2=1 from f4]at E;replace I:=Gm ((I.pick (ah (cz W cH 40) (xs.eraseIdx 1))).pick (x.J W cH 40 (aq v 1))) hx;replace I:=aP.uC (I.sub (M:=aa B.mb 107 [.slice adL xs.length cL,pt B.q,.slice adE es.length cE]::Sl 81 1 adL xs.length cL (xs.map cB)::ah (cz W cH 40) xs::bD B.q (v.net.map cS)::Sl 90 1 adE es.length cE (es.map bF)::ah eC es::L)) ep dc ew;refine RN 4 E I λa E=>?_;replace E:=E.eo 56;refine RN 4 E I λa E=>?_;replace E:=E.eo 60;refine RN 4 E I λa E=>?_;replace E:=E.eo 64;refine RN 4 E I λa E=>?_;replace E:=E.eo 68;refine RN 4 E I λa E=>?_;replace E:=E.eo 72;refine RN 1 E I λa E=>?_;obtain⟨adL,cL,adE,cE,xs,es,⟨ep,dc,ew⟩,I⟩:=aP.wm I;refine CL 0 E I (AT (I.pick (aa B.mb 107 [.slice adL xs.length cL,pt B.q,.slice adE es.length cE]))) λa w E I=>?_;refine CL 0 E I (Mo (I.pick (bD B.q (v.net.map cS)))) λa w E I=>?_;rw[bf,iQ]at E;replace I:=aP.uC (I.sub (M:=aa B.mb 107 [.slice adL xs.length cL,pt B.q,.slice adE es.length cE]::Sl 81 1 adL xs.length cL (xs.map cB)::ah (cz W cH 40) xs::bD B.q (v.net.map cS)::Sl 90 1 adE es.length cE (es.map bF)::ah eC es::L)) ep dc ew;refine RN 3 E I λa E=>?_;replace E:=E.eo 78;refine CL 2 E I (yz (t:=⟨0,0,0,0⟩) I ⟨qf,by decide,fy,by decide⟩ (wC.more (by decide)) (by decide) (by decide)) λa w E I=>?_;rw[NA (.inl (by decide))]at E;rw[ee,ae (by decide),NA (.inl (by decide)),L4.still]at I;refine RN 3 E I λa E=>?_;replace E:=E.eo 84;refine a2 1 E I (abP (i:=0) I (by omega) wC.ev (by rw[L4.ev _ (AP (d:=[]) (by rw[wC.ev];omega))];decide)) λad2 c2 a w E I=>?_;rw[L4.ev _ (AP (d:=[]) (by rw[wC.ev];omega))]at E;refine RT 4 E I ?_;exact⟨rfl,I.sub⟩
end
end
section
structure yA (W:World)(p:Pr)(B:jw)(D:qi)(cf:Cf)(tb:List UInt8)(hL:Bool):Prop where
 mb:D.mb=B.mb
 fk:uG B.fk cf tb hL cf.n.toNat
 mv:Bi W D.mv cf tb
 gs:c1 ⟨cf.ba,cf.order,tb⟩
 pr:dj p
 sz:p.title.size≤1000000000
section
variable {W w:World}{L:List SP}{c:Nat}{p:Pr}{v:Wd}{B:jw}{D:qi}{t:fz}{cf:Cf}{tb:List UInt8}{hL:Bool}
theorem uG.gs {fk:List fA}{n:Nat}(h:uG fk cf tb hL n)(hg:c1 ⟨cf.ba,cf.order,tb⟩):∀ x∈fk,c1 x.z.gs:=λx hx=>by rw[(h.2 x hx).1];exact hg
theorem yA.ok (h:yA W p B D cf tb hL)(hc:c≤1000000):B.Ok p c:=⟨h.pr,h.sz,h.fk.gs h.gs,hc⟩
theorem Gq (I:V W w (aP W B p c v::b9 W D p v::L))(ll:yA W p B D cf tb hL)(hv:bI p cf c v)(hc:c≤1000000) :
   Calls Tryz.prog 33 #[pt D.wb] w λe w'=>e=.returned (.bool true)∧V W w' (aP W B p c v::b9 W D p v::L) :=
 ab7 I ll.mb (ll.ok hc) hv (by rw[hv.n];exact ll.fk) ll.mv ll.gs (by omega)
theorem acb (I:V W w (aP W B p c v::b9 W D p v::L))(ll:yA W p B D cf tb hL)(hv:bI p cf c v)(Bg:rA v)(hc:c≤900000) :
   Calls Tryz.prog 32 #[pt D.wb,.agg (dC t).toArray] w λe w'=>e=.returned (.bool true)∧V W w' (aP W B p (c+10) (ee p t v)::b9 W D p (ee p t v)::L) :=
 abT I ll.mb (ll.ok (by omega)) hv Bg (by omega) λw u hu hcu I=>Gq I ll hu (by omega)
structure Wc (p:Pr)(cf:Cf)(c:Nat)(v:Wd):Prop where
 ok:bI p cf c v
 calm:rA v
theorem Wc.new (h:fg cf):Wc p cf 0 (gp p cf cf.n.toNat):=⟨Gi h,Nn h⟩
end
end
section
open Go.RowKit Go.ChangeShapes Go.WideShapes Go.ChangeAt
set_option linter.constructorNameAsVariable false
set_option maxRecDepth 100000
theorem stepOf {H:Type}{enc:TypeId×Value→H}{W:World}{m:Nat}{cs:List Value}{y:DataW H×List MemPlace}(h:DataW.trod enc Tryz.prog W 0 (λ_=>true) true m 58 cs=some y):∃ t:fz,cs=dC t:=by
 obtain⟨xs,n,_,_,cd,hlen,hf⟩:=DataW.trod_struct Tryz.underlying58 h;rw[show Tryz.prog.cellsOf 58=4 from by kernel_rfl]at cd
 match cs,cd,xs,hlen with
 | [acd,eF,c2,dz],_,[y0,Cz,CA,ace],_ =>
  have qI:DataW.trod enc Tryz.prog W 0 (λ_=>true) true n 3 [acd]=some y0:=hf 0 _ rfl;have e1:DataW.trod enc Tryz.prog W 0 (λ_=>true) true n 3 [eF]=some Cz:=hf 1 _ rfl;have e2:DataW.trod enc Tryz.prog W 0 (λ_=>true) true n 3 [c2]=some CA:=hf 2 _ rfl;have e3:DataW.trod enc Tryz.prog W 0 (λ_=>true) true n 3 [dz]=some ace:=hf 3 _ rfl;obtain⟨z0,h0,_,_⟩:=DataW.trod_int Tryz.underlying3 qI;obtain⟨z1,h1,_,_⟩:=DataW.trod_int Tryz.underlying3 e1;obtain⟨z2,h2,_,_⟩:=DataW.trod_int Tryz.underlying3 e2;obtain⟨z3,h3,_,_⟩:=DataW.trod_int Tryz.underlying3 e3;simp at h0 h1 h2 h3;subst h0 h1 h2 h3;exact⟨⟨z0,z1,z2,z3⟩,rfl⟩
theorem acf {H:Type}{enc:TypeId×Value→H}{W:World}{base:Nat}{v:Value}{d:DataW H}{q:List MemPlace}(hv:Value.okWide Tryz.prog W .any base 58 v)
   (h:DataW.Trod enc Tryz.prog W 0 (λ_=>true) true 58 v d q):∃ t:fz,v=.agg (dC t).toArray:=by
 obtain⟨cs,rfl,aE⟩:=okWide_struct Tryz.underlying58 hv;obtain⟨fuel,hf⟩:=h;obtain⟨t,ht⟩:=stepOf hf;refine⟨t,?_⟩;rw[← ht];simp[Value.cells]
section
variable {W W' w:World}{L:List SP}
theorem Gr {L:List SP}(hb:Below W.heap.size W W')(I:V W' w L):Below W.heap.size W w:=hb.trans (I.below.mono hb.size)
end
end
section
def oF:Cf:=⟨3,0,0,0,4,1,0,1,1,4⟩
set_option maxHeartbeats 2000000 in
theorem acg (t:fz)(hL:Bool)(W:World):Calls Tryz.prog 8 #[.agg (dC t).toArray,.bool hL] W λe w'=>e=.returned (.bool true)∧Below W.heap.size W w':=by
 have I:=V.start W;have ri:fg oF:=by decide
 have gn:nx (dN oF 0) cH []:=⟨ri,qf,by decide⟩;refine EN Tryz.func8 Tryz.ntmps8 rfl rfl λa E=>?_;refine BX 1 E I λb2 a w E I=>?_;change V W w (aa b2 58 (dC t)::_) at I;refine CL 2 E I (aca I) λa w E I=>?_;refine RN 5 E I λa E=>?_;replace E:=E.aN 10;refine bd 3 E I (L8 I) λadP a w E I=>?_;have oX:Rd w b2 0 (dC t):=I.ai (b:=b2);have uc:b2<w.heap.size:=Rd.lt oX;have yw:yv w cH adP 12:=V.roW (I.pick (aA W cH adP 12));have vm:=I.below;obtain⟨W2,NJ⟩:∃ W2,W2=w:=⟨_,rfl⟩;replace I:V W2 w []:=by rw[NJ];exact V.start w
 rw[← NJ]at oX uc yw vm;have cK:∀ w' L,V W2 w' L→Rd w' b2 0 (dC t):=λw' L I j v hj=>(I.below.cell uc).trans (oX j v hj);refine a2 1 E I (ab1 (cf:=oF) (tb:=[]) (adT:=none) (cT:=0) gn I yw rfl qf (by decide) (by decide) (by decide) (λw' h=>a6.nil)) λB D a w E ⟨hN,I⟩=>?_;refine RN 1 E I λa E=>?_;have ll:yA W2 cH B D oF [] hL:=⟨hN.1,hN.2.1,hN.2.2,by decide,qf,by decide⟩;have hc:=Wc.new (p:=cH) ri;have vo:∀ i,i<3→(aq (gp cH oF oF.n.toNat) i).k.workers=1:=λi hi=>by
  have h1:=(hc.ok.pl i (by rw[rB];exact hi)).2.1;have h2:(e4 (aq (gp cH oF oF.n.toNat) i).k).workers=1:=by rw[h1];rfl
  exact h2
 have FX:(gp cH oF oF.n.toNat).ps.length=3:=rB;generalize gp cH oF oF.n.toNat=v at I hc vo FX;refine RN 4 E I λa E=>?_;replace E:=E.aN 16;refine RN 4 E I λa E=>?_;refine SS E (ag E (cK _ _ I 0 _ rfl)) λa E=>?_;refine IF 1 E I (λay a E=>?_) λay a E=>?_
 ·
  refine RN 1 E I λa E=>?_;obtain⟨adP,cP,adN,cN,adE,cE,xs,es,⟨ep,dc,ew⟩,I⟩:=b9.open (I.pick (b9 W2 D cH v));refine aY 0 (λw0 w'=>Rd w' D.wb 0 [pt D.mb,.slice adP xs.length cP,.slice adN v.net.length cN,.slice adE es.length cE]∧Rd w' b2 0 (dC t)) [4] [0,1,2,3003,1004,1005,6] E I λa w E I hH=>?_;have U:=hH.at w ⟨I.ai (b:=D.wb),cK _ _ I⟩;refine RH 3 E I hH U λa E=>?_;refine QH E (λw hc=>ag E (hc.1 0 _ rfl)) U λa E=>?_;refine RH 0 E I hH U λa E=>?_;refine SS E (bO E Tryz.underlying58 rfl Ty.t58 (U.2)) λa E=>?_;refine RH 0 E I hH U λa E=>?_;refine bd 0 E I (Gh hN.1 (I.pick (aP W2 B cH 0 v)) (ll.ok (by decide)) hc.ok (by decide)) λz a w E ⟨_,hz,I⟩=>?_;refine RN 1 E I λa E=>?_;rw[Nk (by assumption),Gg hc.ok.ev hc.calm]at I;replace I:V W2 w (b9 W2 D cH v::_):=b9.close (I.sub (M:=aa D.wb 40 [pt D.mb,.slice adP xs.length cP,.slice adN v.net.length cN,.slice adE es.length cE]::Sl 34 1 adP xs.length cP (xs.map eD)::ah (dv W2 cH) xs::cv 60 adN v.net.length cN v.net::Sl 70 1 adE es.length cE (es.map bF)::ah fW es::[aP W2 B cH 10 v])) ep dc ew;replace hz:=hz (by assumption);refine BY 4 E I (λbw a E=>?_) λbw a E=>?_
  ·
   refine CL 19 E I (Gq (I.pick (aP W2 B cH 10 v)) ll (hc.ok.more (by decide)) (by decide)) λa w E I=>?_;refine RT 2 E I ?_;exact⟨rfl,Gr vm I⟩
  rcases hz with h7 | ⟨h0,h1,h2,h3,x,M,h4,h5⟩
  ·exact absurd h7 (by simpa using bw)
  have nv:hL=true:=by rw[← (ll.fk.2 x (bE h4)).2,h5];rfl
  rw[nv]at E;have hw1:=vo t.a.toNat (by omega);refine RN 2 E I λa E=>?_;replace E:=E.eo 30;refine RN 1 E I λa E=>?_;refine bz E (cW E rfl (s:=30)) (ag E (cK _ _ I 1 _ rfl)) rfl λa E=>?_;refine RN 3 E I λa E=>?_;rw[dd (by omega)]at E;refine RN 1 E I λa E=>?_;refine bz E (cW E rfl (s:=35)) (ag E (cK _ _ I 1 _ rfl)) rfl λa E=>?_;refine RN 3 E I λa E=>?_;rw[dd (by omega)]at E;refine RN 1 E I λa E=>?_;refine bz E (cW E rfl (s:=40)) (ag E (cK _ _ I 2 _ rfl)) rfl λa E=>?_;refine RN 4 E I λa E=>?_;rw[dd (by omega)]at E;refine CL 1 E I (Gq (I.pick (aP W2 B cH 10 v)) ll (hc.ok.more (by decide)) (by decide)) λa w E I=>?_;refine RT 2 E I ?_;exact⟨rfl,Gr vm I⟩
 refine RN 2 E I λa E=>?_;refine SS E (bO E Tryz.underlying58 rfl Ty.t58 (cK _ _ I)) λa E=>?_;refine CL 0 E I (acb I ll hc.ok hc.calm (by decide)) λa w E I=>?_;refine RT 1 E I ?_;exact⟨rfl,Gr vm I⟩
end
section
set_option maxRecDepth 100000
theorem gb {x y:Bool}(h:x=true)(k:y=true):(x&&y)=true:=by rw[h,k];rfl
theorem ach {P:Program}{f:FuncId}{fn:Func}{s:ChangeSpec}{c:OpenClaim}(k1:c.wf (OpenSpec.ofChange s)=true)(k2:laidOutB P=true)(k3:mapsRowed P=true)(k4:fn.params.all (P.readableRec ·)=true)(xG:namedTie P c.named s.vars=true)
   (aci:(c.stops==[])=true) (acj:(P.stops==[])=true) (ack:(c.knobs==[])=true) (acm:(P.stopKnobs==[])=true) (Gt:(c.inPlace==P.inPlace f)=true) (Bl:(c.unfollowed==P.unfollowed f)=true) (Gu:(c.recurses==P.recurses f)=true) (Gv:(c.named==P.varsNamed f)=true)
   (k14:(c.maps==(fn.params.toList++s.plain.varTypes P).any (P.mapsRec ·))=true) (k15:(c.ifaces==(fn.params.toList++s.plain.varTypes P).any (P.ifacesRec ·))=true) (k16:(c.mapsOut==P.mapsAmong fn.resultTypes.toList)=true)
   (k17:(c.loops==(fn.params.toList++s.plain.varTypes P).any (P.loopsFrom ·))=true) (k18:(c.wideKeys==(fn.params.toList++s.plain.varTypes P++fn.resultTypes.toList).any (P.wideKeysFrom ·))=true) (k19:s.vars.all (P.varReadable ·)=true) (k20:fn.resultTypes.all (λt=>P.readableRec t&&decide (t<P.types.size))=true)
   (k21:(c.ifacesOut==fn.resultTypes.toList.any (P.ifacesRec ·))=true) (k22:(c.loopsOut==fn.resultTypes.toList.any (P.loopsFrom ·))=true) (k23:(c.plainKeys==P.plainKeys)=true) (k24:c.shortTexts.isNone=true) (k25:P.stopsHeard=true) (k26:P.mayEnter=true) (k27:(c.lifted==P.liftsFinal)=true) (k28:(P.make==some c.make)=true)
   (k29:(c.kinds==(if c.domain.isEmpty then [] else fn.params.toList.map λt=>match P.underlying t with | some (.int k)=>some k | _=>none))=true) (k30:(c.pinned==c.pinnedBy)=true) (k31:(c.veiled==(fn.params.toList++s.plain.varTypes P++fn.resultTypes.toList).any (P.veiledRec ·))=true) (k32:c.veiledFits P fn.params.toList (fn.params.toList++s.plain.varTypes P++fn.resultTypes.toList)=true):joinedFacts P f fn s c=true:=by
 unfold joinedFacts;exact gb (gb (gb (gb (gb (gb (gb (gb (gb (gb (gb (gb (gb (gb (gb (gb (gb (gb (gb (gb (gb (gb (gb (gb (gb (gb (gb (gb (gb (gb (gb k1 k2) k3) k4) xG) aci) acj) ack) acm) Gt) Bl) Gu) Gv) k14) k15) k16) k17) k18) k19) k20) k21) k22) k23) k24) k25) k26) k27) k28) k29) k30) k31) k32
theorem NK:laidOutB Tryz.prog=true:=by kernel_rfl
theorem acn:mapsRowed Tryz.prog=true:=by kernel_rfl
theorem aco:Tryz.prog.stopsHeard=true:=by kernel_rfl
theorem acp:Tryz.prog.mayEnter=true:=by kernel_rfl
theorem acq (c:OpenClaim)(h:c.plainKeys=Rows.matchNoneRow.plainKeys):(c.plainKeys==Tryz.prog.plainKeys)=true:=by
 rw[h];kernel_rfl
theorem acr (c:OpenClaim)(h:c.lifted=Rows.matchNoneRow.lifted):(c.lifted==Tryz.prog.liftsFinal)=true:=by
 rw[h];kernel_rfl
theorem acs (c:OpenClaim)(h:c.make=Rows.matchNoneRow.make):(Tryz.prog.make==some c.make)=true:=by
 rw[h];kernel_rfl
end
end Go.Proofs.YteoldcfapaiobaaGreat
