/- quintainlaw21.Raws, quintainref21.EqRaws: longer lists, and both stay. -/
import Derived.Test.YteoldcfapaiobaaGreatG15HonW
import Derived.Test.YteoldcfapaiobaaGreatG14ArgC
import Derived.Test.YteoldcfapaiobaaGreatG12RefC
import Derived.Test.YteoldcfapaiobaaGreatG13RefG
import Derived.Test.YteoldcfapaiobaaGreatRows
import Derived.KernelRfl
import Derived.JoinedOf
namespace Go.Proofs.YteoldcfapaiobaaGreat
open List (nil_append map_cons length_nil getElem?_range append_nil range_succ map_replicate)
open Go.RowKit
set_option linter.unusedVariables false
set_option linter.unusedSimpArgs false
set_option maxRecDepth 10000
set_option synthInstance.maxSize 4000
set_option synthInstance.maxHeartbeats 400000
section
section
variable {W w:World}{L:List SP}{c c' m i:Nat}{ad av:Option Addr}{ev:List (Nat×Nat×Nat)}{e:ko}{M:jJ}{p:Pr}{s:Pl}{cf:Cf}
theorem adA (I:U W w (Sl 135 1 ad ev.length c (ev.map cB)::L))(hn:ev.length≤1000000000)(ho:∀ e∈ev,tM e):Calls Tryz.prog 55 #[.slice ad ev.length c] w λr w'=>∃ av c',r=.returned (.slice av ev.length c')∧U W w' (Sl 102 3 av ev.length c' (rows bW ev)::L):=by
 refine EN Tryz.func55 Tryz.ntmps55 rfl rfl λa E=>?_;refine RN 7 E I λa E=>?_;replace I:=I.bM 102 3 none;refine aN (λμ a w=>∃ (i:Nat) (m1:Option Addr) (co:Nat),(μ=ev.length-i∧i≤ev.length)∧Fr a 20 [(0,.slice ad ev.length c),(3,.slice m1 i co),(4,.int .i64 i)]∧U W w (Sl 102 3 m1 i co (rows bW (ev.take i))::Sl 135 1 ad ev.length c (ev.map cB)::L)) (ev.length) (⟨0,none,0,⟨rfl,by omega⟩,E.ab [0,3,4],(show U W w (Sl 102 3 none 0 0 (rows bW (ev.take 0))::_) from I).sub⟩) ?_;clear E I;rintro μ a w ⟨i,m1,co,⟨rfl,hi⟩,E,I⟩;refine IF 6 E I (λaj a E=>?_) λaj a E=>?_
 ·
  have aI:i<ev.length:=by omega
  obtain⟨bi,oi,rfl,p3⟩:=(I.pick (Sl 135 1 ad ev.length c (ev.map cB))).bU ad (by omega);have fj:=p3 i (cB ev[i]) (by rw[bl,aD aI];rfl);have Pm:=ho _ (jd aI);generalize zy:ev[i]=x at fj Pm;have mm:Rd w bi (oi+i) [cB x]:=by
   intro k v hk;cases k with
   | zero=>simp at hk;subst hk;exact fj
   | succ k=>simp at hk
  refine RN 5 E I λa E=>?_;refine SS E (bT E Tryz.underlying135 rfl Ty.t135 (mm)) λa E=>?_;refine CL 0 E I (ZM I Pm) λa w E I=>?_;refine RN 0 E I λa E=>?_;refine cp E rfl I Tryz.underlying70 Ty.t102 rfl rfl rfl rfl (by decide) (by decide) λiz a w E I ho=>?_;clear ho;refine RN 0 E I λa E=>?_;refine cQ E rfl I Tryz.underlying70 Ty.t102 rfl rfl I.ai rfl (λv hv=>F4 x v (by simpa using hv)) (by decide) (by decide) (by omega) λG7 G8 a w E I=>?_;rw[show rows bW (ev.take i)++_=rows bW (ev.take (i+1)) from by rw[← List.take_append_getElem aI,kG,zy];rfl]at I;refine RN 4 E I λa E=>?_;exact⟨ev.length-(i+1),by omega,i+1,G7,G8,⟨rfl,by omega⟩,E.ab [0,3,4],I.sub⟩
 refine RT 3 E I ?_;obtain rfl:i=ev.length:=by omega
 rw[k4]at I;exact⟨m1,co,rfl,I.sub⟩
theorem adB (I:U W w (Sl 102 3 ad ev.length c (rows bW ev)::Sl 102 3 av ev.length c' (rows bW ev)::L))(hn:ev.length≤1000000000):Calls Tryz.prog 54 #[.slice ad ev.length c,.slice av ev.length c'] w λr w'=>r=.returned (.bool true)∧U W w' (Sl 102 3 ad ev.length c (rows bW ev)::Sl 102 3 av ev.length c' (rows bW ev)::L):=by
 refine EN Tryz.func54 Tryz.ntmps54 rfl rfl λa E=>?_;refine RN 9 E I λa E=>?_;rw[bo (by omega)]at E;refine RN 4 E I λa E=>?_;refine aN (λμ a w=>∃ (i:Nat),(μ=ev.length-i∧i≤ev.length)∧Fr a 27 [(0,.slice ad ev.length c),(1,.slice av ev.length c'),(5,.int .i64 i)]∧U W w (Sl 102 3 ad ev.length c (rows bW ev)::Sl 102 3 av ev.length c' (rows bW ev)::L)) (ev.length) (⟨0,⟨rfl,by omega⟩,E.ab [0,1,5],I⟩) ?_;clear E I;rintro μ a w ⟨i,⟨rfl,hi⟩,E,I⟩;refine IF 6 E I (λao a E=>?_) λao a E=>?_
 ·
  have aI:i<ev.length:=by omega
  refine RN 2 E I λa E=>?_;obtain⟨mW,oU,rfl,fJ⟩:=I.drew.bU ad (by omega);obtain⟨H7,H8,rfl,qm⟩:=I.drew.tail.bU av (by omega);replace fJ:=jl BQ fJ (aD aI);replace qm:=jl BQ qm (aD aI);generalize ev[i]=x at fJ qm;refine rG 0 (λw'=>Rd w' mW (oU+i*3) (bW x)∧Rd w' H7 (H8+i*3) (bW x)) [7] [0,1,2,4,5,6,3003,1007,1008,9] E I λa E=>?_;replace I:=I.drew;generalize w.drew=w at I fJ qm ⊢;have hC:Rd w mW (oU+i*3) (bW x)∧Rd w H7 (H8+i*3) (bW x):=⟨fJ,qm⟩;have hH:=Hd.any (λw'=>Rd w' mW (oU+i*3) (bW x)∧Rd w' H7 (H8+i*3) (bW x));refine RH 6 E I hH hC λa E=>?_;refine QH E (λw hc=>bT E Tryz.underlying102 rfl Ty.t102 (hc.1)) hC λa E=>?_;refine RH 0 E I hH hC λa E=>?_;refine SS E (bT E Tryz.underlying102 rfl Ty.t102 (hC.2)) λa E=>?_;refine RH 0 E I hH hC λa E=>?_;refine CL 0 E I (abN I) λa w E I=>?_;refine RN 1 E I λa E=>?_;replace E:=E.aP 26;refine RN 4 E I λa E=>?_;exact⟨ev.length-(i+1),by omega,i+1,⟨rfl,by omega⟩,E.ab [0,1,5],I⟩
 refine RT 2 E I ?_;exact⟨rfl,I⟩
theorem adC (I:U W w (fo W M p cf i s::L)) :
   Calls Tryz.prog 56 #[pt M.mb,.agg (bV cf).toArray] w λe w'=>e=.returned (.bool true)∧U W w' (fo W M p cf i s::L):=by
 replace I:=fo.open I;obtain⟨m,⟨rfl,hI,hc⟩,I⟩:=I;exact (acG I hI hc).mono λe w' ⟨h1,h2⟩=>⟨h1,fo.close h2 hI (a7 _) rfl hc⟩
end
end
section
def zV (W:World)(p:Pr)(ad:Option Addr)(c:Nat):Prop:=(rows dR p.ops).length=p.ops.length*4∧p.ops.length≤c∧(0<p.ops.length→∃ b off,ad=some ⟨b,off,none⟩∧b<W.heap.size∧Rd W b off (rows dR p.ops))
def CY (W:World)(m8:List gd)(cf:Cf)(tb:List UInt8):Prop:=∀ r∈m8,r.gs=⟨cf.bf,cf.order,tb⟩∧aX W r.adT tb.length tb
section
variable {W w:World}{L:List SP}{n c cP cT i:Nat}{ad adP adT:Option Addr}{p:Pr}{tb:List UInt8}{cf:Cf}{gn:Bool}
theorem zV.ro (h:zV W p ad c)(I:U W w L):U W w (aA W p ad c::L):=I.V7 h.1 h.2.1 h.2.2
theorem Rd.lt {b off:Nat}{v:Value}{vs:List Value}(h:Rd w b off (v::vs)):b<w.heap.size:=by
 have h1:=h 0 v rfl;rcases gR b w.heap.size with h2 | h2
 ·exact h2
 ·rw[World.cell?]at h1;simp[h2]at h1
theorem U.roW (I:U W w (aA W p ad c::L)):zV w p ad c:=by
 obtain⟨h1,h2⟩:=I.ro ad;refine⟨h1,h2,λh0=>?_⟩;obtain⟨b,off,rfl,hr⟩:=I.rT ad h0;refine⟨b,off,rfl,?_,hr⟩;cases hl:rows dR p.ops with
 | nil=>rw[hl]at h1;simp at h1;omega
 | cons v vs=>rw[hl]at hr;exact hr.lt
theorem Pn (I:U W w L):∀ n:Nat,U W w (ah eY (List.replicate n (none,0,[]))::L)
 | 0=>U.ja I
 | n+1=>U.wj (f:=eY) (x:=(none,0,[])) ((Pn I n).bM 102 3 none)
set_option maxHeartbeats 1000000 in
theorem adD (gf:nM (dC cf 0) p tb)(I:U W w L)(zW:zV W p adP cP)(hn:tb.length=n)(a6:dm p)(aH:p.title.size≤1000000000)(ea:p.ops.length≤1000000000)(eP:tb.length≤1099511627776)(hT:∀ w',U W w' []→aX w' adT tb.length tb) :
   Calls Tryz.prog 30 #[.agg (bV cf).toArray,.agg (bO p adP cP).toArray,.slice adT n cT,.bool gn] w λr w'=>∃ (B:iV) (D:ot),r=.returned (pt D.wb)∧(D.mb=B.mb∧vK B.fx cf tb gn cf.n.toNat∧CY W D.m8 cf tb)∧U W w' (aE W B p 0 (gh p cf cf.n.toNat)::bC W D p (gh p cf cf.n.toNat)::L):=by
 have pY:=gf.1.1.1;unfold fB at pY;obtain⟨N,hN⟩:∃ N:Nat,(dC cf 0).n=N:=⟨(dC cf 0).n.toNat,by omega⟩;replace hN:cf.n=N:=hN;have hN2:2≤N∧N≤8:=by
  have h1:(dC cf 0).n=cf.n:=rfl;omega
 have hTW:aX W adT tb.length tb:=hT W (U.start W);rw[show cf.n.toNat=N from by omega];refine EN Tryz.func30 Tryz.ntmps30 rfl rfl λa E=>?_;refine BX 1 E I λb4 a w E I=>?_;change U W w (aa b4 28 (bV cf)::_) at I;refine BX 0 E I λb5 a w E I=>?_;change U W w (aa b5 45 (bO p adP cP)::_) at I;refine ST 3 E I (λa w E I=>?_);refine RN 0 E I λa E=>?_;change U W w (aa b4 28 (bV (dC cf 0))::_) at I;refine RN 5 E I λa E=>?_;replace I:=zW.ro I;refine bh 0 E I (OY (cf:=dC cf 0) gf I hn aH ea eP (λw' di=>hT _ di.nil)) λB a w E ⟨hB,I⟩=>?_;refine RN 5 E I λa E=>?_;rw[show (dC cf 0).n.toNat=N from by show cf.n.toNat=N;omega]at I hB;replace I:U W w (aE W B p 0 (gh p cf N)::aA W p adP cP::_):=I;replace I:=I.sub (M:=aE W B p 0 (gh p cf N)::aa b4 28 (bV (dC cf 0))::aa b5 45 (bO p adP cP)::L);refine RN 5 E I λa E=>?_;replace E:=E.aP 24;refine RN 3 E I λa E=>?_;replace E:=E.aP 27;refine RN 5 E I λa E=>?_;rw[show (dC cf 0).n=(N:Int) from hN]at E;refine rB E rfl I Tryz.underlying38 Ty.t70 rfl (by omega) (by omega) λum a w E I ho=>?_;clear ho;rw[Ci _ rfl]at I;refine BX 1 E I λjQ a w E I=>?_;refine RN 1 E I λa E=>?_;replace I:=U.ja (f:=dg W p) (I.bM 34 1 none);refine RN 3 E I λa E=>?_;refine aN (λμ a w=>∃ (i:Nat) (adL:Option Addr) (cL:Nat) (rs:List (gd×Pl)) (me:Int),(μ=N-i∧(i≤N∧rs.length=i)∧rs.map (·.2)=(List.range i).map (λi=>eD p (dC cf i))∧CY W (rs.map (·.1)) cf tb)∧Fr a 56 [(2,.slice adT n cT),(4,pt b4),(5,pt b5),(11,pt jQ),(12,.int .i64 i)]∧U W w (aa jQ 40 [pt B.mb,.slice adL i cL,.slice none 0 0,.slice (some ⟨um,0,none⟩) N N]::Sl 34 1 adL i cL (rs.map dD)::ah (dg W p) rs::aa um 70 (List.replicate N (.slice none 0 0))::aa b4 28 (bV { cf with me:=me })::aa b5 45 (bO p adP cP)::aE W B p 0 (gh p cf N)::L)) (N) (⟨0,none,0,[],0,⟨rfl,⟨by omega,rfl⟩,rfl,λr h=>by cases h⟩,E.ab [2,4,5,11,12],(show U W w (ah (dg W p) []::Sl 34 1 none 0 0 (([]:List (gd×Pl)).map dD)::aa jQ 40 _::aa um 70 _::aE W B p 0 (gh p cf N)::aa b4 28 (bV { cf with me:=0 })::_) from I).sub⟩) ?_;clear E I;rintro μ a w ⟨i,adL,cL,rs,me,⟨rfl,⟨hi,gv⟩,e4,kh⟩,E,I⟩;refine RN 5 E I λa E=>?_;rw[hN]at E;refine IF 1 E I (λao a E=>?_) λao a E=>?_
 ·
  have aI:i<N:=by omega
  have HS:=OW (i:=i) gf (by show (i:Int)<(dC cf 0).n;rw[show (dC cf 0).n=(N:Int) from hN];omega);refine ST 4 E I (λa w E I=>?_);refine RN 0 E I λa E=>?_;replace I:U W w (aa b4 28 (bV (dC cf i))::_):=I;refine aV 0 (λw0 w'=>Rd w' jQ 0 [pt B.mb,.slice adL i cL,.slice none 0 0,.slice (some ⟨um,0,none⟩) N N]∧Rd w' b4 0 (bV (dC cf i))∧Rd w' b5 0 (bO p adP cP)) [5,6,8,9] [0,1,2,3,7,3004,3005,1006,1008,1009,1010,11,12,1013] E I λa w E I hH=>?_;have hC:=hH.at w ⟨I.ai (b:=jQ),I.ai (b:=b4),I.ai (b:=b5)⟩;refine RH 5 E I hH hC λa E=>?_;refine QH E (λw hc=>ae E (hc.1 1 _ rfl)) hC λa E=>?_;refine QH E (λw hc=>bT E Tryz.underlying28 rfl Ty.t28 (hc.2.1)) hC λa E=>?_;refine RH 0 E I hH hC λa E=>?_;refine SS E (bT E Tryz.underlying45 rfl Ty.t45 (hC.2.2)) λa E=>?_;replace I:=zW.ro I;refine RH 0 E I hH hC λa E=>?_;refine bh 0 E I (acr (cf:=dC cf i) HS.1 I hn a6 aH) λr a w E ⟨hr,I⟩=>?_;replace hC:=hH.at w ⟨I.ai (b:=jQ),I.ai (b:=b4),I.ai (b:=b5)⟩;refine RH 0 E I hH hC λa E=>?_;refine cp E rfl I Tryz.underlying36 Ty.t34 rfl rfl rfl rfl (by decide) (by decide) λSa a w E I ho=>?_;clear ho;replace hC:=hH.at w ⟨I.ai (b:=jQ),I.ai (b:=b4),I.ai (b:=b5)⟩;refine RH 0 E I hH hC λa E=>?_;refine cQ E rfl I Tryz.underlying36 Ty.t34 rfl rfl I.ai rfl (by simp[Value.oneCell']) (by decide) (by decide) (by omega) λsb sd a w E I=>?_;rw[show List.map dD rs++_=(rs++[((r:gd),eD p (dC cf i))]).map dD from by rw[cW];rfl]at I;refine ST 2 E I (λa w E I=>?_);refine RN 3 E I λa E=>?_;have kP:U W w (dg W p (r,eD p (dC cf i))::_):=(I.pick (ah (dg W p) rs)).pick (bZ W r p (eD p (dC cf i)));have hA:=U.j1 (f:=dg W p) (x:=(r,eD p (dC cf i))) kP;refine⟨N-(i+1),by omega,i+1,sb,sd,rs++[(r,eD p (dC cf i))],i,⟨rfl,⟨by omega,by rw[aJ,gv];rfl⟩,?_,?_⟩,E.ab [2,4,5,11,12],?_⟩
  ·rw[cW,e4,range_succ,cW];rfl
  ·intro x hx;rw[cW]at hx;rcases eT.1 hx with hx | hx
   ·exact kh x hx
   ·rw[iK.1 hx,hr.2];exact⟨hr.1,hTW⟩
  ·rw[show ({ cf with me:=(i:Int) }:Cf)=dC cf i from rfl];exact hA.sub
 obtain rfl:i=N:=by omega
 refine RT 3 E I ?_;have h1:=I.jZ um;rw[show List.replicate i (Value.slice none 0 0)=[]++(List.replicate i ((none,0,[]):kx)).map bx++[] from by rw[nil_append,append_nil,map_replicate];rfl]at h1;have h2:=Pn (U.iZ (n:=i) (c:=i) (sz:=1) h1 (by rw[a8,kJ,fW]) (a7 _) (by simp)) i;simp only[length_nil]at h2;have h3:=cd.nil (e:=60) h2;refine⟨B,⟨jQ,B.mb,rs.map (·.1)⟩,rfl,⟨rfl,hB,kh⟩,?_⟩;have h4:U W w (bC W ⟨jQ,B.mb,rs.map (·.1)⟩ p (gh p cf i)::aE W B p 0 (gh p cf i)::L):=by
  refine bC.close (adP:=adL) (cP:=cL) (adN:=none) (cN:=0) (adE:=some ⟨um,0,none⟩) (cE:=i) (xs:=rs) (es:=List.replicate i (none,0,[])) ?_ rfl e4 (by rw[map_replicate];rfl);rw[gv,kJ];exact h3.sub (M:=aa jQ 40 [pt B.mb,.slice adL i cL,.slice none 0 0,.slice (some ⟨um,0,none⟩) i i]::Sl 34 1 adL i cL (rs.map dD)::ah (dg W p) rs::cd 60 none 0 0 []::Sl 70 1 (some ⟨um,0,none⟩) i i ((List.replicate i ((none,0,[]):kx)).map bx)::ah eY (List.replicate i (none,0,[]))::aE W B p 0 (gh p cf i)::L)
 exact h4.sub
end
end
section
abbrev ov:=(gd×Pl)×(m6×List ee)
def ky (W:World)(p:Pr)(y:ov):SP:=λh=>bj y.2.2=y.1.2.k.ls∧cm [aa y.1.1.pb 51 (eX p y.1.1 y.1.2.g),aa y.1.1.core.cb 72 (cX y.1.2.k y.1.1.core y.2.1),Sl 65 1 (some ⟨y.1.1.core.lb,y.1.1.core.lo,none⟩) y.1.2.k.ls.length y.1.1.core.cL (y.2.2.map aM),ah ba y.2.2,
 aa y.1.1.core.hb 3 (fb y.1.2.k.ps),aa y.1.1.core.dZ 3 (eW y.1.2.k.ps),aa y.1.1.core.wb 313 (rows fe y.1.2.k.ps),aa y.1.1.core.xb 4 (fc y.1.2.k.ps),Sl 100 1 y.2.1.cj y.1.2.k.mr.length y.2.1.cM (c4 y.1.2.k.mr),Sl 102 3 y.2.1.adE y.1.2.k.ev.length y.2.1.cE (rows bW y.1.2.k.ev),aA W p y.1.1.aq y.1.1.cO] h
structure xR (w:World)(p:Pr)(y:ov):Prop where
 pb:Rd w y.1.1.pb 0 (eX p y.1.1 y.1.2.g)
 cb:Rd w y.1.1.core.cb 0 (cX y.1.2.k y.1.1.core y.2.1)
 ls:iM w (some ⟨y.1.1.core.lb,y.1.1.core.lo,none⟩) y.2.2
 eq:bj y.2.2=y.1.2.k.ls
 mr:0<y.1.2.k.mr.length→∃ b o,y.2.1.cj=some ⟨b,o,none⟩∧Rd w b o (c4 y.1.2.k.mr)
section
variable {W w:World}{L:List SP}{n i:Nat}{p:Pr}{xs:List (gd×Pl)}{ys:List ov}{y:ov}{k:Ks}{C:oj}{A:m6}{xl:List ee}
theorem adF {x:gd×Pl}(I:U W w (dg W p x::L)):∃ z,U W w (ky W p (x,z)::L):=by
 replace I:U W w (bZ W x.1 p x.2::L):=I;obtain⟨A,I⟩:=a1.open ((bZ.open I).pick (a1 x.1.core x.2.k));obtain⟨xl,b9,I⟩:=bL.open (I.pick (bL x.1.core.lb x.1.core.lo x.1.core.cL x.2.k.ls));refine⟨(A,xl),U.shut (M:=[_,_,_,_,_,_,_,_,_,_,_]) (I.sub (M:=aa x.1.pb 51 (eX p x.1 x.2.g)::aa x.1.core.cb 72 (cX x.2.k x.1.core A)::Sl 65 1 (some ⟨x.1.core.lb,x.1.core.lo,none⟩) x.2.k.ls.length x.1.core.cL (xl.map aM)::ah ba xl::aa x.1.core.hb 3 (fb x.2.k.ps)::aa x.1.core.dZ 3 (eW x.2.k.ps)::aa x.1.core.wb 313 (rows fe x.2.k.ps)::aa x.1.core.xb 4 (fc x.2.k.ps)::Sl 100 1 A.cj x.2.k.mr.length A.cM (c4 x.2.k.mr)::Sl 102 3 A.adE x.2.k.ev.length A.cE (rows bW x.2.k.ev)::aA W p x.1.aq x.1.cO::L)) λ_ h=>⟨b9,h⟩⟩
theorem ky.open (I:U W w (ky W p y::L)):bj y.2.2=y.1.2.k.ls∧U W w (aa y.1.1.pb 51 (eX p y.1.1 y.1.2.g)::aa y.1.1.core.cb 72 (cX y.1.2.k y.1.1.core y.2.1)::Sl 65 1 (some ⟨y.1.1.core.lb,y.1.1.core.lo,none⟩) y.1.2.k.ls.length y.1.1.core.cL (y.2.2.map aM)::ah ba y.2.2 ::
 aa y.1.1.core.hb 3 (fb y.1.2.k.ps)::aa y.1.1.core.dZ 3 (eW y.1.2.k.ps)::aa y.1.1.core.wb 313 (rows fe y.1.2.k.ps)::aa y.1.1.core.xb 4 (fc y.1.2.k.ps)::Sl 100 1 y.2.1.cj y.1.2.k.mr.length y.2.1.cM (c4 y.1.2.k.mr)::Sl 102 3 y.2.1.adE y.1.2.k.ev.length y.2.1.cE (rows bW y.1.2.k.ev)::aA W p y.1.1.aq y.1.1.cO::L) :=
 ⟨I.tell λ_ h=>h.1,I.open (M:=[_,_,_,_,_,_,_,_,_,_,_]) λ_ h=>h.2⟩
theorem adG (I:U W w (ky W p y::L)):U W w (dg W p y.1::L):=by
 obtain⟨b9,I⟩:=ky.open I;replace I:=bL.close ((I.pick (ah ba y.2.2)).pick (Sl 65 1 (some ⟨y.1.1.core.lb,y.1.1.core.lo,none⟩) y.1.2.k.ls.length y.1.1.core.cL (y.2.2.map aM))) b9;replace I:=a1.fold I y.1.1.core y.1.2.k y.2.1;exact bZ.fold I y.1.1 p y.1.2
theorem CZ:∀ {xs:List (gd×Pl)} {L:List SP},U W w (ah (dg W p) xs::L)→∃ ys:List ov,ys.map (·.1)=xs∧U W w (ah (ky W p) ys::L)
 | [],_,I=>⟨[],rfl,U.ja I.tail⟩
 | x::xs,L,I=>by
  have h1:U W w (dg W p x::ah (dg W p) xs::L):=U.fy (l:=x::xs) (i:=0) I (by simp);obtain⟨z,h2⟩:=adF h1;obtain⟨ys,h3,h4⟩:=CZ (h2.pick (ah (dg W p) xs));exact⟨(x,z)::ys,by rw[map_cons,h3],U.wj (h4.pick (ky W p (x,z)))⟩
theorem C0:∀ {ys:List ov} {L:List SP},U W w (ah (ky W p) ys::L)→U W w (ah (dg W p) (ys.map (·.1))::L)
 | [],_,I=>U.ja I.tail
 | y::ys,L,I=>by
  have h1:U W w (ky W p y::ah (ky W p) ys::L):=U.fy (l:=y::ys) (i:=0) I (by simp);have h2:=C0 ((adG h1).pick (ah (ky W p) ys));exact U.wj (h2.pick (dg W p y.1))
theorem C1 (I:U W w (ah (ky W p) ys::L))(hy:ys[i]?=some y):xR w p y:=by
 obtain⟨hi,h1⟩:=aY.1 hy;replace I:=I.fy hi;rw[h1]at I;obtain⟨h2,I⟩:=ky.open I;refine⟨I.ai (b:=y.1.1.pb),I.ai (b:=y.1.1.core.cb),?_,h2,λh0=>?_⟩
 ·exact U.pj ((I.pick (ah ba y.2.2)).pick (Sl 65 1 (some ⟨y.1.1.core.lb,y.1.1.core.lo,none⟩) y.1.2.k.ls.length y.1.1.core.cL (y.2.2.map aM)))
 ·exact (I.pick (Sl 100 1 y.2.1.cj y.1.2.k.mr.length y.2.1.cM (c4 y.1.2.k.mr))).bU y.2.1.cj h0
theorem Po (I:U W w L)(hk:WC k)(b9:bj xl=k.ls)(hp:∀ w',U W w' L→Rd w' C.cb 0 (cX k C A)∧iM w' (some ⟨C.lb,C.lo,none⟩) xl) :
   Calls Tryz.prog 19 #[pt C.cb] w λr w'=>r=.returned (.int .i64 (aw k))∧U W w' L:=by
 have hn:=hk.n;have fa:=hk.ls;have ha:k.ls.length=xl.length:=by rw[← b9,gb]
 refine EN Tryz.func19 Tryz.ntmps19 rfl rfl λa E=>?_;refine RN 6 E I λa E=>?_;refine SS E (ae E ((hp _ I).1 10 _ rfl)) λa E=>?_;rw[ha]at E;refine CL 0 E I (B9 (xs:=xl) I (by omega) (by omega) (λw' hw=>(hp w' hw).2)) λa w E I=>?_;rw[b9]at E;refine RT 1 E I ?_;exact⟨rfl,I⟩
end
end
section
section
variable {W w:World}{L:List SP}{c i:Nat}{p:Pr}{v:Wd}{B:iV}{D:ot}{t:fN}{cf:Cf}{tb:List UInt8}{gn:Bool}
instance fP.isNil (z:fP):ur z.mul (!z.zR):=⟨by
 cases z with
 | mu M=>exact .inr ⟨⟨_,rfl⟩,rfl⟩
 | pl B=>exact .inl ⟨rfl,rfl⟩⟩
theorem fP.adH {z:fP}(h:z.zR=true):∃ M,z=.mu M:=by
 cases z with
 | mu M=>exact⟨M,rfl⟩
 | pl B=>cases h
theorem adI {adL adE iH:Option Addr}{cL cE iI:Nat}{xs:List (fF×Pl)}{es:List kx}{l:List ko}(I:U W w (aa B.mb 107 [.slice adL xs.length cL,pt B.q,.slice adE es.length cE]::Sl 81 1 adL xs.length cL (xs.map cC)::Sl 90 1 adE es.length cE (es.map bx)::ah ew es::L))(hi:i<xs.length)(lA:es[i]?=some (iH,iI,l))(hl:l.length≤1000000000) :
   Calls Tryz.prog 34 #[pt B.mb,.int .i64 i] w λe w'=>∃ ad c',e=.returned (.slice ad l.length c')∧U W w' (Sl 135 1 ad l.length c' (l.map cB)::aa B.mb 107 [.slice adL xs.length cL,pt B.q,.slice adE es.length cE]::Sl 81 1 adL xs.length cL (xs.map cC)::Sl 90 1 adE es.length cE (es.map bx)::ah ew es::L):=by
 obtain⟨xN,pw⟩:=aY.1 lA;refine EN Tryz.func34 Tryz.ntmps34 rfl rfl λa E=>?_;refine CL 6 E I (sF I hi) λa w E I=>?_;refine RN 1 E I λa E=>?_;replace E:=E.aP 8;refine RN 2 E I λa E=>?_;obtain⟨iW,oE,rfl,gv⟩:=(I.pick (Sl 90 1 adE es.length cE (es.map bx))).bU adE (by omega);have mm:=gv i (.slice iH l.length iI) (by rw[bl,lA];rfl);refine RN 6 E I λa E=>?_;refine SS E (ae E (mm)) λa E=>?_;replace I:=(I.pick (ah ew es)).fy xN;rw[pw]at I;change U W w (Sl 135 1 iH l.length iI (l.map cB)::_) at I;refine aZ 0 E I (OA I hl) λad2 c2 a w E I=>?_;refine RT 1 E I ?_;refine⟨ad2,c2,rfl,?_⟩;have h4:=(I.pick (ah ew (es.eraseIdx i))).pick (Sl 135 1 iH l.length iI (l.map cB));have h5:U W w (ah ew es::_):=U.xG (f:=ew) xN (by rw[pw];exact h4);exact h5.sub
theorem H9 {xs:List (fF×Pl)}{x:fF}{s:Pl}(I:U W w (x.J W p c s::ah (cA W p c) (xs.eraseIdx i)::L))(hx:xs[i]?=some (x,s)):U W w (ah (cA W p c) xs::L):=by
 obtain⟨hi,h1⟩:=aY.1 hx;refine U.xG hi ?_;rw[h1];exact I
set_option maxHeartbeats 2000000 in
theorem adJ (I:U W w (aE W B p c v::bC W D p v::L))(xO:D.mb=B.mb)(hB:B.Ok p c)(hv:bK p cf c v)(hP:vK B.fx cf tb gn v.ps.length)(ql:CY W D.m8 cf tb)(fE:cY ⟨cf.bf,cf.order,tb⟩)(ke:9*c+100≤1000000000) :
   Calls Tryz.prog 33 #[pt D.wb] w λe w'=>e=.returned (.bool true)∧U W w' (aE W B p c v::bC W D p v::L):=by
 replace I:=aE.ug I;obtain⟨adL,cL,adE,cE,xs,es,⟨dX,c6,ek⟩,I⟩:=I;replace I:=bC.open (I.pick (bC W D p v));obtain⟨adP,cP,adN,cN,gD,gp,rs,fs,⟨g5,jh,mA⟩,I⟩:=I;rw[xO]at I;obtain⟨ys,mB,jm,I⟩:=cd.open (I.pick (cd 60 adN v.net.length cN v.net));have b9:xs.length=v.ps.length:=by rw[← c6,a8]
 have gv:rs.length=v.ps.length:=by rw[← jh,a8]
 have lB:ys.length=v.net.length:=by rw[← mB,a8]
 have n1:=hv.net.1;have adi:es.length=v.ps.length:=by rw[← hv.ev,← ek,a8]
 have agl:fs.length=v.ps.length:=by rw[← hv.ev,← mA,a8]
 have OI:=hv.ev;have xB:=hv.len;replace I:U W w (aa B.mb 107 [.slice adL xs.length cL,pt B.q,.slice adE es.length cE]::Sl 81 1 adL xs.length cL (xs.map cC)::ah (cA W p c) xs::bG B.q (v.net.map cI)::Sl 90 1 adE es.length cE (es.map bx)::ah ew es::aa D.wb 40 [pt B.mb,.slice adP rs.length cP,.slice adN v.net.length cN,.slice gD fs.length gp]::Sl 34 1 adP rs.length cP (rs.map dD)::ah (dg W p) rs::Sl 60 3 adN v.net.length cN (rows b7 ys)::ah ca ys::Sl 70 1 gD fs.length gp (fs.map bx)::ah eY fs::L):=I.sub;refine EN Tryz.func33 Tryz.ntmps33 rfl rfl λa E=>?_;refine aV 4 (λw0 w'=>Rd w' D.wb 0 [pt B.mb,.slice adP rs.length cP,.slice adN v.net.length cN,.slice gD fs.length gp]) [4,5,9,10] [0,1,2,6,7,8,3003,3009,3010,1004,1005,11] E I λa w E I hH=>?_;have hC:=hH.at w (I.ai (b:=D.wb));refine RH 6 E I hH hC λa E=>?_;refine QH E (λw hc=>ae E (hc 0 _ rfl)) hC λa E=>?_;refine QH E (λw hc=>ae E (hc 2 _ rfl)) hC λa E=>?_;refine RH 1 E I hH hC λa E=>?_;refine CL 0 E I (zI (I.pick (aa B.mb 107 [.slice adL xs.length cL,pt B.q,.slice adE es.length cE]))) λa w E I=>?_;replace hC:=hH.at w (I.ai (b:=D.wb));refine RH 0 E I hH hC λa E=>?_;refine CL 0 E I (HA (I.pick (bG B.q (v.net.map cI)))) λa w E I=>?_;replace hC:=hH.at w (I.ai (b:=D.wb));rw[a8]at E;refine RH 1 E I hH hC λa E=>?_;rw[bo (by simp)]at E;refine RN 4 E I λa E=>?_;refine aN (λμ a w=>∃ (i:Nat),(μ=v.net.length-i∧i≤v.net.length)∧Fr a 150 [(0,pt D.wb),(3,.int .i64 i)]∧U W w (aa B.mb 107 [.slice adL xs.length cL,pt B.q,.slice adE es.length cE]::Sl 81 1 adL xs.length cL (xs.map cC)::ah (cA W p c) xs::bG B.q (v.net.map cI)::Sl 90 1 adE es.length cE (es.map bx)::ah ew es::aa D.wb 40 [pt B.mb,.slice adP rs.length cP,.slice adN v.net.length cN,.slice gD fs.length gp]::Sl 34 1 adP rs.length cP (rs.map dD)::ah (dg W p) rs::Sl 60 3 adN v.net.length cN (rows b7 ys)::ah ca ys::Sl 70 1 gD fs.length gp (fs.map bx)::ah eY fs::L)) (v.net.length) (⟨0,⟨rfl,by omega⟩,E.ab [0,3],I.sub⟩) ?_;clear E I;rintro μ a w ⟨i,⟨rfl,hi⟩,E,I⟩;refine IF 9 E I (λao a E=>?_) λao a E=>?_
 ·
  have aI:i<v.net.length:=by omega
  obtain⟨y,hy,Ia⟩:∃ y,ys[i]?=some y∧v.net[i]?=some y.2.2:=by
   refine⟨_,aD (by omega),?_⟩;rw[← mB,bl,aD (by omega)];rfl
  obtain⟨bB,on,rfl,_⟩:=(I.pick (Sl 60 3 adN v.net.length cN (rows b7 ys))).bU adN (by omega);refine CL 6 E I (zI (I.pick (aa B.mb 107 [.slice adL xs.length cL,pt B.q,.slice adE es.length cE]))) λa w E I=>?_;refine aZ 1 E I (HH (I.pick (bG B.q (v.net.map cI))) Ia) λam jL a w E I=>?_;refine AL 3 E I λb4 a w E I=>?_;refine SA 0 E I λa w E I=>?_;refine aV 2 (λw0 w'=>(Rd w' b4 0 [.int .i64 y.2.2.1,.int .i64 y.2.2.2.1,.slice am y.2.2.2.2.length jL]∧Rd w' D.wb 0 [pt B.mb,.slice adP rs.length cP,.slice (some ⟨bB,on,none⟩) v.net.length cN,.slice gD fs.length gp])∧Rd w' bB (on+i*3) (b7 y)∧aX w' am y.2.2.2.2.length y.2.2.2.2∧aX w' y.1 y.2.2.2.2.length y.2.2.2.2) [8,10,11,12,21,23,24,25,35,37,38,39,40] [0,1,2,3,5,6,7,9,3004,1008,1010,1011,1012,13,14,15,16,18,19,20,22,3017,1021,1023,1024,1025,26,27,28,29,32,33,34,36,3030,3031,1035,1037,1038,1039,1040,41,42] E I λa w E I hH=>?_;have hC:=hH.at w ⟨⟨I.ai (b:=b4),I.ai (b:=D.wb)⟩,jl oc (I.cK bB on (by omega)) hy,I.cu am _ rfl rfl,HW (I.pick (ah ca ys)) hy⟩;refine RH 3 E I hH hC λa E=>?_;replace E:=E.aP 41;refine RH 5 E I hH hC λa E=>?_;refine QH E (λw hc=>ae E (hc.1.1 0 _ rfl)) hC λa E=>?_;refine RH 0 E I hH hC λa E=>?_;refine bw E (cw E rfl (s:=41)) (ae E (hC.1.2 2 _ rfl)) rfl λa E=>?_;refine RH 2 E I hH hC λa E=>?_;refine bw E (cw E rfl (s:=41)) (ae E (hC.2.1 0 _ rfl)) rfl λa E=>?_;refine RH 3 E I hH hC λa E=>?_;rw[bo (by omega)]at E;refine RH 5 E I hH hC λa E=>?_;refine QH E (λw hc=>ae E (hc.1.1 1 _ rfl)) hC λa E=>?_;refine RH 0 E I hH hC λa E=>?_;refine bw E (cw E rfl (s:=54)) (ae E (hC.1.2 2 _ rfl)) rfl λa E=>?_;refine RH 2 E I hH hC λa E=>?_;refine bw E (cw E rfl (s:=54)) (ae E (hC.2.1 1 _ rfl)) rfl λa E=>?_;refine RH 3 E I hH hC λa E=>?_;rw[bo (by omega)]at E;refine RH 5 E I hH hC λa E=>?_;refine QH E (λw hc=>ae E (hc.1.1 2 _ rfl)) hC λa E=>?_;refine QH E (λw hc=>lL E Tryz.underlying22 Tryz.underlying5 Tryz.underlying9 (hc.2.2.1)) hC λa E=>?_;refine RH 0 E I hH hC λa E=>?_;refine bw E (cw E rfl (s:=67)) (ae E (hC.1.2 2 _ rfl)) rfl λa E=>?_;refine RH 2 E I hH hC λa E=>?_;refine bw E (cw E rfl (s:=67)) (ae E (hC.2.1 2 _ rfl)) rfl λa E=>?_;refine RH 0 E I hH hC λa E=>?_;refine bw E (cw E rfl (s:=67)) (lL E Tryz.underlying22 Tryz.underlying5 Tryz.underlying9 (hC.2.2.2)) rfl λa E=>?_;refine RH 0 E I hH hC λa E=>?_;refine QP E (λw=>KW E) λa E=>?_;rw[qI,beq_self_eq_true,Bool.not_true]at E;refine RH 1 E I hH hC λa E=>?_;replace E:=E.aP 81;refine RN 4 E I λa E=>?_;exact⟨v.net.length-(i+1),by omega,i+1,⟨rfl,by omega⟩,E.ab [0,3],I.sub⟩
 refine RN 3 E I λa E=>?_;refine aN (λμ a w=>∃ (i:Nat),(μ=v.ps.length-i∧i≤v.ps.length)∧Fr a 150 [(0,pt D.wb),(6,.int .i64 i)]∧U W w (aa B.mb 107 [.slice adL xs.length cL,pt B.q,.slice adE es.length cE]::Sl 81 1 adL xs.length cL (xs.map cC)::ah (cA W p c) xs::bG B.q (v.net.map cI)::Sl 90 1 adE es.length cE (es.map bx)::ah ew es::aa D.wb 40 [pt B.mb,.slice adP rs.length cP,.slice adN v.net.length cN,.slice gD fs.length gp]::Sl 34 1 adP rs.length cP (rs.map dD)::ah (dg W p) rs::Sl 60 3 adN v.net.length cN (rows b7 ys)::ah ca ys::Sl 70 1 gD fs.length gp (fs.map bx)::ah eY fs::L)) (v.ps.length) (⟨0,⟨rfl,by omega⟩,E.ab [0,6],I.sub⟩) ?_;clear E I;rintro μ a w ⟨i,⟨rfl,hi⟩,E,I⟩;refine IF 9 E I (λbk a E=>?_) λbk a E=>?_
 ·
  have aI:i<v.ps.length:=by omega
  obtain⟨x,hx,pv⟩:∃ x,xs[i]?=some (x,an v i)∧B.fx[i]?=some x:=HJ dX c6 (by omega);obtain⟨_,g4⟩:=aY.1 hx;obtain⟨r,hr⟩:∃ r,rs[i]?=some (r,an v i):=CO jh (by omega);have ui:(rs.map dD)[i]?=some (pt r.pb):=by rw[bl,hr];rfl
  have l5:r∈D.m8:=by rw[← g5];exact cR.2 ⟨_,bF hr,rfl⟩
  obtain⟨Ib,E0⟩:=ql r l5;have hxG:=hP.2 x (bF pv);have hM:=x.q5 (W:=W) (p:=p) hB.pr hB.sz (hB.gs x (bF pv));obtain⟨hw,df,xI⟩:=hv.pl i aI;have jS:=hB.c;obtain⟨iH,iI,l,lA⟩:∃ iH iI l,es[i]?=some (iH,iI,l):=⟨_,_,_,aD (by omega)⟩;obtain⟨xN,pw⟩:=aY.1 lA;have q4:v.ev.getD i []=l:=by rw[← ek,bm,bl,lA];rfl
  obtain⟨zX,zY,o5⟩:∃ zX zY,fs[i]?=some (zX,zY,l):=by
   have h1:(fs.map (·.2.2))[i]?=some l:=by rw[mA,← q4,bm,aD (by omega)];rfl
   rw[bl,aD (by omega)]at h1;refine⟨fs[i].1,fs[i].2.1,?_⟩;rw[aD (by omega),← p4 h1]
  obtain⟨xq,Pp⟩:=aY.1 o5;obtain⟨ha,hlo⟩:=hv.kT l (by rw[← q4];exact Cv (by omega));have ig:l.length≤1000000000:=by omega
  obtain⟨bp,op,rfl,_⟩:=(I.pick (Sl 34 1 adP rs.length cP (rs.map dD))).bU adP (by omega);obtain⟨js,oF,rfl,_⟩:=(I.pick (Sl 70 1 gD fs.length gp (fs.map bx))).bU gD (by omega);refine aV 3 (λw0 w'=>(Rd w' D.wb 0 [pt B.mb,.slice (some ⟨bp,op,none⟩) rs.length cP,.slice adN v.net.length cN,.slice (some ⟨js,oF,none⟩) fs.length gp]∧Rd w' bp op (rs.map dD))∧Rd w' js oF (fs.map bx)) [5,9,11,12,21,22,26,28,29] [0,1,2,4,6,7,8,10,3003,3009,3011,3012,1005,1013,14,15,16,17,18,20,23,24,25,27,3019,3026,3028,3029,1021,1022,1030,31,32] E I λa w E I hH=>?_;have hC:=hH.at w ⟨⟨I.ai (b:=D.wb),I.cK bp op (by omega)⟩,I.cK js oF (by omega)⟩;refine RH 8 E I hH hC λa E=>?_;refine QH E (λw hc=>ae E (hc.1.1 0 _ rfl)) hC λa E=>?_;refine QH E (λw hc=>ae E (hc.1.1 1 _ rfl)) hC λa E=>?_;refine RH 1 E I hH hC λa E=>?_;refine QH E (λw hc=>ae E (hc.1.2 i _ ui)) hC λa E=>?_;refine RH 0 E I hH hC λa E=>?_;refine CL 0 E I (sF ((I.pick (Sl 81 1 adL xs.length cL (xs.map cC))).pick (aa B.mb 107 [.slice adL xs.length cL,pt B.q,.slice adE es.length cE])) (by omega)) λa w E I=>?_;replace hC:=hH.at w ⟨⟨I.ai (b:=D.wb),I.cK bp op (by omega)⟩,I.cK js oF (by omega)⟩;rw[show cC xs[i]=.iface x.z.t (.pointer (some x.z.ad)) from by rw[g4]]at E;replace I:=CP (I.pick (ah (dg W p) rs)) hr;replace I:=CD (I.pick (ah (cA W p c) xs)) hx;refine RH 0 E I hH hC λa E=>?_;refine CL 0 E I (abT hM (by omega) ((I.pick (bZ W r p (an v i))).pick (x.J W p c (an v i))) hw hB.pr hB.sz (by rw[Ib];exact fE) (by rw[Ib,hxG.1]) (by rw[Ib];exact E0)) λa w E I=>?_;replace hC:=hH.at w ⟨⟨I.ai (b:=D.wb),I.cK bp op (by omega)⟩,I.cK js oF (by omega)⟩;replace I:=H9 ((I.pick (ah (cA W p c) (xs.eraseIdx i))).pick (x.J W p c (an v i))) hx;replace I:=CQ ((I.pick (ah (dg W p) (rs.eraseIdx i))).pick (bZ W r p (an v i))) hr;refine RH 2 E I hH hC λa E=>?_;replace E:=E.aP 106;refine RH 8 E I hH hC λa E=>?_;refine QH E (λw hc=>ae E (hc.1.1 0 _ rfl)) hC λa E=>?_;refine QH E (λw hc=>ae E (hc.1.1 3 _ rfl)) hC λa E=>?_;refine RH 1 E I hH hC λa E=>?_;refine QH E (λw hc=>ae E (hc.2 i (.slice zX l.length zY) (by rw[bl,o5];rfl))) hC λa E=>?_;replace I:=I.sub (M:=aa B.mb 107 [.slice adL xs.length cL,pt B.q,.slice adE es.length cE]::Sl 81 1 adL xs.length cL (xs.map cC)::Sl 90 1 adE es.length cE (es.map bx)::ah ew es::ah (dg W p) rs::ah (cA W p c) xs::bG B.q (v.net.map cI)::aa D.wb 40 [pt B.mb,.slice (some ⟨bp,op,none⟩) rs.length cP,.slice adN v.net.length cN,.slice (some ⟨js,oF,none⟩) fs.length gp]::Sl 34 1 (some ⟨bp,op,none⟩) rs.length cP (rs.map dD)::Sl 60 3 adN v.net.length cN (rows b7 ys)::ah ca ys::Sl 70 1 (some ⟨js,oF,none⟩) fs.length gp (fs.map bx)::ah eY fs::L);refine RH 0 E I hH hC λa E=>?_;refine aZ 0 E I (adI I (by omega) lA ig) λlX et a w E I=>?_;replace hC:=hH.at w ⟨⟨I.ai (b:=D.wb),I.cK bp op (by omega)⟩,I.cK js oF (by omega)⟩;refine RH 0 E I hH hC λa E=>?_;refine aZ 0 E I (adA I ig hlo) λad2 c2 a w E I=>?_;replace hC:=hH.at w ⟨⟨I.ai (b:=D.wb),I.cK bp op (by omega)⟩,I.cK js oF (by omega)⟩;replace I:=(I.pick (ah eY fs)).fy xq;rw[Pp]at I;change U W w (Sl 102 3 zX l.length zY (rows bW l)::_) at I;refine RH 0 E I hH hC λa E=>?_;refine CL 0 E I (adB (I.pick (Sl 102 3 ad2 l.length c2 (rows bW l))) ig) λa w E I=>?_;have vE:U W w (ah eY fs::_):=U.xG (f:=eY) xq (by rw[Pp];exact ((I.pick (ah eY (fs.eraseIdx i))).pick (Sl 102 3 zX l.length zY (rows bW l))));replace I:=vE;clear vE;refine RN 2 E I λa E=>?_;replace E:=E.aP 123;refine CL 7 E I (HF ((I.pick (Sl 81 1 adL xs.length cL (xs.map cC))).pick (aa B.mb 107 [.slice adL xs.length cL,pt B.q,.slice adE es.length cE])) (by omega)) λa w E I=>?_;rw[show xs[i].1.z.mul=x.z.mul from by rw[g4]]at E;refine BY 5 E I (λbA a E=>?_) λbA a E=>?_
  ·
   obtain⟨M,Pq⟩:∃ M,x.z=.mu M:=fP.adH (by simpa using bA);have Ps:x.J W p c (an v i)=fo W M p x.cf c (an v i):=by unfold fF.J;rw[Pq]
   have adK:fk (an v i).k=x.cf:=by
    have h1:(B.fx.map (·.cf))[i]?=some x.cf:=by rw[bl,pv];rfl
    rw[hP.1,bl,getElem?_range aI]at h1;rw[df];exact p4 h1
   replace I:=CD (I.pick (ah (cA W p c) xs)) hx;rw[Ps]at I;obtain⟨zs,tU,I⟩:=CZ (I.pick (ah (dg W p) rs));obtain⟨z,hz,xS⟩:∃ z,zs[i]?=some z∧z.1=(r,an v i):=by
    rw[← tU,bl]at hr;cases h1:zs[i]? with
    | none=>rw[h1]at hr;cases hr
    | some z=>rw[h1]at hr;exact⟨z,rfl,p4 hr⟩
   rw[show x.z.mul=pt M.mb from by rw[Pq];rfl]at E;refine RN 7 E I λa E=>?_;refine bw E (cw E rfl (s:=132)) (ae E ((I.cK bp op (by omega)) i _ ui)) rfl λa E=>?_;refine RN 2 E I λa E=>?_;refine bw E (cw E rfl (s:=132)) (ae E (by have h9:=(C1 (I.pick (ah (ky W p) zs)) hz).pb 0 _ rfl;rw[xS]at h9;exact h9)) rfl λa E=>?_;refine RN 2 E I λa E=>?_;refine bw E (cw E rfl (s:=132)) (bT E Tryz.underlying28 rfl Ty.t28 (by have h9:=((C1 (I.pick (ah (ky W p) zs)) hz).cb).part 0 10;rw[xS]at h9;exact h9)) rfl λa E=>?_;rw[show List.take 10 (List.drop 0 (cX (r,an v i).2.k (r,an v i).1.core z.2.1))=bV x.cf from by rw[← adK];rfl]at E;refine CL 0 E I (adC (I.pick (fo W M p x.cf c (an v i)))) λa w E I=>?_;rw[← Ps]at I;have vE:=C0 (I.pick (ah (ky W p) zs));rw[tU]at vE;replace I:=H9 ((vE.pick (ah (cA W p c) (xs.eraseIdx i))).pick (x.J W p c (an v i))) hx;refine RN 2 E I λa E=>?_;replace E:=E.aP 149;refine RN 4 E I λa E=>?_;exact⟨v.ps.length-(i+1),by omega,i+1,⟨rfl,by omega⟩,E.ab [0,6],I.sub⟩
  refine RN 21 E I λa E=>?_;exact⟨v.ps.length-(i+1),by omega,i+1,⟨rfl,by omega⟩,E.ab [0,6],I.sub⟩
 refine RT 2 E I ?_;have h8:=cd.close (n:=v.net.length) (c:=cN) ((I.pick (ah ca ys)).pick (Sl 60 3 adN v.net.length cN (rows b7 ys))) mB rfl;rw[← xO]at h8;have h9:U W w (bC W D p v::_):=bC.close (h8.sub (M:=aa D.wb 40 [pt D.mb,.slice adP rs.length cP,.slice adN v.net.length cN,.slice gD fs.length gp]::Sl 34 1 adP rs.length cP (rs.map dD)::ah (dg W p) rs::cd 60 adN v.net.length cN v.net::Sl 70 1 gD fs.length gp (fs.map bx)::ah eY fs::aa D.mb 107 [.slice adL xs.length cL,pt B.q,.slice adE es.length cE]::Sl 81 1 adL xs.length cL (xs.map cC)::ah (cA W p c) xs::bG B.q (v.net.map cI)::Sl 90 1 adE es.length cE (es.map bx)::ah ew es::L)) g5 jh mA;rw[xO]at h9;refine⟨rfl,aE.sG (adL:=adL) (cL:=cL) (adE:=adE) (cE:=cE) (xs:=xs) (es:=es) ?_ dX c6 ek⟩;exact h9.sub
end
end
section
section
variable {W w:World}{L:List SP}{c i:Nat}{p:Pr}{v:Wd}{B:iV}{t:fN}{cf:Cf}
def m9:Cf:=⟨2,0,0,0,4,1,0,2,1,5⟩
theorem zZ (I:U W w (aE W B p c v::L))(hB:B.Ok p (c+10))(hv:bK p cf c v)(ke:9*c+100≤1000000000)(hf:t.fn≠7) :
   Calls Tryz.prog 29 #[pt B.mb,.agg (dW t).toArray] w λe w'=>e=.returned (.int .i64 (bu p t v).1)∧U W w' (aE W B p (c+10) (bS p t v)::L) :=
 (OH I hB hv ke).mono λe w' ⟨z,h1,h2,_,I⟩=>⟨by rw[h1,h2 hf],by rw[bS,ag hf];exact I⟩
theorem Pt (hf:t.fn<1∨8<t.fn):bu p t v=(1,v):=by rw[bu,ak hf]
set_option maxHeartbeats 2000000 in
theorem adM (I:U W w L):Calls Tryz.prog 26 #[] w λe w'=>e=.returned (.bool true)∧U W w' L:=by
 have uc:eV m9:=by decide
 have gf:nM (dC m9 0) bP []:=⟨uc,ri,by decide⟩;refine EN Tryz.func26 Tryz.ntmps26 rfl rfl λa E=>?_;refine bh 4 E I (NY I) λadP a w E I=>?_;refine bh 0 E I (OY (cf:=m9) (tb:=[]) (adT:=none) (cT:=0) gf I rfl (by decide) (by decide) (by decide) (λw' h=>aX.nil)) λB a w E ⟨hP,I⟩=>?_;refine RN 5 E I λa E=>?_;have fE:∀ x∈B.fx,cY x.z.gs:=λx hx=>by rw[(hP.2 x hx).1];decide
 have L0:Lv bP m9 (λ_=>0) (gh bP m9 m9.n.toNat):=Lv.new uc;have xT:(gh bP m9 m9.n.toNat).ps.length=2:=sL;have uT:(gh bP m9 m9.n.toNat).net=[]:=rfl;have tJ:∀ x y,x<2→y<2→bn (gh bP m9 m9.n.toNat) x y=0:=λx y hx hy=>zT uc hx hy;have C3:=HZ (p:=bP) uc;generalize gh bP m9 m9.n.toNat=v0 at I L0 xT uT tJ C3;have WN:m9.bq.toNat=4:=rfl;obtain⟨Pu,e1,w5,k1,z1⟩:=L0.al (i:=0) (by omega) 5 0;have k00:=tJ 0 0 (by omega) (by omega);replace z1:=z1 (by omega);have o1:=C3.go (s:=⟨1,(0:Nat),5,0⟩);obtain⟨Pv,e2,tu,k2,z2⟩:=Pu.al (i:=1) (by omega) 6 0;have C4:=tJ 1 1 (by omega) (by omega);have Pw:=k1 1 1;rw[ag (by omega)]at Pw;replace z2:=z2 (by omega);have qJ:=o1.go (s:=⟨1,(1:Nat),6,0⟩);obtain⟨Px,e3,Py,k3,Pz,z3⟩:=Pv.tick (i:=0) (by decide) (by omega) (by rw[e2,e1,uT,tu,w5,xT];decide) 0 0;have Ic:=qJ.go (s:=⟨2,(0:Nat),0,0⟩);have t3:ou (bS bP ⟨1,(1:Nat),6,0⟩ (bS bP ⟨1,(0:Nat),5,0⟩ v0)) 0=[(0,1,aT (dP (an (bS bP ⟨1,(1:Nat),6,0⟩ (bS bP ⟨1,(0:Nat),5,0⟩ v0)) 0).k 1))]:=by
  rw[ou,tu,w5,xT];rfl
 rw[e2,e1,uT,t3]at e3;obtain⟨L4,ju,PA,lp,z4,_⟩:=Px.send e3 0 0;have xU:=Ic.go (s:=⟨3,0,0,0⟩);have h5:py (0,1,aT (dP (an (bS bP ⟨1,(1:Nat),6,0⟩ (bS bP ⟨1,(0:Nat),5,0⟩ v0)) 0).k 1))=1:=by
  rw[Pz _ (by rw[t3];exact iJ),k2 0 0,ag (by omega),k1 0 0,ak (by omega),k00]
 have f4:aw (an (bS bP ⟨3,0,0,0⟩ (bS bP ⟨2,(0:Nat),0,0⟩ (bS bP ⟨1,(1:Nat),6,0⟩ (bS bP ⟨1,(0:Nat),5,0⟩ v0)))) 1).k=1:=by
  have th:=lp 1 0;rw[ak ⟨rfl,rfl⟩,k3,k2,ag (by omega),k1,ag (by omega),tJ 1 0 (by omega) (by omega),h5]at th;have q1:=lp 1 1;rw[ag (by show ¬ ((1:Nat)=1∧(1:Nat)=0);omega),k3,k2,ak (by omega),Pw]at q1;refine L4.front (j:=0) (by omega) (λj hj=>?_) (by omega) (by rw[th];rfl);have:j=0∨j=1:=by omega
  rcases this with rfl | rfl
  ·rw[th];decide
  ·rw[q1];omega
 clear tJ k1 k2 k3 lp t3 h5 Pz;refine RN 2 E I λa E=>?_;obtain⟨adL,cL,adE,cE,xs,es,⟨dX,c6,ek⟩,I⟩:=aE.ug I;have b9:xs.length=2:=by rw[← xT,← c6,a8]
 have JT:xs[1].1.z.zR=true:=(hP.2 _ (by rw[← dX];exact cR.2 ⟨xs[1],jd _,rfl⟩)).2;refine RN 3 E I λa E=>?_;replace E:=E.aP 17;refine RN 4 E I λa E=>?_;replace E:=E.aP 21;refine CL 1 E I (sF (i:=0) ((I.pick (Sl 81 1 adL xs.length cL (xs.map cC))).pick (aa B.mb 107 [.slice adL xs.length cL,pt B.q,.slice adE es.length cE])) (by omega)) λa w E I=>?_;refine RN 3 E I λa E=>?_;replace E:=E.aP 26;refine CL 1 E I (HF (i:=1) ((I.pick (Sl 81 1 adL xs.length cL (xs.map cC))).pick (aa B.mb 107 [.slice adL xs.length cL,pt B.q,.slice adE es.length cE])) (by omega)) λa w E I=>?_;refine RN 1 E I λa E=>?_;rw[JT,Bool.not_true]at E;refine RN 2 E I λa E=>?_;replace E:=E.aP 31;refine CL 1 E I (zI (I.pick (aa B.mb 107 [.slice adL xs.length cL,pt B.q,.slice adE es.length cE]))) λa w E I=>?_;refine RN 2 E I λa E=>?_;replace E:=E.aP 35;refine RN 2 E I λa E=>?_;replace I:=aE.sG (I.sub (M:=aa B.mb 107 [.slice adL xs.length cL,pt B.q,.slice adE es.length cE]::Sl 81 1 adL xs.length cL (xs.map cC)::ah (cA W bP 0) xs::bG B.q (v0.net.map cI)::Sl 90 1 adE es.length cE (es.map bx)::ah ew es::L)) dX c6 ek;refine CL 2 E I (zZ (t:=⟨1,(0:Nat),5,0⟩) I ⟨ri,by decide,fE,by decide⟩ C3 (by decide) (by decide)) λa w E I=>?_;rw[z1]at E;refine CL 4 E I (zZ (t:=⟨1,(1:Nat),6,0⟩) I ⟨ri,by decide,fE,by decide⟩ (o1.more (by decide)) (by decide) (by decide)) λa w E I=>?_;rw[z2]at E;refine CL 4 E I (zZ (t:=⟨2,(0:Nat),0,0⟩) I ⟨ri,by decide,fE,by decide⟩ (qJ.more (by decide)) (by decide) (by decide)) λa w E I=>?_;rw[z3]at E;refine CL 4 E I (zZ (t:=⟨3,0,0,0⟩) I ⟨ri,by decide,fE,by decide⟩ (Ic.more (by decide)) (by decide) (by decide)) λa w E I=>?_;rw[z4]at E;have n5:=PA.trans (Py.trans (tu.trans (w5.trans xT)));clear C3 o1 qJ Ic L0 Pu Pv Px z1 z2 z3 z4 e1 e2 e3 xT w5 tu Py PA;generalize bS bP ⟨3,0,0,0⟩ (bS bP ⟨2,(0:Nat),0,0⟩ (bS bP ⟨1,(1:Nat),6,0⟩ (bS bP ⟨1,(0:Nat),5,0⟩ v0)))=v at I xU L4 f4 ju n5;refine RN 2 E I λa E=>?_;obtain⟨adL,cL,adE,cE,xs,es,⟨dX,c6,ek⟩,I⟩:=aE.ug I;have b9:xs.length=2:=by rw[← n5,← c6,a8]
 obtain⟨x,hx,pv⟩:∃ x,xs[1]?=some (x,an v 1)∧B.fx[1]?=some x:=HJ dX c6 (by omega);obtain⟨_,g4⟩:=aY.1 hx;have hM:=x.q5 (W:=W) (p:=bP) ri (by decide) (fE x (bF pv));have hw:=(xU.pl 1 (by omega)).1;refine CL 1 E I (sF (i:=1) ((I.pick (Sl 81 1 adL xs.length cL (xs.map cC))).pick (aa B.mb 107 [.slice adL xs.length cL,pt B.q,.slice adE es.length cE])) (by omega)) λa w E I=>?_;rw[show cC xs[1]=.iface x.z.t (.pointer (some x.z.ad)) from by rw[g4]]at E;replace I:=CD (I.pick (ah (cA W bP 40) xs)) hx;refine RN 0 E I λa E=>?_;refine jP E rfl hM.Cq hM.Cr rfl (hM.Cs _ _ 40 (an v 1) (by decide) hw (I.pick (x.J W bP 40 (an v 1)))) (by rfl) ?_;clear E I;rintro e w ⟨lX,et,rfl,I⟩;refine⟨_,rfl,λa E=>?_⟩;refine RN 5 E I λa E=>?_;rw[show (l4 (an v 1)).2=1 from f4]at E;replace I:=H9 ((I.pick (ah (cA W bP 40) (xs.eraseIdx 1))).pick (x.J W bP 40 (an v 1))) hx;replace I:=aE.sG (I.sub (M:=aa B.mb 107 [.slice adL xs.length cL,pt B.q,.slice adE es.length cE]::Sl 81 1 adL xs.length cL (xs.map cC)::ah (cA W bP 40) xs::bG B.q (v.net.map cI)::Sl 90 1 adE es.length cE (es.map bx)::ah ew es::L)) dX c6 ek;refine RN 4 E I λa E=>?_;replace E:=E.ed 56;refine RN 4 E I λa E=>?_;replace E:=E.ed 60;refine RN 4 E I λa E=>?_;replace E:=E.ed 64;refine RN 4 E I λa E=>?_;replace E:=E.ed 68;refine RN 4 E I λa E=>?_;replace E:=E.ed 72;refine RN 1 E I λa E=>?_;obtain⟨adL,cL,adE,cE,xs,es,⟨dX,c6,ek⟩,I⟩:=aE.ug I;refine CL 0 E I (zI (I.pick (aa B.mb 107 [.slice adL xs.length cL,pt B.q,.slice adE es.length cE]))) λa w E I=>?_;refine CL 0 E I (HA (I.pick (bG B.q (v.net.map cI)))) λa w E I=>?_;rw[a8,ju]at E;replace I:=aE.sG (I.sub (M:=aa B.mb 107 [.slice adL xs.length cL,pt B.q,.slice adE es.length cE]::Sl 81 1 adL xs.length cL (xs.map cC)::ah (cA W bP 40) xs::bG B.q (v.net.map cI)::Sl 90 1 adE es.length cE (es.map bx)::ah ew es::L)) dX c6 ek;refine RN 3 E I λa E=>?_;replace E:=E.ed 78;refine CL 2 E I (zZ (t:=⟨0,0,0,0⟩) I ⟨ri,by decide,fE,by decide⟩ (xU.more (by decide)) (by decide) (by decide)) λa w E I=>?_;rw[Pt (.inl (by decide))]at E;rw[bS,ag (by decide),Pt (.inl (by decide)),L4.still]at I;refine RN 3 E I λa E=>?_;replace E:=E.ed 84;refine aZ 1 E I (adh (i:=0) I (by omega) xU.ev (by rw[L4.ev _ (Cv (d:=[]) (by rw[xU.ev];omega))];decide)) λad2 c2 a w E I=>?_;rw[L4.ev _ (Cv (d:=[]) (by rw[xU.ev];omega))]at E;refine RT 4 E I ?_;exact⟨rfl,I.sub⟩
end
end
section
structure uo (W:World)(p:Pr)(B:iV)(D:ot)(cf:Cf)(tb:List UInt8)(gn:Bool):Prop where
 mb:D.mb=B.mb
 fx:vK B.fx cf tb gn cf.n.toNat
 m8:CY W D.m8 cf tb
 gs:cY ⟨cf.bf,cf.order,tb⟩
 pr:dm p
 sz:p.title.size≤1000000000
section
variable {W w:World}{L:List SP}{c:Nat}{p:Pr}{v:Wd}{B:iV}{D:ot}{t:fN}{cf:Cf}{tb:List UInt8}{gn:Bool}
theorem vK.gs {fx:List fF}{n:Nat}(h:vK fx cf tb gn n)(hg:cY ⟨cf.bf,cf.order,tb⟩):∀ x∈fx,cY x.z.gs:=λx hx=>by rw[(h.2 x hx).1];exact hg
theorem uo.ok (h:uo W p B D cf tb gn)(hc:c≤1000000):B.Ok p c:=⟨h.pr,h.sz,h.fx.gs h.gs,hc⟩
theorem adO (I:U W w (aE W B p c v::bC W D p v::L))(hO:uo W p B D cf tb gn)(hv:bK p cf c v)(hc:c≤1000000) :
   Calls Tryz.prog 33 #[pt D.wb] w λe w'=>e=.returned (.bool true)∧U W w' (aE W B p c v::bC W D p v::L) :=
 adJ I hO.mb (hO.ok hc) hv (by rw[hv.n];exact hO.fx) hO.m8 hO.gs (by omega)
theorem adQ (I:U W w (aE W B p c v::bC W D p v::L))(hO:uo W p B D cf tb gn)(hv:bK p cf c v)(CV:qs v)(hc:c≤900000) :
   Calls Tryz.prog 32 #[pt D.wb,.agg (dW t).toArray] w λe w'=>e=.returned (.bool true)∧U W w' (aE W B p (c+10) (bS p t v)::bC W D p (bS p t v)::L) :=
 adm I hO.mb (hO.ok (by omega)) hv CV (by omega) λw u hu C5 I=>adO I hO hu (by omega)
structure Wc (p:Pr)(cf:Cf)(c:Nat)(v:Wd):Prop where
 ok:bK p cf c v
 calm:qs v
theorem Wc.go (h:Wc p cf c v):Wc p cf (c+10) (bS p t v):=⟨h.ok.go.more (by omega),adl h.calm⟩
theorem Wc.new (h:eV cf):Wc p cf 0 (gh p cf cf.n.toNat):=⟨HZ h,O9 h⟩
end
end
section
open Go.RowKit Go.ChangeShapes Go.WideShapes Go.ChangeAt
set_option linter.constructorNameAsVariable false
set_option maxRecDepth 100000
section
variable {W W' w:World}{L:List SP}
theorem adR {L:List SP}(hb:Below W.heap.size W W')(I:U W' w L):Below W.heap.size W w:=hb.trans (I.below.mono hb.size)
end
end
section
structure TK where
 tb:Nat
 n:Nat
 B:iV
 D:ot
abbrev sN (K:TK):List Value:=[pt K.D.wb,.int .i64 K.n,.bool true]
def TS (W:World)(K:TK)(p:Pr)(c:Nat)(v:Wd):SP:=λh=>cm [aa K.tb 33 (sN K),aE W K.B p c v,bC W K.D p v] h
abbrev lD (n:Nat):Cf:=⟨n,0,77,2,8,2,1,3,2,7⟩
section
variable {W w:World}{L:List SP}{c i n:Nat}{p:Pr}{v:Wd}{K:TK}{t:fN}{cf:Cf}{tb:List UInt8}{gn:Bool}
theorem TS.open (I:U W w (TS W K p c v::L)):U W w (aa K.tb 33 (sN K)::aE W K.B p c v::bC W K.D p v::L):=I.open (M:=[_,_,_]) λ_ h=>h
theorem TS.close (I:U W w (aa K.tb 33 (sN K)::aE W K.B p c v::bC W K.D p v::L)):U W w (TS W K p c v::L):=U.shut (M:=[_,_,_]) I λ_ h=>h
structure PB (w:World)(K:TK)(oX adS pC:Nat)(adP adN adE:Option Addr)(cP cN cE:Nat):Prop where
 t:Rd w K.tb 0 (sN K)
 d:Rd w K.D.wb 0 [pt K.D.mb,.slice adP oX cP,.slice adN adS cN,.slice adE pC cE]
theorem TS.rd (I:U W w (TS W K p c v::L)):∃ (oX pC:Nat) (adP adN adE:Option Addr) (cP cN cE:Nat),PB w K oX v.net.length pC adP adN adE cP cN cE:=by
 replace I:=TS.open I;have h1:=I.ai (b:=K.tb);obtain⟨adP,cP,adN,cN,adE,cE,xs,es,_,I⟩:=bC.open (I.pick (bC W K.D p v));exact⟨_,_,adP,adN,adE,cP,cN,cE,h1,I.ai (b:=K.D.wb)⟩
theorem adU (I:U W w L):Calls Tryz.prog 39 #[] w λe w'=>e=.returned (.bool true)∧U W w' L:=by
 refine EN Tryz.func39 Tryz.ntmps39 rfl rfl λa E=>?_;refine CL 3 E I (adM I) λa w E I=>?_;refine RT 1 E I ?_;exact⟨rfl,I⟩
theorem adV (I:U W w L):Calls Tryz.prog 13 #[] w λe w'=>e=.returned (.bool true)∧U W w' L:=by
 refine EN Tryz.func13 Tryz.ntmps13 rfl rfl λa E=>?_;refine CL 3 E I (adU I) λa w E I=>?_;refine RT 1 E I ?_;exact⟨rfl,I⟩
theorem adW {x L:Int}(h:0<L):-L<x.tmod L∧x.tmod L<L:=by
 have h1:=Int.natAbs_tmod x L;have h2:=Nat.mod_lt x.natAbs (show 0<L.natAbs by omega);omega
theorem adX (I:U W w L){x:Int}{k:Nat}(hk:0<k)(b0:k≤1000):Calls Tryz.prog 14 #[.int .i64 x,.int .i64 k] w λe w'=>∃ y:Nat,e=.returned (.int .i64 y)∧y<k∧U W w' L:=by
 have hb:=adW (x:=x) (L:=k) (by omega);refine EN Tryz.func14 Tryz.ntmps14 rfl rfl λa E=>?_;refine IF 11 E I (λaj a E=>?_) λaj a E=>?_
 ·
  refine RT 6 E I ?_;exact⟨(x.tmod k).natAbs,by rw[fR (by omega) (by omega),show (((x.tmod k).natAbs:Nat):Int)=0-x.tmod k from by omega],by omega,I⟩
 refine RT 3 E I ?_;exact⟨(x.tmod k).natAbs,by rw[show (((x.tmod k).natAbs:Nat):Int)=x.tmod k from by omega],by omega,I⟩
theorem adY (I:U W w L):Calls Tryz.prog 16 #[.int .i64 n] w λe w'=>e=.returned (.agg (bV (lD n)).toArray)∧U W w' L:=by
 refine EN Tryz.func16 Tryz.ntmps16 rfl rfl λa E=>?_;refine AL 1 E I λb2 a w E I=>?_;refine SA 3 E I λa w E I=>?_;refine RT 0 E I ?_;exact⟨rfl,I.sub⟩
theorem vQ (I:U W w (TS W K p c v::L))(hO:uo W p K.B K.D cf tb gn)(hc:Wc p cf c v)(jS:c≤900000):Calls Tryz.prog 21 #[pt K.tb,.agg (dW t).toArray] w λe w'=>e=.returned (.tuple #[])∧U W w' (TS W K p (c+10) (bS p t v)::L):=by
 replace I:=TS.open I;refine EN Tryz.func21 Tryz.ntmps21 rfl rfl λa E=>?_;refine BX 1 E I λb3 a w E I=>?_;change U W w (aa b3 58 (dW t)::_) at I;refine RN 5 E I λa E=>?_;replace E:=E.ed 7;refine RN 1 E I λa E=>?_;obtain⟨adP,cP,adN,cN,adE,cE,xs,es,hx,_⟩:=bC.open (I.pick (bC W K.D p v));refine aV 0 (λw0 w'=>Rd w' K.tb 0 (sN K)∧Rd w' b3 0 (dW t)) [5] [0,1,2,3,3004,1005,1006,7,8,1009] E I λa w E I hH=>?_;have hC:=hH.at w ⟨I.ai (b:=K.tb),I.ai (b:=b3)⟩;refine RH 4 E I hH hC λa E=>?_;refine QH E (λw hc=>ae E (hc.1 0 _ rfl)) hC λa E=>?_;refine RH 0 E I hH hC λa E=>?_;refine SS E (bT E Tryz.underlying58 rfl Ty.t58 (hC.2)) λa E=>?_;refine RH 0 E I hH hC λa E=>?_;refine CL 0 E I (adQ ((I.pick (bC W K.D p v)).pick (aE W K.B p c v)) hO hc.ok hc.calm jS) λa w E I=>?_;refine ST 2 E I (λa w E I=>?_);refine RT 0 E I ?_;exact⟨rfl,TS.close I.sub⟩
theorem adZ (p:Pr){m:Ml}{r:List Ml}(hm:v.net=m::r)(a b:Int):(bS p ⟨3,a,b,0⟩ v).net=r:=by
 rw[bS,ag (by show ¬ (3:Int)=7;omega),CX p hm];exact (rk _ _).2.1
theorem ad0 (I:U W w (TS W K p c v::L))(hO:uo W p K.B K.D cf tb gn)(hc:Wc p cf c v)(jS:c≤800000):Calls Tryz.prog 38 #[pt K.tb] w λe w'=>e=.returned (.tuple #[])∧(Wc p cf (c+10*v.net.length) (vP p v)∧(vP p v).net=[])∧U W w' (TS W K p (c+10*v.net.length) (vP p v)::L):=by
 have hn:=hc.ok.net.1;refine EN Tryz.func38 Tryz.ntmps38 rfl rfl λa E=>?_;refine RN 2 E I λa E=>?_;refine aN (λμ a w=>∃ (i:Nat) (u:Wd),(μ=v.net.length-i∧(i≤v.net.length∧u.net.length=v.net.length-i)∧Wc p cf (c+10*i) u∧pz p (v.net.length-i) u=vP p v)∧Fr a 27 [(0,pt K.tb),(2,.int .i64 i)]∧U W w (TS W K p (c+10*i) u::L)) (v.net.length) (⟨0,v,⟨rfl,⟨by omega,rfl⟩,hc,rfl⟩,E.ab [0,2],I⟩) ?_;clear E I;rintro μ a w ⟨i,u,⟨rfl,⟨hi,pM⟩,sO,ef⟩,E,I⟩;refine RN 2 E I λa E=>?_;obtain⟨oX,pC,adP,adN,adE,cP,cN,cE,hT⟩:=TS.rd I;refine RN 3 E I λa E=>?_;rw[dk (by omega)]at E;refine RN 3 E I λa E=>?_;refine bw E (cw E rfl (s:=5)) (ae E (hT.t 2 _ rfl)) rfl λa E=>?_;refine RN 2 E I λa E=>?_;replace E:=E.ed 11;refine RN 3 E I λa E=>?_;refine bw E (cw E rfl (s:=11)) (ae E (hT.t 0 _ rfl)) rfl λa E=>?_;refine RN 2 E I λa E=>?_;refine bw E (cw E rfl (s:=11)) (ae E (hT.d 2 _ rfl)) rfl λa E=>?_;refine IF 3 E I (λaj a E=>?_) λaj a E=>?_
 ·
  obtain⟨m,r,hm⟩:∃ m r,u.net=m::r:=by
   cases h:u.net with
   | nil=>have h9:=dd List.length h;rw[length_nil]at h9;omega
   | cons m r=>exact⟨m,r,rfl⟩
  have eR:=adZ p hm 0 0;have gv:r.length=v.net.length-(i+1):=by rw[hm,eH]at pM;omega
  refine CL 3 E I (vQ (t:=⟨3,0,0,0⟩) I hO sO (by omega)) λa w E I=>?_;refine RN 3 E I λa E=>?_;refine⟨v.net.length-(i+1),by omega,i+1,bS p ⟨3,0,0,0⟩ u,⟨rfl,⟨by omega,by rw[eR];exact gv⟩,sO.go,?_⟩,E.ab [0,2],I⟩;rw[← ef,show v.net.length-i=(v.net.length-(i+1))+1 from by omega];rfl
 refine RT 0 E I ?_;obtain rfl:i=v.net.length:=by omega
 rw[Nat.sub_self]at ef;replace ef:u=vP p v:=ef;subst ef;exact⟨rfl,⟨sO,gG (by omega)⟩,I⟩
theorem PC (I:U W w (TS W K p c v::L))(hO:uo W p K.B K.D cf tb gn)(hc:Wc p cf c v)(jS:c≤700000)(hn:v.ps.length=K.n){b:Nat}(hb:b<256):Calls Tryz.prog 17 #[pt K.tb,.int .u8 b] w λe w'=>e=.returned (.tuple #[])∧(∃ c',c'≤c+4000∧Wc p cf c' (pB p b v)∧U W w' (TS W K p c' (pB p b v)::L)):=by
 have ie:=hc.ok.len;refine EN Tryz.func17 Tryz.ntmps17 rfl rfl λa E=>?_;refine RN 3 E I λa E=>?_;refine aN (λμ a w=>∃ (i:Nat),(μ=K.n-i∧i≤K.n∧Wc p cf (c+20*i) (uk p (λ_=>true) b v i))∧Fr a 27 [(0,pt K.tb),(1,.int .u8 b),(4,.int .i64 i)]∧U W w (TS W K p (c+20*i) (uk p (λ_=>true) b v i)::L)) (K.n) (⟨0,⟨rfl,by omega,hc⟩,E.ab [0,1,4],I⟩) ?_;clear E I;rintro μ a w ⟨i,⟨rfl,hi,sO⟩,E,I⟩;refine RN 2 E I λa E=>?_;obtain⟨oX,pC,adP,adN,adE,cP,cN,cE,hT⟩:=TS.rd I;refine RN 4 E I λa E=>?_;refine SS E (ae E (hT.t 1 _ rfl)) λa E=>?_;refine IF 1 E I (λaj a E=>?_) λaj a E=>?_
 ·
  refine SX 5 E I (fR (by omega) (by omega)) λa E=>?_;refine CL 3 E I (vQ (t:=⟨1,i,(b:Int)+i,0⟩) I hO sO (by omega)) λa w E I=>?_;refine CL 3 E I (vQ (t:=⟨2,i,0,0⟩) I hO sO.go (by omega)) λa w E I=>?_;refine RN 3 E I λa E=>?_;rw[show c+20*i+10+10=c+20*(i+1) from by omega]at I;exact⟨K.n-(i+1),by omega,i+1,⟨rfl,by omega,by rw[show c+20*(i+1)=c+20*i+10+10 from by omega];exact (sO.go (t:=⟨1,i,(b:Int)+i,0⟩)).go (t:=⟨2,i,0,0⟩)⟩,E.ab [0,1,4],I⟩
 obtain rfl:i=K.n:=by omega
 refine CL 1 E I (ad0 I hO sO (by omega)) λa w E ⟨hf,I⟩=>?_;refine RT 0 E I ?_;have h9:=sO.ok.net.1;exact⟨rfl,c+20*K.n+10*(uk p (λ_=>true) b v K.n).net.length,by omega,by rw[pB,hn];exact hf.1,by rw[pB,hn];exact I⟩
set_option maxHeartbeats 1000000 in
theorem ad1 (I:U W w L)(gf:nM (dC cf 0) bP [])(hn:cf.n=n):Calls Tryz.prog 15 #[.agg (bV cf).toArray,.bool gn] w λe w'=>∃ (W2:World) (K:TK),e=.returned (pt K.tb)∧(K.n=n∧Below W.heap.size W W2∧uo W2 bP K.B K.D cf [] gn∧Wc bP (dC cf 0) 0 (gh bP cf n))∧U W2 w' (TS W2 K bP 0 (gh bP cf n)::[]):=by
 have uc:=gf.1;have n0:cf.n.toNat=n:=by omega
 refine EN Tryz.func15 Tryz.ntmps15 rfl rfl λa E=>?_;refine BX 1 E I λb2 a w E I=>?_;change U W w (aa b2 28 (bV cf)::_) at I;refine aV 2 (λw0 w'=>Rd w' b2 0 (bV cf)) [1] [2,3000,1001,1003,4] E I λa w E I hH=>?_;have hC:=hH.at w (I.ai (b:=b2));refine RH 1 E I hH hC λa E=>?_;refine QH E (λw hc=>bT E Tryz.underlying28 rfl Ty.t28 (hc)) hC λa E=>?_;refine RH 0 E I hH hC λa E=>?_;refine bh 0 E I (NY I) λadP a w E I=>?_;replace hC:=hH.at w (I.ai (b:=b2));have pX:Rd w b2 0 (bV cf):=I.ai (b:=b2);have vn:b2<w.heap.size:=Rd.lt pX;have zW:zV w bP adP 12:=U.roW (I.pick (aA W bP adP 12));have wR:=I.below;obtain⟨W2,PD⟩:∃ W2,W2=w:=⟨_,rfl⟩;replace I:U W2 w []:=by rw[PD];exact U.start w
 rw[← PD]at pX vn zW wR;have c9:∀ w' L,U W2 w' L→Rd w' b2 0 (bV cf):=λw' L I j v hj=>(I.below.cell vn).trans (pX j v hj);refine RH 0 E I hH hC λa E=>?_;refine aZ 0 E I (adD (cf:=cf) (tb:=[]) (adT:=none) (cT:=0) gf I zW rfl ri (by decide) (by decide) (by decide) (λw' h=>aX.nil)) λB D a w E ⟨hN,I⟩=>?_;refine RN 1 E I λa E=>?_;refine RN 3 E I λa E=>?_;refine SS E (ae E (c9 _ _ I 0 _ rfl)) λa E=>?_;rw[hn]at E;refine BX 3 E I λqZ a w E I=>?_;refine RT 1 E I ?_;rw[n0]at I hN;refine⟨W2,⟨qZ,n,B,D⟩,rfl,⟨rfl,wR,⟨hN.1,by rw[n0];exact hN.2.1,hN.2.2,gf.2.2,ri,by decide⟩,?_⟩,?_⟩
 ·have h1:=Wc.new (p:=bP) uc;rw[show (dC cf 0).n.toNat=n from n0]at h1;exact h1
 ·exact TS.close (K:=⟨qZ,n,B,D⟩) I
end
end
section
section
variable {W w:World}{L:List SP}{n c i f:Nat}{p:Pr}{cf:Cf}{v:Wd}{D:ot}
theorem Ie {w:World}{y:ov}{p:Pr}(h:xR w p y)(hf:f<y.1.2.k.mr.length):∃ b o,y.2.1.cj=some ⟨b,o,none⟩∧w.cell? ⟨b,o+f,none⟩=some (.int .u32 (y.1.2.k.mr.getD f 0:Nat)):=by
 obtain⟨b,o,h1,h2⟩:=h.mr (by omega);refine⟨b,o,h1,h2 f _ ?_⟩;rw[c4,bl,aD hf,bm,aD hf];rfl
theorem PE {w:World}{y:ov}{p:Pr}{b o:Nat}(h:xR w p y)(he:y.2.1.cj=some ⟨b,o,none⟩)(hf:f<y.1.2.k.mr.length):w.cell? ⟨b,o+f,none⟩=some (.int .u32 (y.1.2.k.mr.getD f 0:Nat)):=by
 obtain⟨b',o',h1,h2⟩:=Ie h hf;rw[he]at h1;cases h1;exact h2
theorem PF {P:Program}{ops:Array Oper}{Q:Exit→Act→World→Prop}{C C':World→Prop}{bg:List Nat}(k:∀ w,C' w→C w):∀ (fuel:Nat) (bE:Array Bool) (a:Act) (w:World),hR P ops Q C' bg fuel bE a w→hR P ops Q C bg fuel bE a w
 | 0,_,_,_,h=>h
 | fuel+1,_,_,_,h=>⟨h.1,λi hi=>wpOp_mono (λa' w' h'=>⟨λhn=>k _ (h'.1 hn),PF k fuel _ a' w' h'.2⟩) (h.2 i hi)⟩
theorem PG {P:Program}{ops:Array Oper}{Q:Exit→Act→World→Prop}{C:World→Prop}{bg od:List Nat}{fuel m:Nat}{a:Act}{w:World}{b:Bool}(C':World→Prop)(k:∀ w,C' w→C w)(hC:C w)(h:gj P ops Q C' bg od fuel m a w):CN b C (gj P ops Q C bg od fuel m) a w :=
 ⟨λ_=>hC,PF k _ _ _ _ h⟩
set_option maxHeartbeats 2000000 in
theorem ad3 (I:U W w (bC W D p v::L))(hv:bK p cf c v)(hA:∀ i j f,i<v.ps.length→j<v.ps.length→f<aw (an v i).k→f<aw (an v j).k→bJ (an v i).k.ls f=bJ (an v j).k.ls f∧(an v i).k.mr.getD f 0=(an v j).k.mr.getD f 0)
   (xK:∀ l∈v.ev,∀ e∈l,e.1≠3) (ke:9*c+100≤1000000000):Calls Tryz.prog 18 #[pt D.wb] w λe w'=>e=.returned (.bool true)∧U W w' (bC W D p v::L):=by
 replace I:=bC.open I;obtain⟨adP,cP,adN,cN,gD,gp,rs,fs,⟨g5,jh,mA⟩,I⟩:=I;obtain⟨ys,lB,I⟩:=CZ (I.pick (ah (dg W p) rs));have gv:rs.length=v.ps.length:=by rw[← jh,a8]
 have jm:ys.length=v.ps.length:=by rw[← gv,← lB,a8]
 have ef:fs.length=v.ps.length:=by rw[← hv.ev,← mA,a8]
 have hn:=hv.len;have ud:∀ i,i<v.ps.length→∃ y,ys[i]?=some y∧y.1.2=an v i∧(rs.map dD)[i]?=some (pt y.1.1.pb):=λi hi=>by
  refine⟨ys[i],aD (by omega),?_,?_⟩
  ·rw[an,← jh,← lB,List.map_map,bm,bl,aD (by omega)];rfl
  ·rw[← lB,List.map_map,bl,aD (by omega)];rfl
 have cn:∀ w',U W w' (ah (ky W p) ys::aa D.wb 40 [pt D.mb,.slice adP rs.length cP,.slice adN v.net.length cN,.slice gD fs.length gp]::Sl 34 1 adP rs.length cP (rs.map dD)::cd 60 adN v.net.length cN v.net::Sl 70 1 gD fs.length gp (fs.map bx)::ah eY fs::L)→U W w' (bC W D p v::L):=λw' h=>by
  have h1:=C0 h;rw[lB]at h1;exact bC.close (h1.sub (M:=aa D.wb 40 [pt D.mb,.slice adP rs.length cP,.slice adN v.net.length cN,.slice gD fs.length gp]::Sl 34 1 adP rs.length cP (rs.map dD)::ah (dg W p) rs::cd 60 adN v.net.length cN v.net::Sl 70 1 gD fs.length gp (fs.map bx)::ah eY fs::L)) g5 jh mA
 replace I:=I.sub (M:=ah (ky W p) ys::aa D.wb 40 [pt D.mb,.slice adP rs.length cP,.slice adN v.net.length cN,.slice gD fs.length gp]::Sl 34 1 adP rs.length cP (rs.map dD)::cd 60 adN v.net.length cN v.net::Sl 70 1 gD fs.length gp (fs.map bx)::ah eY fs::L);generalize hM:(ah (ky W p) ys::aa D.wb 40 [pt D.mb,.slice adP rs.length cP,.slice adN v.net.length cN,.slice gD fs.length gp]::Sl 34 1 adP rs.length cP (rs.map dD)::cd 60 adN v.net.length cN v.net::Sl 70 1 gD fs.length gp (fs.map bx)::ah eY fs::L)=M at I cn;obtain⟨bp,op,DM⟩:∃ bp op,adP=some ⟨bp,op,none⟩:=by
  rw[← hM]at I;obtain⟨bp,op,h,_⟩:=(I.pick (Sl 34 1 adP rs.length cP (rs.map dD))).bU adP (by omega);exact⟨bp,op,h⟩
 obtain⟨js,oF,hbF⟩:∃ js oF,gD=some ⟨js,oF,none⟩:=by
  rw[← hM]at I;obtain⟨bp,op,h,_⟩:=(I.pick (Sl 70 1 gD fs.length gp (fs.map bx))).bU gD (by omega);exact⟨bp,op,h⟩
 have PH:=I;clear I;subst DM hbF;have sP:∀ w',U W w' M→Rd w' D.wb 0 [pt D.mb,.slice (some ⟨bp,op,none⟩) rs.length cP,.slice adN v.net.length cN,.slice (some ⟨js,oF,none⟩) fs.length gp]:=λw' h=>by
  rw[← hM]at h;exact h.ai (b:=D.wb)
 have xV:∀ w',U W w' M→Rd w' bp op (rs.map dD):=λw' h=>by
  rw[← hM]at h;exact h.cK bp op (by omega)
 have PI:∀ w',U W w' M→Rd w' js oF (fs.map bx):=λw' h=>by
  rw[← hM]at h;exact h.cK js oF (by omega)
 have rY:∀ {i:Nat} {y:ov} {w':World},U W w' M→ys[i]?=some y→xR w' p y:=λh hy=>by
  rw[← hM]at h;exact C1 h hy
 have ad4:∀ {i:Nat} {x:kx} {w':World},U W w' M→fs[i]?=some x→0<x.2.2.length→∃ b o,x.1=some ⟨b,o,none⟩∧Rd w' b o (rows bW x.2.2):=λ{i x w'} h hx h0=>by
  rw[← hM]at h;obtain⟨hi,h1⟩:=aY.1 hx;have h2:=(h.pick (ah eY fs)).fy hi;rw[h1]at h2;replace h2:U W w' (Sl 102 3 x.1 x.2.2.length x.2.1 (rows bW x.2.2)::_):=h2;exact h2.bU x.1 h0
 clear hM;have I:=PH;clear PH;refine EN Tryz.func18 Tryz.ntmps18 rfl rfl λa E=>?_;refine RN 5 E I λa E=>?_;refine aN (λμ a w=>∃ (i:Nat),(μ=v.ps.length-i∧i≤v.ps.length)∧Fr a 142 [(0,pt D.wb),(3,.int .i64 i)]∧U W w M) (v.ps.length) (⟨0,⟨rfl,by omega⟩,E.ab [0,3],I⟩) ?_;clear E I;rintro μ a w ⟨i,⟨rfl,hi⟩,E,I⟩;refine RN 6 E I λa E=>?_;refine SS E (ae E ((sP _ I) 1 _ rfl)) λa E=>?_;refine IF 2 E I (λaj a E=>?_) λaj a E=>?_
 ·
  have aI:i<v.ps.length:=by omega
  obtain⟨y,hy,ua,Ig⟩:=ud i aI;have vR:ct p y.1.2:=by rw[ua];exact (hv.pl i aI).1
  have C6:bj y.2.2=y.1.2.k.ls:=(rY I hy).eq;refine RN 4 E I λa E=>?_;refine aN (λμ a w=>∃ (k:Nat),(μ=i-k∧k≤i)∧Fr a 142 [(0,pt D.wb),(3,.int .i64 i),(4,.int .i64 k)]∧U W w M) (i) (⟨0,⟨rfl,by omega⟩,E.ab [0,3,4],I⟩) ?_;clear E I;rintro μ a w ⟨k,⟨rfl,hk⟩,E,I⟩;refine IF 5 E I (λao a E=>?_) λao a E=>?_
  ·
   have dI:k<v.ps.length:=by omega
   obtain⟨z,hz,mo,xS⟩:=ud k dI;have z6:ct p z.1.2:=by rw[mo];exact (hv.pl k dI).1
   have C7:bj z.2.2=z.1.2.k.ls:=(rY I hz).eq;refine aV 2 (λw0 w'=>U W w' M) [10,14,16,17,18,19,20] [0,1,2,4,11,12,13,15,3003,5,3006,7,8,3009,3014,3016,3017,3018,3019,3020,1010,1021,22,23] E I λa w E I hH=>?_;have hC:=hH.at w I;refine RH 8 E I hH hC λa E=>?_;refine QH E (λw hc=>ae E (sP _ hc 1 _ rfl)) hC λa E=>?_;refine RH 1 E I hH hC λa E=>?_;refine QH E (λw hc=>ae E (xV _ hc i _ Ig)) hC λa E=>?_;refine RH 2 E I hH hC λa E=>?_;refine QH E (λw hc=>ae E ((rY hc hy).pb 0 _ rfl)) hC λa E=>?_;refine QH E (λw hc=>ae E (sP _ hc 1 _ rfl)) hC λa E=>?_;refine RH 1 E I hH hC λa E=>?_;refine QH E (λw hc=>ae E (xV _ hc k _ xS)) hC λa E=>?_;refine RH 2 E I hH hC λa E=>?_;refine QH E (λw hc=>ae E ((rY hc hz).pb 0 _ rfl)) hC λa E=>?_;refine RH 0 E I hH hC λa E=>?_;refine CL 0 E I (Po (A:=y.2.1) I vR.wc C6 λw' h=>⟨(rY h hy).cb,(rY h hy).ls⟩) λa w E I=>?_;replace hC:=hH.at w I;refine RH 0 E I hH hC λa E=>?_;refine CL 0 E I (Po (A:=z.2.1) I z6.wc C7 λw' h=>⟨(rY h hz).cb,(rY h hz).ls⟩) λa w E I=>?_;refine RN 1 E I λa E=>?_;rw[show min ((aw y.1.2.k:Nat):Int) ((aw z.1.2.k:Nat):Int)=((min (aw y.1.2.k) (aw z.1.2.k):Nat):Int) from by omega]at E;refine RN 1 E I λa E=>?_;refine RN 2 E I λa E=>?_;refine aN (λμ a w=>∃ (f:Nat),(μ=min (aw y.1.2.k) (aw z.1.2.k)-f∧f≤min (aw y.1.2.k) (aw z.1.2.k))∧Fr a 142 [(0,pt D.wb),(3,.int .i64 i),(4,.int .i64 k),(5,.int .i64 (min (aw y.1.2.k) (aw z.1.2.k):Nat)),(6,.int .i64 f)]∧U W w M) (min (aw y.1.2.k) (aw z.1.2.k)) (⟨0,⟨rfl,by omega⟩,E.ab [0,3,4,5,6],I⟩) ?_;clear E I;rintro μ a w ⟨f,⟨rfl,hf⟩,E,I⟩;refine IF 5 E I (λay a E=>?_) λay a E=>?_
   ·
    have ef:f<aw y.1.2.k∧f<aw z.1.2.k:=by omega
    obtain⟨vm,qV⟩:bJ y.1.2.k.ls f=bJ z.1.2.k.ls f∧y.1.2.k.mr.getD f 0=z.1.2.k.mr.getD f 0:=by
     rw[ua,mo]at ef ⊢;exact hA i k f aI dI ef.1 ef.2
    have ad5:y.1.2.k.ls.length=y.2.2.length:=by rw[← C6,gb]
    have ad6:z.1.2.k.ls.length=z.2.2.length:=by rw[← C7,gb]
    have Cc:=vR.full;have LC:=z6.full;have hy8:=vR.wc.ls;have hz8:=z6.wc.ls;have hyn:=vR.wc.n;have KJ:=z6.wc.n;have ue:=fG vR.wc.nG vR.wc.lZ;obtain⟨by1,oy1,g5,_⟩:=Ie (f:=f) (rY I hy) (by rw[vR.full];exact ef.1);obtain⟨bz1,oz1,cV,_⟩:=Ie (f:=f) (rY I hz) (by rw[z6.full];exact ef.2);refine RN 2 E I λa E=>?_;simp only[List.append];refine aV 0 (λw0 w'=>U W w' M) [14,15,19,21,22,23,24,25,26,27,28,30,31,53,55,56,57,58,59,60,61,62,64,65] [0,1,2,4,13,16,17,18,20,29,3003,5,3006,7,8,3009,10,11,3012,3019,3021,3022,3023,3024,3025,3026,3027,3028,1014,3015,1030,1031,32,33,34,35,36,38,47,50,51,52,54,63,3037,39,3040,41,42,3043,44,45,3046,48,3049,1053,1055,1056,1057,1058,1059,1060,1061,1062,1064,1065,66,67] E I λa w E I hH=>?_;have hC:=hH.at w I;refine RH 10 E I hH hC λa E=>?_;refine QH E (λw hc=>ae E (sP _ hc 1 _ rfl)) hC λa E=>?_;refine RH 1 E I hH hC λa E=>?_;refine QH E (λw hc=>ae E (xV _ hc i _ Ig)) hC λa E=>?_;refine RH 2 E I hH hC λa E=>?_;refine QH E (λw hc=>ae E ((rY hc hy).pb 0 _ rfl)) hC λa E=>?_;refine RH 2 E I hH hC λa E=>?_;refine QH E (λw hc=>ae E ((rY hc hy).cb 10 _ rfl)) hC λa E=>?_;rw[ad5]at E;refine RH 0 E I hH hC λa E=>?_;refine QH E (λw hc=>ae E (sP _ hc 1 _ rfl)) hC λa E=>?_;refine RH 1 E I hH hC λa E=>?_;refine QH E (λw hc=>ae E (xV _ hc k _ xS)) hC λa E=>?_;refine RH 2 E I hH hC λa E=>?_;refine QH E (λw hc=>ae E ((rY hc hz).pb 0 _ rfl)) hC λa E=>?_;refine RH 2 E I hH hC λa E=>?_;refine QH E (λw hc=>ae E ((rY hc hz).cb 10 _ rfl)) hC λa E=>?_;rw[ad6]at E;refine RH 0 E I hH hC λa E=>?_;refine aZ 0 E I (GQ (xs:=y.2.2) (f:=f) I (by omega) (by omega) (λw' hw=>(rY hw hy).ls) (by rw[C6];exact ef.1)) λvS jo a w E I=>?_;rw[C6,vm]at E I;refine PG (λw'=>U W w' M∧aX w' vS (bJ z.1.2.k.ls f).length (bJ z.1.2.k.ls f)) (λ_ h=>h.1) I.tail ?_;have hH:=Hd.any (λw'=>U W w' M∧aX w' vS (bJ z.1.2.k.ls f).length (bJ z.1.2.k.ls f));have hC:=hH.at w ⟨I.tail,I.cu vS _ rfl rfl⟩;refine RH 0 E I hH hC λa E=>?_;refine QH E (λw hc=>lL E Tryz.underlying22 Tryz.underlying5 Tryz.underlying9 (hc.2)) hC λa E=>?_;refine RH 0 E I hH hC λa E=>?_;refine aZ 0 E I (GQ (xs:=z.2.2) (f:=f) I (by omega) (by omega) (λw' hw=>(rY hw.tail hz).ls) (by rw[C7];exact ef.2)) λjI agm a w E I=>?_;rw[C7]at E I;refine PG (λw'=>(U W w' M∧aX w' vS (bJ z.1.2.k.ls f).length (bJ z.1.2.k.ls f))∧aX w' jI (bJ z.1.2.k.ls f).length (bJ z.1.2.k.ls f)) (λ_ h=>h.1) ⟨I.tail.tail,I.cu vS _ rfl rfl⟩ ?_;have hH:=Hd.any (λw'=>(U W w' M∧aX w' vS (bJ z.1.2.k.ls f).length (bJ z.1.2.k.ls f))∧aX w' jI (bJ z.1.2.k.ls f).length (bJ z.1.2.k.ls f));have hC:=hH.at w ⟨⟨I.tail.tail,I.cu vS _ rfl rfl⟩,I.cu jI _ rfl rfl⟩;refine RH 0 E I hH hC λa E=>?_;refine SS E (lL E Tryz.underlying22 Tryz.underlying5 Tryz.underlying9 (hC.2)) λa E=>?_;refine RH 0 E I hH hC λa E=>?_;refine QP E (λw=>KW E) λa E=>?_;rw[qI,beq_self_eq_true,Bool.not_true]at E;refine RH 1 E I hH hC λa E=>?_;replace E:=E.aP 83;refine RH 10 E I hH hC λa E=>?_;refine QH E (λw hc=>ae E (sP _ hc.1.1 1 _ rfl)) hC λa E=>?_;refine RH 1 E I hH hC λa E=>?_;refine QH E (λw hc=>ae E (xV _ hc.1.1 i _ Ig)) hC λa E=>?_;refine RH 2 E I hH hC λa E=>?_;refine QH E (λw hc=>ae E ((rY hc.1.1 hy).pb 0 _ rfl)) hC λa E=>?_;refine RH 2 E I hH hC λa E=>?_;refine QH E (λw hc=>ae E ((rY hc.1.1 hy).cb 16 _ rfl)) hC λa E=>?_;rw[g5]at E;refine RH 1 E I hH hC λa E=>?_;refine QH E (λw hc=>ae E (PE (rY hc.1.1 hy) g5 (by omega))) hC λa E=>?_;rw[qV]at E;refine RH 0 E I hH hC λa E=>?_;refine bw E (cw E rfl (s:=83)) (ae E (sP _ hC.1.1 1 _ rfl)) rfl λa E=>?_;refine RH 1 E I hH hC λa E=>?_;refine bw E (cw E rfl (s:=83)) (ae E (xV _ hC.1.1 k _ xS)) rfl λa E=>?_;refine RH 2 E I hH hC λa E=>?_;refine bw E (cw E rfl (s:=83)) (ae E ((rY hC.1.1 hz).pb 0 _ rfl)) rfl λa E=>?_;refine RH 2 E I hH hC λa E=>?_;refine bw E (cw E rfl (s:=83)) (ae E ((rY hC.1.1 hz).cb 16 _ rfl)) rfl λa E=>?_;rw[cV]at E;refine RH 1 E I hH hC λa E=>?_;refine bw E (cw E rfl (s:=83)) (ae E (PE (rY hC.1.1 hz) cV (by omega))) rfl λa E=>?_;refine RH 2 E I hH hC λa E=>?_;rw[bo (by simp)]at E;refine RN 4 E I λa E=>?_;exact⟨min (aw y.1.2.k) (aw z.1.2.k)-(f+1),by omega,f+1,⟨rfl,by omega⟩,E.ab [0,3,4,5,6],I.sub⟩
   refine RN 3 E I λa E=>?_;exact⟨i-(k+1),by omega,k+1,⟨rfl,by omega⟩,E.ab [0,3,4],I⟩
  obtain⟨x,hx⟩:∃ x,fs[i]?=some x:=⟨_,aD (by omega)⟩;have wz:(fs.map bx)[i]?=some (.slice x.1 x.2.2.length x.2.1):=by rw[bl,hx];rfl
  have b9:=(hv.kT x.2.2 (by rw[← mA];exact cR.2 ⟨x,bF hx,rfl⟩)).1;have hxE:∀ e∈x.2.2,e.1≠3:=xK x.2.2 (by rw[← mA];exact cR.2 ⟨x,bF hx,rfl⟩);refine RN 2 E I λa E=>?_;refine aN (λμ a w=>∃ (k:Nat),(μ=x.2.2.length-k∧k≤x.2.2.length)∧Fr a 142 [(0,pt D.wb),(3,.int .i64 i),(7,.int .i64 k)]∧U W w M) (x.2.2.length) (⟨0,⟨rfl,by omega⟩,E.ab [0,3,7],I⟩) ?_;clear E I;rintro μ a w ⟨k,⟨rfl,hk⟩,E,I⟩;refine RN 6 E I λa E=>?_;refine SS E (ae E ((sP _ I) 3 _ rfl)) λa E=>?_;refine RN 2 E I λa E=>?_;refine SS E (ae E ((PI _ I) i _ wz)) λa E=>?_;refine IF 2 E I (λbN a E=>?_) λbN a E=>?_
  ·
   have dI:k<x.2.2.length:=by omega
   obtain⟨be,agn,zx,mm⟩:=ad4 I hx (by omega);replace mm:=jl BQ mm (aD dI);have mK:=hxE _ (jd dI);refine RN 5 E I λa E=>?_;refine SS E (ae E ((sP _ I) 3 _ rfl)) λa E=>?_;refine RN 2 E I λa E=>?_;refine SS E (ae E ((PI _ I) i _ wz)) λa E=>?_;rw[zx]at E;refine RN 3 E I λa E=>?_;refine SS E (ae E (mm 0 _ rfl)) λa E=>?_;refine RN 1 E I λa E=>?_;rw[bo (by omega)]at E;refine RN 4 E I λa E=>?_;exact⟨x.2.2.length-(k+1),by omega,k+1,⟨rfl,by omega⟩,E.ab [0,3,7],I⟩
  refine RN 3 E I λa E=>?_;exact⟨v.ps.length-(i+1),by omega,i+1,⟨rfl,by omega⟩,E.ab [0,3],I⟩
 refine RT 2 E I ?_;exact⟨rfl,cn _ I⟩
end
end
section
structure TV where
 bp:Nat
 op:Nat
 cP:Nat
 adN:Option Addr
 cN:Nat
 adE:Option Addr
 pC:Nat
 cE:Nat
 ys:List ov
structure ad7 (W:World)(K:TK)(p:Pr)(c:Nat)(v:Wd)(M L:List SP)(V:TV):Prop where
 t:∀ {w':World},U W w' M→Rd w' K.tb 0 (sN K)
 d:∀ {w':World},U W w' M→Rd w' K.D.wb 0 [pt K.D.mb,.slice (some ⟨V.bp,V.op,none⟩) v.ps.length V.cP,.slice V.adN v.net.length V.cN,.slice V.adE V.pC V.cE]
 ps:∀ {w':World} {i:Nat} {y:ov},U W w' M→V.ys[i]?=some y→w'.cell? ⟨V.bp,V.op+i,none⟩=some (pt y.1.1.pb)
 rd:∀ {w':World} {i:Nat} {y:ov},U W w' M→V.ys[i]?=some y→xR w' p y
 get:∀ i,i<v.ps.length→∃ y,V.ys[i]?=some y∧y.1.2=an v i
 back:∀ {w':World},U W w' M→U W w' (TS W K p c v::L)
 mat:∃ M',∀ w':World,U W w' M↔U W w' (aE W K.B p c v::M')
section
variable {W w:World}{L:List SP}{c i n:Nat}{p:Pr}{v:Wd}{K:TK}{cf:Cf}{G:List (List UInt8)}{PJ:Int→Prop}{D:ot}
theorem TS.view (I:U W w (TS W K p c v::L))(h0:0<v.ps.length):∃ (M:List SP) (V:TV),ad7 W K p c v M L V∧U W w M:=by
 replace I:=TS.open I;obtain⟨adP,cP,adN,cN,gD,gp,rs,fs,⟨g5,jh,mA⟩,I⟩:=bC.open (I.pick (bC W K.D p v));obtain⟨ys,lB,I⟩:=CZ (I.pick (ah (dg W p) rs));have gv:rs.length=v.ps.length:=by rw[← jh,a8]
 have jm:ys.length=v.ps.length:=by rw[← gv,← lB,a8]
 obtain⟨bp,op,rfl,_⟩:=(I.pick (Sl 34 1 adP rs.length cP (rs.map dD))).bU adP (by omega);replace I:=I.sub (M:=ah (ky W p) ys::aa K.D.wb 40 [pt K.D.mb,.slice (some ⟨bp,op,none⟩) rs.length cP,.slice adN v.net.length cN,.slice gD fs.length gp]::Sl 34 1 (some ⟨bp,op,none⟩) rs.length cP (rs.map dD)::cd 60 adN v.net.length cN v.net::Sl 70 1 gD fs.length gp (fs.map bx)::ah eY fs::aa K.tb 33 (sN K)::aE W K.B p c v::L);refine⟨_,⟨bp,op,cP,adN,cN,gD,fs.length,gp,ys⟩,⟨λh=>h.ai (b:=K.tb),λh=>by rw[← gv];exact h.ai (b:=K.D.wb),λh hy=>?_,λh hy=>C1 h hy,λi hi=>?_,λh=>?_,⟨_,λw'=>⟨λh=>h.pick (aE W K.B p c v),λh=>h.sub⟩⟩⟩,I⟩
 ·rename_i i y;refine h.cK bp op (by omega) i _ ?_;rw[← lB,List.map_map,bl,hy];rfl
 ·show ∃ y,ys[i]?=some y∧y.1.2=an v i;refine⟨ys[i]'(by omega),aD (by omega),?_⟩;rw[an,← jh,bm,bl,show rs[i]?=(ys.map (·.1))[i]? from by rw[lB],bl,aD (by omega)];rfl
 ·have h1:=C0 h;rw[lB]at h1;have h2:=bC.close (v:=v) (D:=K.D) (h1.sub (M:=aa K.D.wb 40 [pt K.D.mb,.slice (some ⟨bp,op,none⟩) rs.length cP,.slice adN v.net.length cN,.slice gD fs.length gp]::Sl 34 1 (some ⟨bp,op,none⟩) rs.length cP (rs.map dD)::ah (dg W p) rs::cd 60 adN v.net.length cN v.net::Sl 70 1 gD fs.length gp (fs.map bx)::ah eY fs::aa K.tb 33 (sN K)::aE W K.B p c v::L)) g5 jh mA;exact TS.close (h2.sub (M:=aa K.tb 33 (sN K)::aE W K.B p c v::bC W K.D p v::L))
theorem ad8 (I:U W w (bC W D p v::L))(hv:bK p cf c v)(hG:fQ p cf PJ G v)(ke:9*c+100≤1000000000):Calls Tryz.prog 18 #[pt D.wb] w λe w'=>e=.returned (.bool true)∧U W w' (bC W D p v::L) :=
 ad3 I hv (λi j f hi hj h1 h2=>(hG.pl i hi).agree (hG.pl j hj) h1 h2) hG.bx ke
theorem ad9 (I:U W w (TS W K p c v::L))(hc:Wc p cf c v)(hG:fQ p cf PJ G v)(jS:c≤1000000):Calls Tryz.prog 18 #[pt K.D.wb] w λe w'=>e=.returned (.bool true)∧U W w' (TS W K p c v::L) :=
 (ad8 ((TS.open I).pick (bC W K.D p v)) hc.ok hG (by omega)).mono λe w' ⟨h1,h2⟩=>⟨h1,TS.close h2.sub⟩
theorem aea {B:iV}(I:U W w (aE W B p c v::L)):Calls Tryz.prog 22 #[pt B.mb] w λe w'=>e=.returned (pt B.q)∧U W w' (aE W B p c v::L):=by
 obtain⟨adL,cL,adE,cE,xs,es,⟨dX,c6,ek⟩,I⟩:=aE.ug I;exact (zI I).mono λe w' ⟨h1,h2⟩=>⟨h1,aE.sG h2 dX c6 ek⟩
theorem aeb {B:iV}(I:U W w (aE W B p c v::L)):Calls Tryz.prog 23 #[pt B.q] w λe w'=>e=.returned (.int .i64 v.net.length)∧U W w' (aE W B p c v::L):=by
 obtain⟨adL,cL,adE,cE,xs,es,⟨dX,c6,ek⟩,I⟩:=aE.ug I;exact (HA (I.pick (bG B.q (v.net.map cI)))).mono λe w' ⟨h1,h2⟩=>⟨by rw[h1,a8],aE.sG (h2.sub (M:=aa B.mb 107 [.slice adL xs.length cL,pt B.q,.slice adE es.length cE]::Sl 81 1 adL xs.length cL (xs.map cC)::ah (cA W p c) xs::bG B.q (v.net.map cI)::Sl 90 1 adE es.length cE (es.map bx)::ah ew es::L)) dX c6 ek⟩
theorem PK (h:2≤n∧n≤8):eV (lD n):=by
 have h2:eV (lD 2):=by decide
 refine⟨⟨⟨?_,?_⟩,⟨?_,?_⟩,h2.1.2.2⟩,h2.2⟩
 ·show (2:Int)≤(n:Int);omega
 ·show (n:Int)≤8;omega
 ·show (0:Int)≤0;omega
 ·show (0:Int)≤(n:Int)-1;omega
theorem aec (h:2≤n∧n≤8):nM (dC (lD n) 0) bP []:=⟨PK h,ri,show cY ⟨2,1,[]⟩ by decide⟩
end
end
section
section
variable {p:Pr}{cf:Cf}{v u:Wd}{i j x y c:Nat}{T:Nat→Nat}{m:Ml}{net r:List Ml}
theorem PL (hc:Wc p cf c v)(net:List Ml):lz { v with net:=net }={ v with net:=net }:=HX hc.ok.ev hc.calm
theorem aed (hc:Wc p cf c v)(hm:v.net[j]?=some m){k:Nat}(hk:k<m.2.2.length)(b:Int):bS p ⟨6,k,b,j⟩ v={ v with net:=v.net.set j (m.1,m.2.1,m.2.2.set k (m.2.2.getD k 0 ^^^ fm b)) }:=by
 have aS:bu p ⟨6,k,b,j⟩ v=(0,{ v with net:=v.net.set j (m.1,m.2.1,m.2.2.set k (m.2.2.getD k 0 ^^^ fm b)) }):=by
  rw[bu,ag (by show ¬ ((6:Int)<1∨(8:Int)<6);omega),ak (by show (3:Int)≤6∧(6:Int)≤6;omega),uf rfl rfl hm,ag (by show ¬ ((k:Int)<0∨(m.2.2.length:Int)≤(k:Int));omega)];rfl
 rw[bS,ag (by show ¬ (6:Int)=7;omega),aS];exact PL hc _
theorem aee (hw:ct p (an v i))(hd:dN m.2.2=none)(ho:(an v i).k.cl=false):dB p m.2.2 (an v i)=(1,an v i):=by
 have h1:dp m.2.2 (an v i).k=(1,(an v i).k):=Gi ho hd;have h0:(dB p m.2.2 (an v i)).1=1:=by show (dp _ _).1=1;rw[h1]
 have h2:=ON hw (bs:=m.2.2) (by rw[h0];decide);exact Prod.ext h0 h2
theorem aef (hc:Wc p cf c v)(hm:v.net=m::r)(hd:dN m.2.2=none)(hi:m.2.1<v.ps.length)(ho:(an v m.2.1).k.cl=false)(a b:Int):bS p ⟨3,a,b,0⟩ v={ v with net:=r }:=by
 have h1:=aee (hc.ok.pl _ hi).1 hd ho;have aS:bu p ⟨3,a,b,0⟩ v=(1,{ v with net:=r }):=by
  rw[CX p hm,h1];show (1,Wd.mk (v.ps.set m.2.1 (an v m.2.1)) r v.ev)=_;rw[HO hi]
 rw[bS,ag (by show ¬ (3:Int)=7;omega),aS];exact PL hc _
theorem aeg {a b:UInt8}(h:b≠0):a ^^^ b≠a:=λe=>by
 refine h ?_;have h1:a ^^^ (a ^^^ b)=0:=by rw[e];simp
 rwa [← UInt8.xor_assoc,UInt8.xor_self,UInt8.zero_xor]at h1
theorem aeh {K:Int→Prop}{G:List (List UInt8)}{q:Pk}(hq:nN p cf K G v m q){k:Nat}(hk:k<m.2.2.length){b:UInt8}(hb:b≠0):dN (m.2.2.set k (m.2.2.getD k 0 ^^^ b))=none:=by
 have he:m.2.2=ib q:=by rw[hq.bs,aT,ak hq.iX.may]
 rw[he]at hk ⊢;refine adz hk ?_;rw[bm,aD hk];exact aeg hb
theorem aei {K:Int→Prop}{G:List (List UInt8)}{q:Pk}(hq:nN p cf K G v m q):7≤m.2.2.length:=by
 rw[hq.bs,aT,ak hq.iX.may,w3];omega
structure sQ (u:Wd)(i:Nat)(v:Wd):Prop where
 eq:v={ u with net:=v.net }
 len:v.net.length=u.net.length
 aO:∀ (j:Nat) m,v.net[j]?=some m→m.2.1<u.ps.length∧7≤m.2.2.length∧(j<i→dN m.2.2=none)∧(i≤j→u.net[j]?=some m)
theorem sQ.new {K:Int→Prop}{G:List (List UInt8)}(hG:fQ p cf K G u):sQ u 0 u:=⟨rfl,rfl,λj m hm=>by
 obtain⟨q,hq⟩:=hG.net m (bF hm);exact⟨hq.lt.2,aei hq,λh=>absurd h (Nat.not_lt_zero _),λ_=>hm⟩⟩
theorem sQ.next {K:Int→Prop}{G:List (List UInt8)}(hG:fQ p cf K G u)(h:sQ u i v)(hc:Wc p cf c v)(hm:v.net[i]?=some m){k:Nat}(hk:k<m.2.2.length){b:Int}(hb:fm b≠0):sQ u (i+1) (bS p ⟨6,k,b,i⟩ v):=by
 rw[aed hc hm hk];obtain⟨hi,_⟩:=aY.1 hm;obtain⟨h1,h2,_,h4⟩:=h.aO i m hm;obtain⟨q,hq⟩:=hG.net m (bF (h4 (a7 _)));refine⟨by rw[h.eq],by show (List.set _ _ _).length=_;rw[bt];exact h.len,λj m' kv=>?_⟩;change (v.net.set i _)[j]?=some m' at kv;rw[jO]at kv;split at kv
 ·rename_i e;subst e;cases kv;exact⟨h1,by show 7≤(List.set _ _ _).length;rw[bt];exact h2,λ_=>aeh hq hk hb,λh=>by omega⟩
 ·rename_i e;obtain⟨g1,hS,l9,ma⟩:=h.aO j m' kv;exact⟨g1,hS,λhj=>l9 (by omega),λhj=>ma (by omega)⟩
structure vT (u v:Wd):Prop where
 eq:v={ u with net:=v.net }
 len:v.net.length≤u.net.length
 aO:∀ m∈v.net,m.2.1<u.ps.length∧dN m.2.2=none
theorem sQ.dead (h:sQ u i v)(hi:u.net.length≤i):vT u v:=⟨h.eq,by rw[h.len];exact a7 _,λm hm=>by
 obtain⟨j,hj,rfl⟩:=xe hm;obtain⟨h1,_,h3,_⟩:=h.aO j _ (aD hj);exact⟨h1,h3 (by have:=h.len;omega)⟩⟩
theorem vT.next (h:vT u v)(jG:Lv p cf T u)(hc:Wc p cf c v)(hm:v.net=m::r):vT u (bS p ⟨3,0,0,0⟩ v)∧(bS p ⟨3,0,0,0⟩ v).net=r:=by
 obtain⟨h1,h2⟩:=h.aO m (by rw[hm];exact iJ);have fL:v.ps=u.ps:=by rw[h.eq]
 have eo:an v m.2.1=an u m.2.1:=by rw[an,fL,an]
 rw[aef hc hm h2 (by rw[fL];exact h1) (by rw[eo];exact (jG.op _ h1).1)];exact⟨⟨by rw[h.eq],by have:=h.len;rw[hm,eH]at this;show r.length≤_;omega,λm' kv=>h.aO m' (by rw[hm];exact gF _ kv)⟩,rfl⟩
theorem vT.done (h:vT u v)(jG:Lv p cf T u)(hn:v.net=[]):Lv p cf T v∧(∀ x y,bn v x y=bn u x y)∧v.ps.length=u.ps.length:=by
 rw[h.eq,hn];exact⟨jG.CK (λm hm=>by cases hm) (Nat.zero_le _),λ_ _=>rfl,rfl⟩
end
end
section
section
variable {W w:World}{L:List SP}{c i:Nat}{p:Pr}{v:Wd}{K:TK}{m:Ml}{y:ov}
theorem TS.zD (I:U W w (TS W K p c v::L))(hm:v.net[i]?=some m):∃ (oX pC z7 z8:Nat) (adP adE:Option Addr) (cP cN cE:Nat) (ad:Option Addr) (zk:Nat),PB w K oX v.net.length pC adP (some ⟨z7,z8,none⟩) adE cP cN cE∧Rd w z7 (z8+i*3) [.int .i64 m.1,.int .i64 m.2.1,.slice ad m.2.2.length zk]:=by
 replace I:=TS.open I;have h1:=I.ai (b:=K.tb);obtain⟨adP,cP,adN,cN,adE,cE,xs,es,_,I⟩:=bC.open (I.pick (bC W K.D p v));obtain⟨ys,mB,jm,I⟩:=cd.open (I.pick (cd 60 adN v.net.length cN v.net));obtain⟨hi,hie⟩:=aY.1 hm;have lB:ys.length=v.net.length:=by rw[← mB,a8]
 obtain⟨z7,z8,rfl,h2⟩:=(I.pick (Sl 60 3 adN v.net.length cN (rows b7 ys))).bU adN (by omega);obtain⟨y,hy,Ia⟩:∃ y,ys[i]?=some y∧y.2.2=m:=by
  refine⟨ys[i]'(by omega),aD (by omega),?_⟩;have h3:(ys.map (·.2.2))[i]?=some m:=by rw[mB];exact hm
  rw[bl,aD (by omega)]at h3;exact p4 h3
 have h3:=jl oc h2 hy;refine⟨_,_,z7,z8,adP,adE,cP,cN,cE,y.1,y.2.1,⟨h1,I.ai (b:=K.D.wb)⟩,?_⟩;rw[← Ia];exact h3
theorem PM (h:xR w p y)(hi:i<y.1.2.k.ls.length):∃ (ad:Option Addr) (zk:Nat),w.cell? ⟨y.1.1.core.lb,y.1.1.core.lo+i,none⟩=some (.slice ad (y.1.2.k.ls.getD i []).length zk):=by
 have hl:y.2.2.length=y.1.2.k.ls.length:=by rw[← h.eq,gb]
 obtain⟨b,off,x,h1,h2,h3,_⟩:=h.ls.at (i:=i) (by omega);cases h1;refine⟨x.1,x.2.1,?_⟩;rw[h3,← h.eq,sA h2];rfl
theorem aej {x:Int}(h0:0≤x)(h1:x<256)(hx:x≠0):fm x≠0:=λe=>by
 have h2:=N4 x;rw[e,Int.emod_eq_of_lt h0 h1]at h2;exact hx h2.symm
end
end
section
theorem aek {n h t:Nat}{u:Wd}(e:pA bP (lD n) t h u)(h2:2≤u.ps.length)(hh:h<1000)(ht:t<39)(b:Int) :
   let z:=bS bP ⟨2,(0:Nat),0,0⟩ (bS bP ⟨1,(0:Nat),b,0⟩ u)
   Lv bP (lD n) (λ_=>t+1) z∧z.ps.length=u.ps.length∧z.net=ou (bS bP ⟨1,(0:Nat),b,0⟩ u) 0∧(∀ x y,x<u.ps.length→y<u.ps.length→bn z x y=if x=0∧y=0 then h+1 else h)∧∀ m∈z.net,m.1=0∧py m=h+1:=by
 intro z;obtain⟨h1,h3⟩:=(e.base.half (tk:=λ_=>true)).next e.base (i:=0) (by omega) (λ_ _=>hh) ht b 0 0 0;obtain⟨c0,cU,a3,a4,_⟩:=e.lC.al (i:=0) (by omega) b 0;have yD:=e.kn 0 0 (by omega) (by omega);obtain⟨g1,hS,l9,ma,o3,_⟩:=c0.tick (i:=0) (by exact ht) (by rw[a3];omega) (by rw[cU,a3,e.net];have:=e.lC.len.2.2;simp;omega) 0 0;have hw:(lD n).bq.toNat=8:=rfl;have hf:=(e.front (i:=0) (by omega)).1;refine⟨h1.lC.more λi hi=>by split <;> omega,h1.len,by rw[hS,cU,e.net];rfl,λx y hx hy=>?_,λm hm=>?_⟩
 ·rw[h1.kn x y hx hy,e.kn x y hx hy];by_cases e1:x=0∧y=0
  ·rw[ak e1,ak (by omega)]
  ·rw[ag e1,ag (by omega)]
 ·rw[hS,cU,e.net,nil_append]at hm;refine⟨?_,?_⟩
  ·obtain⟨j,_,rfl⟩:=cR.1 hm;rfl
  ·rw[o3 m hm,a4,ak ⟨⟨rfl,rfl⟩,by omega,by omega⟩,yD]
end
section
theorem ael {n h t:Nat}{u:Wd}(jG:Lv bP (lD n) (λ_=>t) u)(hn:u.net=[])(hk:∀ x y,x<u.ps.length→y<u.ps.length→bn u x y=if x=0∧y=0 then h+1 else h)(hh:h<900)(ht:t<39)(b:Int) :
   (∃ G,fQ bP (lD n) (·=1) G (pB bP b u))∧(pB bP b u).ps.length=u.ps.length∧∀ x,x<u.ps.length→bn (pB bP b u) x 0=h+2:=by
 have hl:=jG.len;have hw:(lD n).bq.toNat=8:=rfl;have hB:sM bP (lD n) t (λx=>if x=0 then h+1 else h) u:=by
  refine⟨jG,hn,λx hx=>?_,λx hx=>?_⟩
  ·rw[hk x x hx hx];by_cases e:x=0
   ·rw[ak ⟨e,e⟩,ak e]
   ·rw[ag (λh=>e h.1),ag e]
  ·have h1:h≤aw (an u x).k:=jG.H0 hx λj hj=>by rw[hk x j hx hj];split <;> omega
   show (if x=0 then h+1 else h)<_;split <;> omega
 have h1:=(hB.H4 (λx _=>by show (if x=0 then h+1 else h)<1000;split <;> omega) ht (λ_=>true) b _ (a7 _)).zU hB;exact⟨h1.lC.iX,h1.len,λx hx=>by rw[pB,h1.all x 0 hx (by omega) rfl,ak rfl]⟩
set_option maxHeartbeats 2000000 in
theorem aem (a0 c0 cU:Int)(gn:Bool)(W:World)(w0:(Lit.int .i64 a0).wf=true)(Ih:(Lit.int .i64 c0).wf=true)(w2:(Lit.int .u8 cU).wf=true) :
   Calls Tryz.prog 5 #[.int .i64 a0,.int .i64 c0,.int .u8 cU,.bool gn] W λe w'=>e=.returned (.bool true)∧Below W.heap.size W w':=by
 have I:=U.start W;have PN:=(Lit.wf_int_iff .u8 cU).1 w2;have GP:IntKind.u8.min=0:=by decide
 have dX:IntKind.u8.max=255:=by decide
 rw[GP,dX]at PN;refine EN Tryz.func5 Tryz.ntmps5 rfl rfl λa E=>?_;refine CL 3 E I (adV I) λa w E I=>?_;refine RN 5 E I λa E=>?_;replace E:=E.aP 16;refine bh 3 E I (adX (k:=4) I (by decide) (by decide)) λy a w E ⟨hy,I⟩=>?_;refine RN 2 E I λa E=>?_;obtain⟨n,hn⟩:∃ n:Nat,n=2+y:=⟨_,rfl⟩;rw[show (2:Int)+(y:Int)=(n:Int) from by omega]at E;refine cc (M:=λa w=>(∃ aO:Nat,(c0=aO∧cU≠0)∧Fr a 176 [(0,.int .i64 n),(1,.int .i64 c0),(2,.int .u8 cU),(3,.bool gn)])∧U W w []) ?_ ?_
 ·
  refine BY 4 E I (λbA a E=>?_) λbA a E=>?_
  ·
   refine RT 6 E I ?_;exact⟨rfl,I.below⟩
  refine IF 3 E I (λao a E=>?_) λao a E=>?_
  ·
   refine RT 2 E I ?_;exact⟨rfl,I.below⟩
  refine RN 0 E I λa E=>?_;exact⟨⟨c0.toNat,⟨by omega,by omega⟩,E.ab [0,1,2,3]⟩,I⟩
 clear E;(try clear I);rintro a w ⟨⟨pos,⟨rfl,hx⟩,E⟩,I⟩;refine CL 2 E I (adY (n:=n) I) λa w E I=>?_;refine aZ 1 E I (ad1 (cf:=lD n) (n:=n) I (aec (by omega)) rfl) λW K a w E ⟨⟨PO,wR,hO,aj⟩,I⟩=>?_;refine RN 1 E I λa E=>?_;have PQ:pA bP (lD n) 0 2 (gh bP (lD n) n):=pA.new (PK (by omega));have rf:(gh bP (lD n) n).ps.length=n:=sL;generalize gh bP (lD n) n=v0 at I aj PQ rf;refine CL 2 E I (PC (b:=3) I hO aj (by omega) (by rw[rf,PO]) (by decide)) λa w E ⟨et,ao,oe,I⟩=>?_;refine RN 0 E I λa E=>?_;obtain⟨PR,jA⟩:=PQ.round (by omega) (by omega) ((3:Nat):Int);rw[rf]at jA;generalize pB bP ((3:Nat):Int) v0=v1 at I oe PR jA;refine CL 3 E I (vQ (t:=⟨1,(0:Nat),9,0⟩) I hO oe (by omega)) λa w E I=>?_;refine CL 3 E I (vQ (t:=⟨2,(0:Nat),0,0⟩) I hO oe.go (by omega)) λa w E I=>?_;refine RN 0 E I λa E=>?_;obtain⟨jG,j8,_,ph,_⟩:=aek PR (by omega) (by omega) (by omega) 9;have C5:=(oe.go (t:=⟨1,(0:Nat),9,0⟩)).go (t:=⟨2,(0:Nat),0,0⟩);generalize bS bP ⟨2,(0:Nat),0,0⟩ (bS bP ⟨1,(0:Nat),9,0⟩ v1)=u at I jG j8 ph C5;rw[jA]at j8 ph;obtain⟨G,hG⟩:=jG.iX;have n1:=C5.ok.net.1;have hb:=aej PN.1 (by omega) hx;refine RN 3 E I λa E=>?_;refine aN (λμ a w=>∃ (i c:Nat) (v:Wd),(μ=u.net.length-i∧(i≤u.net.length∧c≤et+20+10*i)∧Wc bP (lD n) c v∧sQ u i v)∧Fr a 176 [(0,.int .i64 n),(1,.int .i64 pos),(2,.int .u8 cU),(10,pt K.tb),(11,.int .i64 i)]∧U W w (TS W K bP c v::[])) (u.net.length) (⟨0,_,u,⟨rfl,⟨by omega,by omega⟩,C5,sQ.new hG⟩,E.ab [0,1,2,10,11],I⟩) ?_;clear E I;rintro μ a w ⟨i,c,v,⟨rfl,⟨hi,jS⟩,hc,hB⟩,E,I⟩;refine RN 2 E I λa E=>?_;obtain⟨oX,pC,adP,adN,adE,cP,cN,cE,hT⟩:=TS.rd I;have hBl:=hB.len;refine RN 4 E I λa E=>?_;refine SS E (ae E (hT.t 0 _ rfl)) λa E=>?_;refine RN 2 E I λa E=>?_;refine SS E (ae E (hT.d 2 _ rfl)) λa E=>?_;refine IF 2 E I (λay a E=>?_) λay a E=>?_
 ·
  obtain⟨m,hm⟩:∃ m,v.net[i]?=some m:=⟨_,aD (by omega)⟩;obtain⟨_,hm7,_,_⟩:=hB.aO i m hm;have ago:=(hc.ok.net.2 m (bF hm)).2;obtain⟨nP',nE',z7,z8,agp,agq,cP',HT,cE',agr,pq,zt,ql⟩:=TS.zD I hm;obtain⟨k,hk⟩:∃ k:Nat,k=pos%m.2.2.length:=⟨_,rfl⟩;have dI:k<m.2.2.length:=by rw[hk];exact Nat.mod_lt _ (by omega)
  refine RN 7 E I λa E=>?_;refine SS E (ae E (zt.t 0 _ rfl)) λa E=>?_;refine RN 2 E I λa E=>?_;refine SS E (ae E (zt.d 2 _ rfl)) λa E=>?_;refine RN 3 E I λa E=>?_;refine SS E (ae E (ql 2 _ rfl)) λa E=>?_;refine RN 2 E I λa E=>?_;rw[show ((pos:Int)).tmod (m.2.2.length:Int)=(k:Int) from by rw[hk];rfl]at E;refine SX 1 E I (fR (by omega) (by omega)) λa E=>?_;refine CL 1 E I (vQ (t:=⟨6,k,cU,i⟩) I hO hc (by omega)) λa w E I=>?_;refine RN 3 E I λa E=>?_;exact⟨u.net.length-(i+1),by omega,i+1,c+10,_,⟨rfl,⟨by omega,by omega⟩,hc.go,hB.next hG hc hm dI hb⟩,E.ab [0,1,2,10,11],I⟩
 have hD:=hB.dead (by omega);have ags:c≤et+3100:=by omega
 clear hB hBl;refine RN 2 E I λa E=>?_;obtain⟨oX,pC,adP,adN,adE,cP,cN,cE,hT⟩:=TS.rd I;refine RN 3 E I λa E=>?_;refine SS E (ae E (hT.t 2 _ rfl)) λa E=>?_;refine RN 1 E I λa E=>?_;replace E:=E.aP 74;refine RN 2 E I λa E=>?_;refine aN (λμ a w=>∃ (i c:Nat) (v:Wd),(μ=v.net.length∧(c+10*v.net.length≤et+6200)∧Wc bP (lD n) c v∧vT u v)∧Fr a 176 [(0,.int .i64 n),(10,pt K.tb)]∧U W w (TS W K bP c v::[])) (v.net.length) (⟨0,c,v,⟨rfl,by have:=hc.ok.net.1;omega,hc,hD⟩,E.ab [0,10],I⟩) ?_;clear E I;rintro μ a w ⟨i,c,v,⟨rfl,jS,hc,hD⟩,E,I⟩;refine RN 2 E I λa E=>?_;obtain⟨oX,pC,adP,adN,adE,cP,cN,cE,hT⟩:=TS.rd I;refine RN 3 E I λa E=>?_;refine SS E (ae E (hT.t 0 _ rfl)) λa E=>?_;refine RN 2 E I λa E=>?_;refine SS E (ae E (hT.d 2 _ rfl)) λa E=>?_;refine BY 3 E I (λr5 a E=>?_) λr5 a E=>?_
 ·
  refine RN 3 E I λa E=>?_;refine bw E (cw E rfl (s:=84)) (ae E (hT.t 2 _ rfl)) rfl λa E=>?_;refine RN 1 E I λa E=>?_;replace E:=E.ed 89;refine RN 3 E I λa E=>?_;have fL:v.ps.length=n:=by rw[hD.eq];exact j8
  obtain⟨m,r,hm⟩:∃ m r,v.net=m::r:=by
   cases h:v.net with
   | nil=>have h9:=dd List.length h;rw[length_nil]at h9;omega
   | cons m r=>exact⟨m,r,rfl⟩
  obtain⟨M,V,hV,I⟩:=TS.view I (by omega);obtain⟨M',hM⟩:=hV.mat;have HY:=hO.mb;refine aV 0 (λw0 w'=>U W w' M) [7,8,12,13,14,15,16] [0,1,2,9,10,11,3003,4,5,3006,3012,3013,3014,3015,3016,1007,1008,17] E I λa w E I hH=>?_;have hC:=hH.at w I;refine RH 6 E I hH hC λa E=>?_;refine QH E (λw hc=>ae E ((hV.t hc) 0 _ rfl)) hC λa E=>?_;refine RH 2 E I hH hC λa E=>?_;refine QH E (λw hc=>ae E ((hV.d hc) 0 _ rfl)) hC λa E=>?_;rw[HY]at E;refine RH 0 E I hH hC λa E=>?_;refine QH E (λw hc=>ae E ((hV.t hc) 0 _ rfl)) hC λa E=>?_;refine RH 2 E I hH hC λa E=>?_;refine QH E (λw hc=>ae E ((hV.d hc) 2 _ rfl)) hC λa E=>?_;refine RH 1 E I hH hC λa E=>?_;refine CL 0 E I (aea ((hM _).1 I)) λa w E I=>?_;replace hC:=hH.at w ((hM _).2 I);refine RH 0 E I hH hC λa E=>?_;refine CL 0 E I (aeb I) λa w E I=>?_;replace hC:=hH.at w ((hM _).2 I);refine RH 1 E I hH hC λa E=>?_;rw[bo (by simp)]at E;refine RN 1 E I λa E=>?_;replace I:=hV.back ((hM _).2 I);obtain⟨hDn,lT⟩:=hD.next jG hc hm;have lM:=dd List.length hm;rw[eH]at lM;refine CL 2 E I (vQ (t:=⟨3,0,0,0⟩) I hO hc (by omega)) λa w E I=>?_;refine RN 0 E I λa E=>?_;exact⟨r.length,by omega,i+1,c+10,_,⟨by rw[lT],by rw[lT];omega,hc.go,hDn⟩,E.ab [0,10],I⟩
 refine RN 8 E I λa E=>?_;obtain⟨GN,b0,vF⟩:=hD.done jG (gG (by omega));replace vF:=vF.trans j8;have vX:v.net=[]:=gG (by omega);obtain⟨M,V,hV,I⟩:=TS.view I (by omega);refine RN 1 E I λa E=>?_;refine aN (λμ a w=>∃ (j:Nat),(μ=n-j∧(1≤j∧j≤n))∧Fr a 176 [(0,.int .i64 n),(10,pt K.tb),(12,.int .i64 j)]∧U W w M) (n-1) (⟨1,⟨rfl,by omega,by omega⟩,E.ab [0,10,12],I⟩) ?_;clear E I;rintro μ a w ⟨j,⟨rfl,vm,hj⟩,E,I⟩;refine IF 5 E I (λmi a E=>?_) λmi a E=>?_
 ·
  have dQ:j<v.ps.length:=by omega
  obtain⟨z,hz,mo⟩:=hV.get j dQ;have iL:z.1.2.k.ls.length=n:=by rw[mo,(hc.ok.pl j dQ).1.wc.ls,hc.ok.kn dQ,vF]
  obtain⟨adL,cL,Aa⟩:=PM (hV.rd I hz) (i:=0) (by omega);have Ii:(z.1.2.k.ls.getD 0 []).length=3:=by
   rw[mo];have h9:=b0 j 0;rw[ph j 0 (by omega) (by omega),ag (by omega)]at h9;exact h9
  rw[Ii]at Aa;refine RN 5 E I λa E=>?_;refine SS E (ae E ((hV.t I) 0 _ rfl)) λa E=>?_;refine RN 2 E I λa E=>?_;refine SS E (ae E ((hV.d I) 1 _ rfl)) λa E=>?_;refine RN 2 E I λa E=>?_;refine SS E (ae E (hV.ps I hz)) λa E=>?_;refine RN 2 E I λa E=>?_;refine SS E (ae E ((hV.rd I hz).pb 0 _ rfl)) λa E=>?_;refine RN 2 E I λa E=>?_;refine SS E (ae E ((hV.rd I hz).cb 10 _ rfl)) λa E=>?_;refine RN 2 E I λa E=>?_;refine SS E (ae E (Aa)) λa E=>?_;refine RN 2 E I λa E=>?_;rw[bo (by simp)]at E;refine RN 4 E I λa E=>?_;exact⟨n-(j+1),by omega,j+1,⟨rfl,by omega,by omega⟩,E.ab [0,10,12],I⟩
 refine RN 1 E I λa E=>?_;replace I:=hV.back I;refine CL 1 E I (PC (b:=4) I hO hc (by omega) (by rw[vF,PO]) (by decide)) λa w E ⟨dF,eN,C8,I⟩=>?_;refine RN 0 E I λa E=>?_;obtain⟨⟨agt,PS⟩,qN,zl⟩:=ael GN vX (h:=3) (λx y hx hy=>by rw[b0];exact ph x y (by omega) (by omega)) (by omega) (by omega) ((4:Nat):Int);replace qN:=qN.trans vF;generalize pB bP ((4:Nat):Int) v=aen at I C8 PS qN zl;obtain⟨M,V,hV,I⟩:=TS.view I (by omega);refine RN 3 E I λa E=>?_;refine aN (λμ a w=>∃ (j:Nat),(μ=n-j∧(1≤j∧j≤n))∧Fr a 176 [(0,.int .i64 n),(10,pt K.tb),(13,.int .i64 j)]∧U W w M) (n-1) (⟨1,⟨rfl,by omega,by omega⟩,E.ab [0,10,13],I⟩) ?_;clear E I;rintro μ a w ⟨j,⟨rfl,vm,hj⟩,E,I⟩;refine IF 5 E I (λlS a E=>?_) λlS a E=>?_
 ·
  have dQ:j<aen.ps.length:=by omega
  obtain⟨z,hz,mo⟩:=hV.get j dQ;have iL:z.1.2.k.ls.length=n:=by rw[mo,(C8.ok.pl j dQ).1.wc.ls,C8.ok.kn dQ,qN]
  obtain⟨adL,cL,Aa⟩:=PM (hV.rd I hz) (i:=0) (by omega);have Ii:(z.1.2.k.ls.getD 0 []).length=5:=by rw[mo];exact zl j (by omega)
  rw[Ii]at Aa;refine RN 5 E I λa E=>?_;refine SS E (ae E ((hV.t I) 0 _ rfl)) λa E=>?_;refine RN 2 E I λa E=>?_;refine SS E (ae E ((hV.d I) 1 _ rfl)) λa E=>?_;refine RN 2 E I λa E=>?_;refine SS E (ae E (hV.ps I hz)) λa E=>?_;refine RN 2 E I λa E=>?_;refine SS E (ae E ((hV.rd I hz).pb 0 _ rfl)) λa E=>?_;refine RN 2 E I λa E=>?_;refine SS E (ae E ((hV.rd I hz).cb 10 _ rfl)) λa E=>?_;refine RN 2 E I λa E=>?_;refine SS E (ae E (Aa)) λa E=>?_;refine RN 2 E I λa E=>?_;rw[bo (by simp)]at E;refine RN 4 E I λa E=>?_;exact⟨n-(j+1),by omega,j+1,⟨rfl,by omega,by omega⟩,E.ab [0,10,13],I⟩
 refine RN 4 E I λa E=>?_;refine SS E (ae E ((hV.t I) 2 _ rfl)) λa E=>?_;refine RN 1 E I λa E=>?_;replace E:=E.ed 169;refine RN 3 E I λa E=>?_;refine bw E (cw E rfl (s:=169)) (ae E ((hV.t I) 0 _ rfl)) rfl λa E=>?_;replace I:=hV.back I;refine CL 0 E I (ad9 I C8 PS (by omega)) λa w E I=>?_;refine RT 2 E I ?_;exact⟨rfl,adR wR I⟩
end
section
set_option maxRecDepth 100000
theorem gq {x y:Bool}(h:x=true)(k:y=true):(x&&y)=true:=by rw[h,k];rfl
theorem aeo {P:Program}{f:FuncId}{fn:Func}{s:ChangeSpec}{c:OpenClaim}(k1:c.wf (OpenSpec.ofChange s)=true)(k2:laidOutB P=true)(k3:mapsRowed P=true)(lp:fn.params.all (P.readableRec ·)=true)(y2:namedTie P c.named s.vars=true)
   (aep:(c.stops==[])=true) (aeq:(P.stops==[])=true) (aer:(c.knobs==[])=true) (aes:(P.stopKnobs==[])=true) (Ij:(c.inPlace==P.inPlace f)=true) (C4:(c.unfollowed==P.unfollowed f)=true) (Ik:(c.recurses==P.recurses f)=true) (Il:(c.named==P.varsNamed f)=true)
   (k14:(c.maps==(fn.params.toList++s.plain.varTypes P).any (P.mapsRec ·))=true) (k15:(c.ifaces==(fn.params.toList++s.plain.varTypes P).any (P.ifacesRec ·))=true) (k16:(c.mapsOut==P.mapsAmong fn.resultTypes.toList)=true)
   (k17:(c.loops==(fn.params.toList++s.plain.varTypes P).any (P.loopsFrom ·))=true) (k18:(c.wideKeys==(fn.params.toList++s.plain.varTypes P++fn.resultTypes.toList).any (P.wideKeysFrom ·))=true) (k19:s.vars.all (P.varReadable ·)=true) (k20:fn.resultTypes.all (λt=>P.readableRec t&&decide (t<P.types.size))=true)
   (k21:(c.ifacesOut==fn.resultTypes.toList.any (P.ifacesRec ·))=true) (k22:(c.loopsOut==fn.resultTypes.toList.any (P.loopsFrom ·))=true) (k23:(c.plainKeys==P.plainKeys)=true) (k24:c.shortTexts.isNone=true) (k25:P.stopsHeard=true) (k26:P.mayEnter=true) (k27:(c.lifted==P.liftsFinal)=true) (k28:(P.make==some c.make)=true)
   (k29:(c.kinds==(if c.domain.isEmpty then [] else fn.params.toList.map λt=>match P.underlying t with | some (.int k)=>some k | _=>none))=true) (k30:(c.pinned==c.pinnedBy)=true) (k31:(c.veiled==(fn.params.toList++s.plain.varTypes P++fn.resultTypes.toList).any (P.veiledRec ·))=true) (k32:c.veiledFits P fn.params.toList (fn.params.toList++s.plain.varTypes P++fn.resultTypes.toList)=true):joinedFacts P f fn s c=true:=by
 unfold joinedFacts;exact gq (gq (gq (gq (gq (gq (gq (gq (gq (gq (gq (gq (gq (gq (gq (gq (gq (gq (gq (gq (gq (gq (gq (gq (gq (gq (gq (gq (gq (gq (gq k1 k2) k3) lp) y2) aep) aeq) aer) aes) Ij) C4) Ik) Il) k14) k15) k16) k17) k18) k19) k20) k21) k22) k23) k24) k25) k26) k27) k28) k29) k30) k31) k32
theorem PT:laidOutB Tryz.prog=true:=by kernel_rfl
theorem aet:mapsRowed Tryz.prog=true:=by kernel_rfl
theorem aeu:Tryz.prog.stopsHeard=true:=by kernel_rfl
theorem aev:Tryz.prog.mayEnter=true:=by kernel_rfl
theorem aew (c:OpenClaim)(h:c.plainKeys=Rows.matchNoneRow.plainKeys):(c.plainKeys==Tryz.prog.plainKeys)=true:=by
 rw[h];kernel_rfl
theorem aex (c:OpenClaim)(h:c.lifted=Rows.matchNoneRow.lifted):(c.lifted==Tryz.prog.liftsFinal)=true:=by
 rw[h];kernel_rfl
theorem aey (c:OpenClaim)(h:c.make=Rows.matchNoneRow.make):(Tryz.prog.make==some c.make)=true:=by
 rw[h];kernel_rfl
end
end Go.Proofs.YteoldcfapaiobaaGreat
