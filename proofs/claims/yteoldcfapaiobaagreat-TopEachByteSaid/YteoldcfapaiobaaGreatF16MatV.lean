/- quintainlaw21.Raws, quintainref21.EqRaws: longer lists, and both stay. -/
import Derived.Test.YteoldcfapaiobaaGreatF15HonW
import Derived.Test.YteoldcfapaiobaaGreatF14ArgC
import Derived.Test.YteoldcfapaiobaaGreatF12RefC
import Derived.Test.YteoldcfapaiobaaGreatF13RefG
import Derived.Test.YteoldcfapaiobaaGreatRows
import Derived.KernelRfl
import Derived.JoinedOf
namespace Go.Proofs.YteoldcfapaiobaaGreat
open List (nil_append map_cons length_nil getElem?_range append_nil set_set range_succ getElem?_set_self map_replicate)
open Go.RowKit
set_option linter.unusedVariables false
set_option linter.unusedSimpArgs false
set_option maxRecDepth 10000
set_option synthInstance.maxSize 4000
set_option synthInstance.maxHeartbeats 400000
section
section
variable {W w:World}{L:List SP}{c c' m i:Nat}{ad av:Option Addr}{ev:List (Nat×Nat×Nat)}{e:km}{M:jG}{p:Pr}{s:Pl}{cf:Cf}
theorem adx (I:U W w (Sl 135 1 ad ev.length c (ev.map cA)::L))(hn:ev.length≤1000000000)(ho:∀ e∈ev,tH e):Calls Tryz.prog 55 #[.slice ad ev.length c] w λr w'=>∃ av c',r=.returned (.slice av ev.length c')∧U W w' (Sl 102 3 av ev.length c' (rows bW ev)::L):=by
 refine EN Tryz.func55 Tryz.ntmps55 rfl rfl λa E=>?_;refine RN 7 E I λa E=>?_;replace I:=I.bN 102 3 none;refine aQ (λμ a w=>∃ (i:Nat) (mW:Option Addr) (co:Nat),(μ=ev.length-i∧i≤ev.length)∧Fr a 20 [(0,.slice ad ev.length c),(3,.slice mW i co),(4,.int .i64 i)]∧U W w (Sl 102 3 mW i co (rows bW (ev.take i))::Sl 135 1 ad ev.length c (ev.map cA)::L)) (ev.length) (⟨0,none,0,⟨rfl,by omega⟩,E.ab [0,3,4],(show U W w (Sl 102 3 none 0 0 (rows bW (ev.take 0))::_) from I).sub⟩) ?_;clear E I;rintro μ a w ⟨i,mW,co,⟨rfl,hi⟩,E,I⟩;refine IF 6 E I (λaj a E=>?_) λaj a E=>?_
 ·
  have aF:i<ev.length:=by omega
  obtain⟨bi,oi,rfl,pZ⟩:=(I.pick (Sl 135 1 ad ev.length c (ev.map cA))).bU ad (by omega);have fk:=pZ i (cA ev[i]) (by rw[bn,aD aF];rfl);have Pj:=ho _ (iZ aF);generalize zr:ev[i]=x at fk Pj;have mf:Rd w bi (oi+i) [cA x]:=by
   intro k v hk;cases k with
   | zero=>simp at hk;subst hk;exact fk
   | succ k=>simp at hk
  refine RN 5 E I λa E=>?_;refine SS E (bT E Tryz.underlying135 rfl Ty.t135 (mf)) λa E=>?_;refine CL 0 E I (ZI I Pj) λa w E I=>?_;refine RN 0 E I λa E=>?_;refine cr E rfl I Tryz.underlying70 Ty.t102 rfl rfl rfl rfl (by decide) (by decide) λix a w E I ho=>?_;clear ho;refine RN 0 E I λa E=>?_;refine cQ E rfl I Tryz.underlying70 Ty.t102 rfl rfl I.ai rfl (λv hv=>F1 x v (by simpa using hv)) (by decide) (by decide) (by omega) λG3 G4 a w E I=>?_;rw[show rows bW (ev.take i)++_=rows bW (ev.take (i+1)) from by rw[← List.take_append_getElem aF,kE,zr];rfl]at I;refine RN 4 E I λa E=>?_;exact⟨ev.length-(i+1),by omega,i+1,G3,G4,⟨rfl,by omega⟩,E.ab [0,3,4],I.sub⟩
 refine RT 3 E I ?_;obtain rfl:i=ev.length:=by omega
 rw[k4]at I;exact⟨mW,co,rfl,I.sub⟩
theorem ady (I:U W w (Sl 102 3 ad ev.length c (rows bW ev)::Sl 102 3 av ev.length c' (rows bW ev)::L))(hn:ev.length≤1000000000):Calls Tryz.prog 54 #[.slice ad ev.length c,.slice av ev.length c'] w λr w'=>r=.returned (.bool true)∧U W w' (Sl 102 3 ad ev.length c (rows bW ev)::Sl 102 3 av ev.length c' (rows bW ev)::L):=by
 refine EN Tryz.func54 Tryz.ntmps54 rfl rfl λa E=>?_;refine RN 9 E I λa E=>?_;rw[bo (by omega)]at E;refine RN 4 E I λa E=>?_;refine aQ (λμ a w=>∃ (i:Nat),(μ=ev.length-i∧i≤ev.length)∧Fr a 27 [(0,.slice ad ev.length c),(1,.slice av ev.length c'),(5,.int .i64 i)]∧U W w (Sl 102 3 ad ev.length c (rows bW ev)::Sl 102 3 av ev.length c' (rows bW ev)::L)) (ev.length) (⟨0,⟨rfl,by omega⟩,E.ab [0,1,5],I⟩) ?_;clear E I;rintro μ a w ⟨i,⟨rfl,hi⟩,E,I⟩;refine IF 6 E I (λao a E=>?_) λao a E=>?_
 ·
  have aF:i<ev.length:=by omega
  refine RN 2 E I λa E=>?_;obtain⟨mR,oT,rfl,fK⟩:=I.drew.bU ad (by omega);obtain⟨HV,HW,rfl,qj⟩:=I.drew.tail.bU av (by omega);replace fK:=jk BK fK (aD aF);replace qj:=jk BK qj (aD aF);generalize ev[i]=x at fK qj;refine rE 0 (λw'=>Rd w' mR (oT+i*3) (bW x)∧Rd w' HV (HW+i*3) (bW x)) [7] [0,1,2,4,5,6,3003,1007,1008,9] E I λa E=>?_;replace I:=I.drew;generalize w.drew=w at I fK qj ⊢;have hC:Rd w mR (oT+i*3) (bW x)∧Rd w HV (HW+i*3) (bW x):=⟨fK,qj⟩;have hH:=Hd.any (λw'=>Rd w' mR (oT+i*3) (bW x)∧Rd w' HV (HW+i*3) (bW x));refine RH 6 E I hH hC λa E=>?_;refine QH E (λw hc=>bT E Tryz.underlying102 rfl Ty.t102 (hc.1)) hC λa E=>?_;refine RH 0 E I hH hC λa E=>?_;refine SS E (bT E Tryz.underlying102 rfl Ty.t102 (hC.2)) λa E=>?_;refine RH 0 E I hH hC λa E=>?_;refine CL 0 E I (abJ I) λa w E I=>?_;refine RN 1 E I λa E=>?_;replace E:=E.aM 26;refine RN 4 E I λa E=>?_;exact⟨ev.length-(i+1),by omega,i+1,⟨rfl,by omega⟩,E.ab [0,1,5],I⟩
 refine RT 2 E I ?_;exact⟨rfl,I⟩
theorem adz (I:U W w (fo W M p cf i s::L)) :
   Calls Tryz.prog 56 #[pt M.mb,.agg (bV cf).toArray] w λe w'=>e=.returned (.bool true)∧U W w' (fo W M p cf i s::L):=by
 replace I:=fo.open I;obtain⟨m,⟨rfl,hI,hc⟩,I⟩:=I;exact (acC I hI hc).mono λe w' ⟨h1,h2⟩=>⟨h1,fo.close h2 hI (bf _) rfl hc⟩
end
end
section
def zQ (W:World)(p:Pr)(ad:Option Addr)(c:Nat):Prop:=(rows dQ p.ops).length=p.ops.length*4∧p.ops.length≤c∧(0<p.ops.length→∃ b off,ad=some ⟨b,off,none⟩∧b<W.heap.size∧Rd W b off (rows dQ p.ops))
def CU (W:World)(m3:List ga)(cf:Cf)(tb:List UInt8):Prop:=∀ r∈m3,r.gs=⟨cf.bg,cf.order,tb⟩∧aW W r.adT tb.length tb
section
variable {W w:World}{L:List SP}{n c cP cT i:Nat}{ad adP adT:Option Addr}{p:Pr}{tb:List UInt8}{cf:Cf}{gB:Bool}
theorem zQ.ro (h:zQ W p ad c)(I:U W w L):U W w (aA W p ad c::L):=I.V5 h.1 h.2.1 h.2.2
theorem Rd.lt {b off:Nat}{v:Value}{vs:List Value}(h:Rd w b off (v::vs)):b<w.heap.size:=by
 have h1:=h 0 v rfl;rcases gQ b w.heap.size with h2 | h2
 ·exact h2
 ·rw[World.cell?]at h1;simp[h2]at h1
theorem U.roW (I:U W w (aA W p ad c::L)):zQ w p ad c:=by
 obtain⟨h1,h2⟩:=I.ro ad;refine⟨h1,h2,λh0=>?_⟩;obtain⟨b,off,rfl,hr⟩:=I.rQ ad h0;refine⟨b,off,rfl,?_,hr⟩;cases hl:rows dQ p.ops with
 | nil=>rw[hl]at h1;simp at h1;omega
 | cons v vs=>rw[hl]at hr;exact hr.lt
theorem Pm (I:U W w L):∀ n:Nat,U W w (ah eZ (List.replicate n (none,0,[]))::L)
 | 0=>U.iY I
 | n+1=>U.v7 (f:=eZ) (x:=(none,0,[])) ((Pm I n).bN 102 3 none)
set_option maxHeartbeats 1000000 in
theorem adA (gb:nL (dC cf 0) p tb)(I:U W w L)(zR:zQ W p adP cP)(hn:tb.length=n)(a6:dk p)(aH:p.title.size≤1000000000)(dY:p.ops.length≤1000000000)(eM:tb.length≤1099511627776)(hT:∀ w',U W w' []→aW w' adT tb.length tb) :
   Calls Tryz.prog 30 #[.agg (bV cf).toArray,.agg (bP p adP cP).toArray,.slice adT n cT,.bool gB] w λr w'=>∃ (B:jI) (D:ot),r=.returned (pt D.wb)∧(D.mb=B.mb∧vF B.fx cf tb gB cf.n.toNat∧CU W D.m3 cf tb)∧U W w' (aN W B p 0 (gf p cf cf.n.toNat)::bC W D p (gf p cf cf.n.toNat)::L):=by
 have pV:=gb.1.1.1;unfold fB at pV;obtain⟨N,hN⟩:∃ N:Nat,(dC cf 0).n=N:=⟨(dC cf 0).n.toNat,by omega⟩;replace hN:cf.n=N:=hN;have hN2:2≤N∧N≤8:=by
  have h1:(dC cf 0).n=cf.n:=rfl;omega
 have hTW:aW W adT tb.length tb:=hT W (U.start W);rw[show cf.n.toNat=N from by omega];refine EN Tryz.func30 Tryz.ntmps30 rfl rfl λa E=>?_;refine BX 1 E I λb4 a w E I=>?_;change U W w (aa b4 28 (bV cf)::_) at I;refine BX 0 E I λb5 a w E I=>?_;change U W w (aa b5 45 (bP p adP cP)::_) at I;refine ST 3 E I (λa w E I=>?_);refine RN 0 E I λa E=>?_;change U W w (aa b4 28 (bV (dC cf 0))::_) at I;refine RN 5 E I λa E=>?_;replace I:=zR.ro I;refine bj 0 E I (OU (cf:=dC cf 0) gb I hn aH dY eM (λw' df=>hT _ df.nil)) λB a w E ⟨hB,I⟩=>?_;refine RN 5 E I λa E=>?_;rw[show (dC cf 0).n.toNat=N from by show cf.n.toNat=N;omega]at I hB;replace I:U W w (aN W B p 0 (gf p cf N)::aA W p adP cP::_):=I;replace I:=I.sub (M:=aN W B p 0 (gf p cf N)::aa b4 28 (bV (dC cf 0))::aa b5 45 (bP p adP cP)::L);refine RN 5 E I λa E=>?_;replace E:=E.aM 24;refine RN 3 E I λa E=>?_;replace E:=E.aM 27;refine RN 5 E I λa E=>?_;rw[show (dC cf 0).n=(N:Int) from hN]at E;refine rz E rfl I Tryz.underlying38 Ty.t70 rfl (by omega) (by omega) λug a w E I ho=>?_;clear ho;rw[Cd _ rfl]at I;refine BX 1 E I λjO a w E I=>?_;refine RN 1 E I λa E=>?_;replace I:=U.iY (f:=dd W p) (I.bN 34 1 none);refine RN 3 E I λa E=>?_;refine aQ (λμ a w=>∃ (i:Nat) (adL:Option Addr) (cL:Nat) (rs:List (ga×Pl)) (me:Int),(μ=N-i∧(i≤N∧rs.length=i)∧rs.map (·.2)=(List.range i).map (λi=>eA p (dC cf i))∧CU W (rs.map (·.1)) cf tb)∧Fr a 56 [(2,.slice adT n cT),(4,pt b4),(5,pt b5),(11,pt jO),(12,.int .i64 i)]∧U W w (aa jO 40 [pt B.mb,.slice adL i cL,.slice none 0 0,.slice (some ⟨ug,0,none⟩) N N]::Sl 34 1 adL i cL (rs.map dD)::ah (dd W p) rs::aa ug 70 (List.replicate N (.slice none 0 0))::aa b4 28 (bV { cf with me:=me })::aa b5 45 (bP p adP cP)::aN W B p 0 (gf p cf N)::L)) (N) (⟨0,none,0,[],0,⟨rfl,⟨by omega,rfl⟩,rfl,λr h=>by cases h⟩,E.ab [2,4,5,11,12],(show U W w (ah (dd W p) []::Sl 34 1 none 0 0 (([]:List (ga×Pl)).map dD)::aa jO 40 _::aa ug 70 _::aN W B p 0 (gf p cf N)::aa b4 28 (bV { cf with me:=0 })::_) from I).sub⟩) ?_;clear E I;rintro μ a w ⟨i,adL,cL,rs,me,⟨rfl,⟨hi,gq⟩,e5,kg⟩,E,I⟩;refine RN 5 E I λa E=>?_;rw[hN]at E;refine IF 1 E I (λao a E=>?_) λao a E=>?_
 ·
  have aF:i<N:=by omega
  have HL:=OS (i:=i) gb (by show (i:Int)<(dC cf 0).n;rw[show (dC cf 0).n=(N:Int) from hN];omega);refine ST 4 E I (λa w E I=>?_);refine RN 0 E I λa E=>?_;replace I:U W w (aa b4 28 (bV (dC cf i))::_):=I;refine aX 0 (λw0 w'=>Rd w' jO 0 [pt B.mb,.slice adL i cL,.slice none 0 0,.slice (some ⟨ug,0,none⟩) N N]∧Rd w' b4 0 (bV (dC cf i))∧Rd w' b5 0 (bP p adP cP)) [5,6,8,9] [0,1,2,3,7,3004,3005,1006,1008,1009,1010,11,12,1013] E I λa w E I hH=>?_;have hC:=hH.at w ⟨I.ai (b:=jO),I.ai (b:=b4),I.ai (b:=b5)⟩;refine RH 5 E I hH hC λa E=>?_;refine QH E (λw hc=>ae E (hc.1 1 _ rfl)) hC λa E=>?_;refine QH E (λw hc=>bT E Tryz.underlying28 rfl Ty.t28 (hc.2.1)) hC λa E=>?_;refine RH 0 E I hH hC λa E=>?_;refine SS E (bT E Tryz.underlying45 rfl Ty.t45 (hC.2.2)) λa E=>?_;replace I:=zR.ro I;refine RH 0 E I hH hC λa E=>?_;refine bj 0 E I (acn (cf:=dC cf i) HL.1 I hn a6 aH) λr a w E ⟨hr,I⟩=>?_;replace hC:=hH.at w ⟨I.ai (b:=jO),I.ai (b:=b4),I.ai (b:=b5)⟩;refine RH 0 E I hH hC λa E=>?_;refine cr E rfl I Tryz.underlying36 Ty.t34 rfl rfl rfl rfl (by decide) (by decide) λR8 a w E I ho=>?_;clear ho;replace hC:=hH.at w ⟨I.ai (b:=jO),I.ai (b:=b4),I.ai (b:=b5)⟩;refine RH 0 E I hH hC λa E=>?_;refine cQ E rfl I Tryz.underlying36 Ty.t34 rfl rfl I.ai rfl (by simp[Value.oneCell']) (by decide) (by decide) (by omega) λr7 r8 a w E I=>?_;rw[show List.map dD rs++_=(rs++[((r:ga),eA p (dC cf i))]).map dD from by rw[cW];rfl]at I;refine ST 2 E I (λa w E I=>?_);refine RN 3 E I λa E=>?_;have kO:U W w (dd W p (r,eA p (dC cf i))::_):=(I.pick (ah (dd W p) rs)).pick (b0 W r p (eA p (dC cf i)));have hA:=U.j0 (f:=dd W p) (x:=(r,eA p (dC cf i))) kO;refine⟨N-(i+1),by omega,i+1,r7,r8,rs++[(r,eA p (dC cf i))],i,⟨rfl,⟨by omega,by rw[aI,gq];rfl⟩,?_,?_⟩,E.ab [2,4,5,11,12],?_⟩
  ·rw[cW,e5,range_succ,cW];rfl
  ·intro x hx;rw[cW]at hx;rcases eS.1 hx with hx | hx
   ·exact kg x hx
   ·rw[iH.1 hx,hr.2];exact⟨hr.1,hTW⟩
  ·rw[show ({ cf with me:=(i:Int) }:Cf)=dC cf i from rfl];exact hA.sub
 obtain rfl:i=N:=by omega
 refine RT 3 E I ?_;have h1:=I.jX ug;rw[show List.replicate i (Value.slice none 0 0)=[]++(List.replicate i ((none,0,[]):ku)).map bx++[] from by rw[nil_append,append_nil,map_replicate];rfl]at h1;have h2:=Pm (U.iX (n:=i) (c:=i) (sz:=1) h1 (by rw[a8,kH,fU]) (bf _) (by simp)) i;simp only[length_nil]at h2;have h3:=cg.nil (e:=60) h2;refine⟨B,⟨jO,B.mb,rs.map (·.1)⟩,rfl,⟨rfl,hB,kg⟩,?_⟩;have h4:U W w (bC W ⟨jO,B.mb,rs.map (·.1)⟩ p (gf p cf i)::aN W B p 0 (gf p cf i)::L):=by
  refine bC.close (adP:=adL) (cP:=cL) (adN:=none) (cN:=0) (adE:=some ⟨ug,0,none⟩) (cE:=i) (xs:=rs) (es:=List.replicate i (none,0,[])) ?_ rfl e5 (by rw[map_replicate];rfl);rw[gq,kH];exact h3.sub (M:=aa jO 40 [pt B.mb,.slice adL i cL,.slice none 0 0,.slice (some ⟨ug,0,none⟩) i i]::Sl 34 1 adL i cL (rs.map dD)::ah (dd W p) rs::cg 60 none 0 0 []::Sl 70 1 (some ⟨ug,0,none⟩) i i ((List.replicate i ((none,0,[]):ku)).map bx)::ah eZ (List.replicate i (none,0,[]))::aN W B p 0 (gf p cf i)::L)
 exact h4.sub
end
end
section
abbrev ou:=(ga×Pl)×(m1×List ec)
def kv (W:World)(p:Pr)(y:ou):SP:=λh=>bk y.2.2=y.1.2.k.ls∧cn [aa y.1.1.pb 51 (eY p y.1.1 y.1.2.g),aa y.1.1.core.cb 72 (cX y.1.2.k y.1.1.core y.2.1),Sl 65 1 (some ⟨y.1.1.core.lb,y.1.1.core.lo,none⟩) y.1.2.k.ls.length y.1.1.core.cL (y.2.2.map aL),ah a7 y.2.2,
 aa y.1.1.core.hb 3 (fc y.1.2.k.ps),aa y.1.1.core.dX 3 (eX y.1.2.k.ps),aa y.1.1.core.wb 313 (rows ff y.1.2.k.ps),aa y.1.1.core.xb 4 (fe y.1.2.k.ps),Sl 100 1 y.2.1.ck y.1.2.k.mr.length y.2.1.cM (c3 y.1.2.k.mr),Sl 102 3 y.2.1.adE y.1.2.k.ev.length y.2.1.cE (rows bW y.1.2.k.ev),aA W p y.1.1.aq y.1.1.cO] h
structure xL (w:World)(p:Pr)(y:ou):Prop where
 pb:Rd w y.1.1.pb 0 (eY p y.1.1 y.1.2.g)
 cb:Rd w y.1.1.core.cb 0 (cX y.1.2.k y.1.1.core y.2.1)
 ls:iK w (some ⟨y.1.1.core.lb,y.1.1.core.lo,none⟩) y.2.2
 eq:bk y.2.2=y.1.2.k.ls
 mr:0<y.1.2.k.mr.length→∃ b o,y.2.1.ck=some ⟨b,o,none⟩∧Rd w b o (c3 y.1.2.k.mr)
section
variable {W w:World}{L:List SP}{n i:Nat}{p:Pr}{xs:List (ga×Pl)}{ys:List ou}{y:ou}{k:Ks}{C:oj}{A:m1}{xl:List ec}
theorem adB {x:ga×Pl}(I:U W w (dd W p x::L)):∃ z,U W w (kv W p (x,z)::L):=by
 replace I:U W w (b0 W x.1 p x.2::L):=I;obtain⟨A,I⟩:=aZ.open ((b0.open I).pick (aZ x.1.core x.2.k));obtain⟨xl,ca,I⟩:=bM.open (I.pick (bM x.1.core.lb x.1.core.lo x.1.core.cL x.2.k.ls));refine⟨(A,xl),U.shut (M:=[_,_,_,_,_,_,_,_,_,_,_]) (I.sub (M:=aa x.1.pb 51 (eY p x.1 x.2.g)::aa x.1.core.cb 72 (cX x.2.k x.1.core A)::Sl 65 1 (some ⟨x.1.core.lb,x.1.core.lo,none⟩) x.2.k.ls.length x.1.core.cL (xl.map aL)::ah a7 xl::aa x.1.core.hb 3 (fc x.2.k.ps)::aa x.1.core.dX 3 (eX x.2.k.ps)::aa x.1.core.wb 313 (rows ff x.2.k.ps)::aa x.1.core.xb 4 (fe x.2.k.ps)::Sl 100 1 A.ck x.2.k.mr.length A.cM (c3 x.2.k.mr)::Sl 102 3 A.adE x.2.k.ev.length A.cE (rows bW x.2.k.ev)::aA W p x.1.aq x.1.cO::L)) λ_ h=>⟨ca,h⟩⟩
theorem kv.open (I:U W w (kv W p y::L)):bk y.2.2=y.1.2.k.ls∧U W w (aa y.1.1.pb 51 (eY p y.1.1 y.1.2.g)::aa y.1.1.core.cb 72 (cX y.1.2.k y.1.1.core y.2.1)::Sl 65 1 (some ⟨y.1.1.core.lb,y.1.1.core.lo,none⟩) y.1.2.k.ls.length y.1.1.core.cL (y.2.2.map aL)::ah a7 y.2.2 ::
 aa y.1.1.core.hb 3 (fc y.1.2.k.ps)::aa y.1.1.core.dX 3 (eX y.1.2.k.ps)::aa y.1.1.core.wb 313 (rows ff y.1.2.k.ps)::aa y.1.1.core.xb 4 (fe y.1.2.k.ps)::Sl 100 1 y.2.1.ck y.1.2.k.mr.length y.2.1.cM (c3 y.1.2.k.mr)::Sl 102 3 y.2.1.adE y.1.2.k.ev.length y.2.1.cE (rows bW y.1.2.k.ev)::aA W p y.1.1.aq y.1.1.cO::L) :=
 ⟨I.tell λ_ h=>h.1,I.open (M:=[_,_,_,_,_,_,_,_,_,_,_]) λ_ h=>h.2⟩
theorem adC (I:U W w (kv W p y::L)):U W w (dd W p y.1::L):=by
 obtain⟨ca,I⟩:=kv.open I;replace I:=bM.close ((I.pick (ah a7 y.2.2)).pick (Sl 65 1 (some ⟨y.1.1.core.lb,y.1.1.core.lo,none⟩) y.1.2.k.ls.length y.1.1.core.cL (y.2.2.map aL))) ca;replace I:=aZ.fold I y.1.1.core y.1.2.k y.2.1;exact b0.fold I y.1.1 p y.1.2
theorem CV:∀ {xs:List (ga×Pl)} {L:List SP},U W w (ah (dd W p) xs::L)→∃ ys:List ou,ys.map (·.1)=xs∧U W w (ah (kv W p) ys::L)
 | [],_,I=>⟨[],rfl,U.iY I.tail⟩
 | x::xs,L,I=>by
  have h1:U W w (dd W p x::ah (dd W p) xs::L):=U.fy (l:=x::xs) (i:=0) I (by simp);obtain⟨z,h2⟩:=adB h1;obtain⟨ys,h3,h4⟩:=CV (h2.pick (ah (dd W p) xs));exact⟨(x,z)::ys,by rw[map_cons,h3],U.v7 (h4.pick (kv W p (x,z)))⟩
theorem CW:∀ {ys:List ou} {L:List SP},U W w (ah (kv W p) ys::L)→U W w (ah (dd W p) (ys.map (·.1))::L)
 | [],_,I=>U.iY I.tail
 | y::ys,L,I=>by
  have h1:U W w (kv W p y::ah (kv W p) ys::L):=U.fy (l:=y::ys) (i:=0) I (by simp);have h2:=CW ((adC h1).pick (ah (kv W p) ys));exact U.v7 (h2.pick (dd W p y.1))
theorem CX (I:U W w (ah (kv W p) ys::L))(hy:ys[i]?=some y):xL w p y:=by
 obtain⟨hi,h1⟩:=a2.1 hy;replace I:=I.fy hi;rw[h1]at I;obtain⟨h2,I⟩:=kv.open I;refine⟨I.ai (b:=y.1.1.pb),I.ai (b:=y.1.1.core.cb),?_,h2,λh0=>?_⟩
 ·exact U.pg ((I.pick (ah a7 y.2.2)).pick (Sl 65 1 (some ⟨y.1.1.core.lb,y.1.1.core.lo,none⟩) y.1.2.k.ls.length y.1.1.core.cL (y.2.2.map aL)))
 ·exact (I.pick (Sl 100 1 y.2.1.ck y.1.2.k.mr.length y.2.1.cM (c3 y.1.2.k.mr))).bU y.2.1.ck h0
theorem Pn (I:U W w L)(hk:WC k)(ca:bk xl=k.ls)(hp:∀ w',U W w' L→Rd w' C.cb 0 (cX k C A)∧iK w' (some ⟨C.lb,C.lo,none⟩) xl) :
   Calls Tryz.prog 19 #[pt C.cb] w λr w'=>r=.returned (.int .i64 (aw k))∧U W w' L:=by
 have hn:=hk.n;have fb:=hk.ls;have hs:k.ls.length=xl.length:=by rw[← ca,fZ]
 refine EN Tryz.func19 Tryz.ntmps19 rfl rfl λa E=>?_;refine RN 6 E I λa E=>?_;refine SS E (ae E ((hp _ I).1 10 _ rfl)) λa E=>?_;rw[hs]at E;refine CL 0 E I (B5 (xs:=xl) I (by omega) (by omega) (λw' hw=>(hp w' hw).2)) λa w E I=>?_;rw[ca]at E;refine RT 1 E I ?_;exact⟨rfl,I⟩
end
end
section
section
variable {W w:World}{L:List SP}{c i:Nat}{p:Pr}{v:Wd}{B:jI}{D:ot}{t:fN}{cf:Cf}{tb:List UInt8}{gB:Bool}
instance fP.isNil (z:fP):uj z.mul (!z.zN):=⟨by
 cases z with
 | mu M=>exact .inr ⟨⟨_,rfl⟩,rfl⟩
 | pl B=>exact .inl ⟨rfl,rfl⟩⟩
theorem fP.adD {z:fP}(h:z.zN=true):∃ M,z=.mu M:=by
 cases z with
 | mu M=>exact⟨M,rfl⟩
 | pl B=>cases h
theorem adF {adL adE iF:Option Addr}{cL cE iG:Nat}{xs:List (fF×Pl)}{es:List ku}{l:List km}(I:U W w (aa B.mb 107 [.slice adL xs.length cL,pt B.q,.slice adE es.length cE]::Sl 81 1 adL xs.length cL (xs.map cF)::Sl 90 1 adE es.length cE (es.map bx)::ah eD es::L))(hi:i<xs.length)(lA:es[i]?=some (iF,iG,l))(hl:l.length≤1000000000) :
   Calls Tryz.prog 34 #[pt B.mb,.int .i64 i] w λe w'=>∃ ad c',e=.returned (.slice ad l.length c')∧U W w' (Sl 135 1 ad l.length c' (l.map cA)::aa B.mb 107 [.slice adL xs.length cL,pt B.q,.slice adE es.length cE]::Sl 81 1 adL xs.length cL (xs.map cF)::Sl 90 1 adE es.length cE (es.map bx)::ah eD es::L):=by
 obtain⟨xH,pv⟩:=a2.1 lA;refine EN Tryz.func34 Tryz.ntmps34 rfl rfl λa E=>?_;refine CL 6 E I (sB I hi) λa w E I=>?_;refine RN 1 E I λa E=>?_;replace E:=E.aM 8;refine RN 2 E I λa E=>?_;obtain⟨iT,oE,rfl,gq⟩:=(I.pick (Sl 90 1 adE es.length cE (es.map bx))).bU adE (by omega);have mf:=gq i (.slice iF l.length iG) (by rw[bn,lA];rfl);refine RN 6 E I λa E=>?_;refine SS E (ae E (mf)) λa E=>?_;replace I:=(I.pick (ah eD es)).fy xH;rw[pv]at I;change U W w (Sl 135 1 iF l.length iG (l.map cA)::_) at I;refine aY 0 E I (Ow I hl) λad2 c2 a w E I=>?_;refine RT 1 E I ?_;refine⟨ad2,c2,rfl,?_⟩;have h4:=(I.pick (ah eD (es.eraseIdx i))).pick (Sl 135 1 iF l.length iG (l.map cA));have h5:U W w (ah eD es::_):=U.xz (f:=eD) xH (by rw[pv];exact h4);exact h5.sub
theorem HX {xs:List (fF×Pl)}{x:fF}{s:Pl}(I:U W w (x.J W p c s::ah (cB W p c) (xs.eraseIdx i)::L))(hx:xs[i]?=some (x,s)):U W w (ah (cB W p c) xs::L):=by
 obtain⟨hi,h1⟩:=a2.1 hx;refine U.xz hi ?_;rw[h1];exact I
set_option maxHeartbeats 2000000 in
theorem adG (I:U W w (aN W B p c v::bC W D p v::L))(xI:D.mb=B.mb)(hB:B.Ok p c)(hv:bL p cf c v)(hP:vF B.fx cf tb gB v.ps.length)(qi:CU W D.m3 cf tb)(fE:cY ⟨cf.bg,cf.order,tb⟩)(kc:9*c+100≤1000000000) :
   Calls Tryz.prog 33 #[pt D.wb] w λe w'=>e=.returned (.bool true)∧U W w' (aN W B p c v::bC W D p v::L):=by
 replace I:=aN.xC I;obtain⟨adL,cL,adE,cE,xs,es,⟨ew,dj,eN⟩,I⟩:=I;replace I:=bC.open (I.pick (bC W D p v));obtain⟨adP,cP,adN,cN,gC,gl,rs,fs,⟨g6,jg,mv⟩,I⟩:=I;rw[xI]at I;obtain⟨ys,mw,jl,I⟩:=cg.open (I.pick (cg 60 adN v.net.length cN v.net));have ca:xs.length=v.ps.length:=by rw[← dj,a8]
 have gq:rs.length=v.ps.length:=by rw[← jg,a8]
 have lB:ys.length=v.net.length:=by rw[← mw,a8]
 have np:=hv.net.1;have adf:es.length=v.ps.length:=by rw[← hv.ev,← eN,a8]
 have agi:fs.length=v.ps.length:=by rw[← hv.ev,← mv,a8]
 have OE:=hv.ev;have xt:=hv.len;replace I:U W w (aa B.mb 107 [.slice adL xs.length cL,pt B.q,.slice adE es.length cE]::Sl 81 1 adL xs.length cL (xs.map cF)::ah (cB W p c) xs::bK B.q (v.net.map cU)::Sl 90 1 adE es.length cE (es.map bx)::ah eD es::aa D.wb 40 [pt B.mb,.slice adP rs.length cP,.slice adN v.net.length cN,.slice gC fs.length gl]::Sl 34 1 adP rs.length cP (rs.map dD)::ah (dd W p) rs::Sl 60 3 adN v.net.length cN (rows b7 ys)::ah cc ys::Sl 70 1 gC fs.length gl (fs.map bx)::ah eZ fs::L):=I.sub;refine EN Tryz.func33 Tryz.ntmps33 rfl rfl λa E=>?_;refine aX 4 (λw0 w'=>Rd w' D.wb 0 [pt B.mb,.slice adP rs.length cP,.slice adN v.net.length cN,.slice gC fs.length gl]) [4,5,9,10] [0,1,2,6,7,8,3003,3009,3010,1004,1005,11] E I λa w E I hH=>?_;have hC:=hH.at w (I.ai (b:=D.wb));refine RH 6 E I hH hC λa E=>?_;refine QH E (λw hc=>ae E (hc 0 _ rfl)) hC λa E=>?_;refine QH E (λw hc=>ae E (hc 2 _ rfl)) hC λa E=>?_;refine RH 1 E I hH hC λa E=>?_;refine CL 0 E I (Cv (I.pick (aa B.mb 107 [.slice adL xs.length cL,pt B.q,.slice adE es.length cE]))) λa w E I=>?_;replace hC:=hH.at w (I.ai (b:=D.wb));refine RH 0 E I hH hC λa E=>?_;refine CL 0 E I (N8 (I.pick (bK B.q (v.net.map cU)))) λa w E I=>?_;replace hC:=hH.at w (I.ai (b:=D.wb));rw[a8]at E;refine RH 1 E I hH hC λa E=>?_;rw[bo (by simp)]at E;refine RN 4 E I λa E=>?_;refine aQ (λμ a w=>∃ (i:Nat),(μ=v.net.length-i∧i≤v.net.length)∧Fr a 150 [(0,pt D.wb),(3,.int .i64 i)]∧U W w (aa B.mb 107 [.slice adL xs.length cL,pt B.q,.slice adE es.length cE]::Sl 81 1 adL xs.length cL (xs.map cF)::ah (cB W p c) xs::bK B.q (v.net.map cU)::Sl 90 1 adE es.length cE (es.map bx)::ah eD es::aa D.wb 40 [pt B.mb,.slice adP rs.length cP,.slice adN v.net.length cN,.slice gC fs.length gl]::Sl 34 1 adP rs.length cP (rs.map dD)::ah (dd W p) rs::Sl 60 3 adN v.net.length cN (rows b7 ys)::ah cc ys::Sl 70 1 gC fs.length gl (fs.map bx)::ah eZ fs::L)) (v.net.length) (⟨0,⟨rfl,by omega⟩,E.ab [0,3],I.sub⟩) ?_;clear E I;rintro μ a w ⟨i,⟨rfl,hi⟩,E,I⟩;refine IF 9 E I (λao a E=>?_) λao a E=>?_
 ·
  have aF:i<v.net.length:=by omega
  obtain⟨y,hy,HY⟩:∃ y,ys[i]?=some y∧v.net[i]?=some y.2.2:=by
   refine⟨_,aD (by omega),?_⟩;rw[← mw,bn,aD (by omega)];rfl
  obtain⟨bB,on,rfl,_⟩:=(I.pick (Sl 60 3 adN v.net.length cN (rows b7 ys))).bU adN (by omega);refine CL 6 E I (Cv (I.pick (aa B.mb 107 [.slice adL xs.length cL,pt B.q,.slice adE es.length cE]))) λa w E I=>?_;refine aY 1 E I (HB (I.pick (bK B.q (v.net.map cU))) HY) λam jJ a w E I=>?_;refine AL 3 E I λb4 a w E I=>?_;refine SA 0 E I λa w E I=>?_;refine aX 2 (λw0 w'=>(Rd w' b4 0 [.int .i64 y.2.2.1,.int .i64 y.2.2.2.1,.slice am y.2.2.2.2.length jJ]∧Rd w' D.wb 0 [pt B.mb,.slice adP rs.length cP,.slice (some ⟨bB,on,none⟩) v.net.length cN,.slice gC fs.length gl])∧Rd w' bB (on+i*3) (b7 y)∧aW w' am y.2.2.2.2.length y.2.2.2.2∧aW w' y.1 y.2.2.2.2.length y.2.2.2.2) [8,10,11,12,21,23,24,25,35,37,38,39,40] [0,1,2,3,5,6,7,9,3004,1008,1010,1011,1012,13,14,15,16,18,19,20,22,3017,1021,1023,1024,1025,26,27,28,29,32,33,34,36,3030,3031,1035,1037,1038,1039,1040,41,42] E I λa w E I hH=>?_;have hC:=hH.at w ⟨⟨I.ai (b:=b4),I.ai (b:=D.wb)⟩,jk oc (I.cK bB on (by omega)) hy,I.cv am _ rfl rfl,HO (I.pick (ah cc ys)) hy⟩;refine RH 3 E I hH hC λa E=>?_;replace E:=E.aM 41;refine RH 5 E I hH hC λa E=>?_;refine QH E (λw hc=>ae E (hc.1.1 0 _ rfl)) hC λa E=>?_;refine RH 0 E I hH hC λa E=>?_;refine bm E (bQ E rfl (s:=41)) (ae E (hC.1.2 2 _ rfl)) rfl λa E=>?_;refine RH 2 E I hH hC λa E=>?_;refine bm E (bQ E rfl (s:=41)) (ae E (hC.2.1 0 _ rfl)) rfl λa E=>?_;refine RH 3 E I hH hC λa E=>?_;rw[bo (by omega)]at E;refine RH 5 E I hH hC λa E=>?_;refine QH E (λw hc=>ae E (hc.1.1 1 _ rfl)) hC λa E=>?_;refine RH 0 E I hH hC λa E=>?_;refine bm E (bQ E rfl (s:=54)) (ae E (hC.1.2 2 _ rfl)) rfl λa E=>?_;refine RH 2 E I hH hC λa E=>?_;refine bm E (bQ E rfl (s:=54)) (ae E (hC.2.1 1 _ rfl)) rfl λa E=>?_;refine RH 3 E I hH hC λa E=>?_;rw[bo (by omega)]at E;refine RH 5 E I hH hC λa E=>?_;refine QH E (λw hc=>ae E (hc.1.1 2 _ rfl)) hC λa E=>?_;refine QH E (λw hc=>lK E Tryz.underlying22 Tryz.underlying5 Tryz.underlying9 (hc.2.2.1)) hC λa E=>?_;refine RH 0 E I hH hC λa E=>?_;refine bm E (bQ E rfl (s:=67)) (ae E (hC.1.2 2 _ rfl)) rfl λa E=>?_;refine RH 2 E I hH hC λa E=>?_;refine bm E (bQ E rfl (s:=67)) (ae E (hC.2.1 2 _ rfl)) rfl λa E=>?_;refine RH 0 E I hH hC λa E=>?_;refine bm E (bQ E rfl (s:=67)) (lK E Tryz.underlying22 Tryz.underlying5 Tryz.underlying9 (hC.2.2.2)) rfl λa E=>?_;refine RH 0 E I hH hC λa E=>?_;refine QP E (λw=>KM E) λa E=>?_;rw[qF,beq_self_eq_true,Bool.not_true]at E;refine RH 1 E I hH hC λa E=>?_;replace E:=E.aM 81;refine RN 4 E I λa E=>?_;exact⟨v.net.length-(i+1),by omega,i+1,⟨rfl,by omega⟩,E.ab [0,3],I.sub⟩
 refine RN 3 E I λa E=>?_;refine aQ (λμ a w=>∃ (i:Nat),(μ=v.ps.length-i∧i≤v.ps.length)∧Fr a 150 [(0,pt D.wb),(6,.int .i64 i)]∧U W w (aa B.mb 107 [.slice adL xs.length cL,pt B.q,.slice adE es.length cE]::Sl 81 1 adL xs.length cL (xs.map cF)::ah (cB W p c) xs::bK B.q (v.net.map cU)::Sl 90 1 adE es.length cE (es.map bx)::ah eD es::aa D.wb 40 [pt B.mb,.slice adP rs.length cP,.slice adN v.net.length cN,.slice gC fs.length gl]::Sl 34 1 adP rs.length cP (rs.map dD)::ah (dd W p) rs::Sl 60 3 adN v.net.length cN (rows b7 ys)::ah cc ys::Sl 70 1 gC fs.length gl (fs.map bx)::ah eZ fs::L)) (v.ps.length) (⟨0,⟨rfl,by omega⟩,E.ab [0,6],I.sub⟩) ?_;clear E I;rintro μ a w ⟨i,⟨rfl,hi⟩,E,I⟩;refine IF 9 E I (λbd a E=>?_) λbd a E=>?_
 ·
  have aF:i<v.ps.length:=by omega
  obtain⟨x,hx,pq⟩:∃ x,xs[i]?=some (x,an v i)∧B.fx[i]?=some x:=HD ew dj (by omega);obtain⟨_,g5⟩:=a2.1 hx;obtain⟨r,hr⟩:∃ r,rs[i]?=some (r,an v i):=CH jg (by omega);have uc:(rs.map dD)[i]?=some (pt r.pb):=by rw[bn,hr];rfl
  have lY:r∈D.m3:=by rw[← g6];exact cR.2 ⟨_,bH hr,rfl⟩
  obtain⟨HZ,EW⟩:=qi r lY;have hxG:=hP.2 x (bH pq);have hM:=x.q0 (W:=W) (p:=p) hB.pr hB.sz (hB.gs x (bH pq));obtain⟨hw,dc,xB⟩:=hv.pl i aF;have jQ:=hB.c;obtain⟨iF,iG,l,lA⟩:∃ iF iG l,es[i]?=some (iF,iG,l):=⟨_,_,_,aD (by omega)⟩;obtain⟨xH,pv⟩:=a2.1 lA;have qZ:v.ev.getD i []=l:=by rw[← eN,bl,bn,lA];rfl
  obtain⟨zS,zT,o3⟩:∃ zS zT,fs[i]?=some (zS,zT,l):=by
   have h1:(fs.map (·.2.2))[i]?=some l:=by rw[mv,← qZ,bl,aD (by omega)];rfl
   rw[bn,aD (by omega)]at h1;refine⟨fs[i].1,fs[i].2.1,?_⟩;rw[aD (by omega),← p0 h1]
  obtain⟨xg,Po⟩:=a2.1 o3;obtain⟨hs,hlo⟩:=hv.kT l (by rw[← qZ];exact Cr (by omega));have ic:l.length≤1000000000:=by omega
  obtain⟨bp,op,rfl,_⟩:=(I.pick (Sl 34 1 adP rs.length cP (rs.map dD))).bU adP (by omega);obtain⟨jr,oF,rfl,_⟩:=(I.pick (Sl 70 1 gC fs.length gl (fs.map bx))).bU gC (by omega);refine aX 3 (λw0 w'=>(Rd w' D.wb 0 [pt B.mb,.slice (some ⟨bp,op,none⟩) rs.length cP,.slice adN v.net.length cN,.slice (some ⟨jr,oF,none⟩) fs.length gl]∧Rd w' bp op (rs.map dD))∧Rd w' jr oF (fs.map bx)) [5,9,11,12,21,22,26,28,29] [0,1,2,4,6,7,8,10,3003,3009,3011,3012,1005,1013,14,15,16,17,18,20,23,24,25,27,3019,3026,3028,3029,1021,1022,1030,31,32] E I λa w E I hH=>?_;have hC:=hH.at w ⟨⟨I.ai (b:=D.wb),I.cK bp op (by omega)⟩,I.cK jr oF (by omega)⟩;refine RH 8 E I hH hC λa E=>?_;refine QH E (λw hc=>ae E (hc.1.1 0 _ rfl)) hC λa E=>?_;refine QH E (λw hc=>ae E (hc.1.1 1 _ rfl)) hC λa E=>?_;refine RH 1 E I hH hC λa E=>?_;refine QH E (λw hc=>ae E (hc.1.2 i _ uc)) hC λa E=>?_;refine RH 0 E I hH hC λa E=>?_;refine CL 0 E I (sB ((I.pick (Sl 81 1 adL xs.length cL (xs.map cF))).pick (aa B.mb 107 [.slice adL xs.length cL,pt B.q,.slice adE es.length cE])) (by omega)) λa w E I=>?_;replace hC:=hH.at w ⟨⟨I.ai (b:=D.wb),I.cK bp op (by omega)⟩,I.cK jr oF (by omega)⟩;rw[show cF xs[i]=.iface x.z.t (.pointer (some x.z.ad)) from by rw[g5]]at E;replace I:=CI (I.pick (ah (dd W p) rs)) hr;replace I:=Cz (I.pick (ah (cB W p c) xs)) hx;refine RH 0 E I hH hC λa E=>?_;refine CL 0 E I (abP hM (by omega) ((I.pick (b0 W r p (an v i))).pick (x.J W p c (an v i))) hw hB.pr hB.sz (by rw[HZ];exact fE) (by rw[HZ,hxG.1]) (by rw[HZ];exact EW)) λa w E I=>?_;replace hC:=hH.at w ⟨⟨I.ai (b:=D.wb),I.cK bp op (by omega)⟩,I.cK jr oF (by omega)⟩;replace I:=HX ((I.pick (ah (cB W p c) (xs.eraseIdx i))).pick (x.J W p c (an v i))) hx;replace I:=CJ ((I.pick (ah (dd W p) (rs.eraseIdx i))).pick (b0 W r p (an v i))) hr;refine RH 2 E I hH hC λa E=>?_;replace E:=E.aM 106;refine RH 8 E I hH hC λa E=>?_;refine QH E (λw hc=>ae E (hc.1.1 0 _ rfl)) hC λa E=>?_;refine QH E (λw hc=>ae E (hc.1.1 3 _ rfl)) hC λa E=>?_;refine RH 1 E I hH hC λa E=>?_;refine QH E (λw hc=>ae E (hc.2 i (.slice zS l.length zT) (by rw[bn,o3];rfl))) hC λa E=>?_;replace I:=I.sub (M:=aa B.mb 107 [.slice adL xs.length cL,pt B.q,.slice adE es.length cE]::Sl 81 1 adL xs.length cL (xs.map cF)::Sl 90 1 adE es.length cE (es.map bx)::ah eD es::ah (dd W p) rs::ah (cB W p c) xs::bK B.q (v.net.map cU)::aa D.wb 40 [pt B.mb,.slice (some ⟨bp,op,none⟩) rs.length cP,.slice adN v.net.length cN,.slice (some ⟨jr,oF,none⟩) fs.length gl]::Sl 34 1 (some ⟨bp,op,none⟩) rs.length cP (rs.map dD)::Sl 60 3 adN v.net.length cN (rows b7 ys)::ah cc ys::Sl 70 1 (some ⟨jr,oF,none⟩) fs.length gl (fs.map bx)::ah eZ fs::L);refine RH 0 E I hH hC λa E=>?_;refine aY 0 E I (adF I (by omega) lA ic) λlT eu a w E I=>?_;replace hC:=hH.at w ⟨⟨I.ai (b:=D.wb),I.cK bp op (by omega)⟩,I.cK jr oF (by omega)⟩;refine RH 0 E I hH hC λa E=>?_;refine aY 0 E I (adx I ic hlo) λad2 c2 a w E I=>?_;replace hC:=hH.at w ⟨⟨I.ai (b:=D.wb),I.cK bp op (by omega)⟩,I.cK jr oF (by omega)⟩;replace I:=(I.pick (ah eZ fs)).fy xg;rw[Po]at I;change U W w (Sl 102 3 zS l.length zT (rows bW l)::_) at I;refine RH 0 E I hH hC λa E=>?_;refine CL 0 E I (ady (I.pick (Sl 102 3 ad2 l.length c2 (rows bW l))) ic) λa w E I=>?_;have vz:U W w (ah eZ fs::_):=U.xz (f:=eZ) xg (by rw[Po];exact ((I.pick (ah eZ (fs.eraseIdx i))).pick (Sl 102 3 zS l.length zT (rows bW l))));replace I:=vz;clear vz;refine RN 2 E I λa E=>?_;replace E:=E.aM 123;refine CL 7 E I (Hz ((I.pick (Sl 81 1 adL xs.length cL (xs.map cF))).pick (aa B.mb 107 [.slice adL xs.length cL,pt B.q,.slice adE es.length cE])) (by omega)) λa w E I=>?_;rw[show xs[i].1.z.mul=x.z.mul from by rw[g5]]at E;refine BY 5 E I (λbA a E=>?_) λbA a E=>?_
  ·
   obtain⟨M,Pp⟩:∃ M,x.z=.mu M:=fP.adD (by simpa using bA);have Pq:x.J W p c (an v i)=fo W M p x.cf c (an v i):=by unfold fF.J;rw[Pp]
   have adH:fl (an v i).k=x.cf:=by
    have h1:(B.fx.map (·.cf))[i]?=some x.cf:=by rw[bn,pq];rfl
    rw[hP.1,bn,getElem?_range aF]at h1;rw[dc];exact p0 h1
   replace I:=Cz (I.pick (ah (cB W p c) xs)) hx;rw[Pq]at I;obtain⟨zs,tO,I⟩:=CV (I.pick (ah (dd W p) rs));obtain⟨z,hz,xM⟩:∃ z,zs[i]?=some z∧z.1=(r,an v i):=by
    rw[← tO,bn]at hr;cases h1:zs[i]? with
    | none=>rw[h1]at hr;cases hr
    | some z=>rw[h1]at hr;exact⟨z,rfl,p0 hr⟩
   rw[show x.z.mul=pt M.mb from by rw[Pp];rfl]at E;refine RN 7 E I λa E=>?_;refine bm E (bQ E rfl (s:=132)) (ae E ((I.cK bp op (by omega)) i _ uc)) rfl λa E=>?_;refine RN 2 E I λa E=>?_;refine bm E (bQ E rfl (s:=132)) (ae E (by have h9:=(CX (I.pick (ah (kv W p) zs)) hz).pb 0 _ rfl;rw[xM]at h9;exact h9)) rfl λa E=>?_;refine RN 2 E I λa E=>?_;refine bm E (bQ E rfl (s:=132)) (bT E Tryz.underlying28 rfl Ty.t28 (by have h9:=((CX (I.pick (ah (kv W p) zs)) hz).cb).part 0 10;rw[xM]at h9;exact h9)) rfl λa E=>?_;rw[show List.take 10 (List.drop 0 (cX (r,an v i).2.k (r,an v i).1.core z.2.1))=bV x.cf from by rw[← adH];rfl]at E;refine CL 0 E I (adz (I.pick (fo W M p x.cf c (an v i)))) λa w E I=>?_;rw[← Pq]at I;have vz:=CW (I.pick (ah (kv W p) zs));rw[tO]at vz;replace I:=HX ((vz.pick (ah (cB W p c) (xs.eraseIdx i))).pick (x.J W p c (an v i))) hx;refine RN 2 E I λa E=>?_;replace E:=E.aM 149;refine RN 4 E I λa E=>?_;exact⟨v.ps.length-(i+1),by omega,i+1,⟨rfl,by omega⟩,E.ab [0,6],I.sub⟩
  refine RN 21 E I λa E=>?_;exact⟨v.ps.length-(i+1),by omega,i+1,⟨rfl,by omega⟩,E.ab [0,6],I.sub⟩
 refine RT 2 E I ?_;have h8:=cg.close (n:=v.net.length) (c:=cN) ((I.pick (ah cc ys)).pick (Sl 60 3 adN v.net.length cN (rows b7 ys))) mw rfl;rw[← xI]at h8;have h9:U W w (bC W D p v::_):=bC.close (h8.sub (M:=aa D.wb 40 [pt D.mb,.slice adP rs.length cP,.slice adN v.net.length cN,.slice gC fs.length gl]::Sl 34 1 adP rs.length cP (rs.map dD)::ah (dd W p) rs::cg 60 adN v.net.length cN v.net::Sl 70 1 gC fs.length gl (fs.map bx)::ah eZ fs::aa D.mb 107 [.slice adL xs.length cL,pt B.q,.slice adE es.length cE]::Sl 81 1 adL xs.length cL (xs.map cF)::ah (cB W p c) xs::bK B.q (v.net.map cU)::Sl 90 1 adE es.length cE (es.map bx)::ah eD es::L)) g6 jg mv;rw[xI]at h9;refine⟨rfl,aN.vB (adL:=adL) (cL:=cL) (adE:=adE) (cE:=cE) (xs:=xs) (es:=es) ?_ ew dj eN⟩;exact h9.sub
end
end
section
section
variable {W w:World}{L:List SP}{c i:Nat}{p:Pr}{v:Wd}{B:jI}{t:fN}{cf:Cf}
def m4:Cf:=⟨2,0,0,0,4,1,0,2,1,5⟩
theorem zU (I:U W w (aN W B p c v::L))(hB:B.Ok p (c+10))(hv:bL p cf c v)(kc:9*c+100≤1000000000)(hf:t.fn≠7) :
   Calls Tryz.prog 29 #[pt B.mb,.agg (dV t).toArray] w λe w'=>e=.returned (.int .i64 (bu p t v).1)∧U W w' (aN W B p (c+10) (bO p t v)::L) :=
 (OD I hB hv kc).mono λe w' ⟨z,h1,h2,_,I⟩=>⟨by rw[h1,h2 hf],by rw[bO,ag hf];exact I⟩
theorem Ps (hf:t.fn<1∨8<t.fn):bu p t v=(1,v):=by rw[bu,ak hf]
set_option maxHeartbeats 2000000 in
theorem adI (I:U W w L):Calls Tryz.prog 26 #[] w λe w'=>e=.returned (.bool true)∧U W w' L:=by
 have tX:eW m4:=by decide
 have gb:nL (dC m4 0) bZ []:=⟨tX,re,by decide⟩;refine EN Tryz.func26 Tryz.ntmps26 rfl rfl λa E=>?_;refine bj 4 E I (NS I) λadP a w E I=>?_;refine bj 0 E I (OU (cf:=m4) (tb:=[]) (adT:=none) (cT:=0) gb I rfl (by decide) (by decide) (by decide) (λw' h=>aW.nil)) λB a w E ⟨hP,I⟩=>?_;refine RN 5 E I λa E=>?_;have fE:∀ x∈B.fx,cY x.z.gs:=λx hx=>by rw[(hP.2 x hx).1];decide
 have L0:Lv bZ m4 (λ_=>0) (gf bZ m4 m4.n.toNat):=Lv.new tX;have xN:(gf bZ m4 m4.n.toNat).ps.length=2:=sG;have uO:(gf bZ m4 m4.n.toNat).net=[]:=rfl;have tE:∀ x y,x<2→y<2→bq (gf bZ m4 m4.n.toNat) x y=0:=λx y hx hy=>zP tX hx hy;have CY:=HP (p:=bZ) tX;generalize gf bZ m4 m4.n.toNat=v0 at I L0 xN uO tE CY;have WL:m4.br.toNat=4:=rfl;obtain⟨Pt,e1,wX,k1,z1⟩:=L0.al (i:=0) (by omega) 5 0;have k00:=tE 0 0 (by omega) (by omega);replace z1:=z1 (by omega);have o1:=CY.go (s:=⟨1,(0:Nat),5,0⟩);obtain⟨Pu,e2,tn,k2,z2⟩:=Pt.al (i:=1) (by omega) 6 0;have CZ:=tE 1 1 (by omega) (by omega);have Pv:=k1 1 1;rw[ag (by omega)]at Pv;replace z2:=z2 (by omega);have qG:=o1.go (s:=⟨1,(1:Nat),6,0⟩);obtain⟨Pw,e3,Px,k3,Py,z3⟩:=Pu.tick (i:=0) (by decide) (by omega) (by rw[e2,e1,uO,tn,wX,xN];decide) 0 0;have H0:=qG.go (s:=⟨2,(0:Nat),0,0⟩);have t3:nN (bO bZ ⟨1,(1:Nat),6,0⟩ (bO bZ ⟨1,(0:Nat),5,0⟩ v0)) 0=[(0,1,aS (dO (an (bO bZ ⟨1,(1:Nat),6,0⟩ (bO bZ ⟨1,(0:Nat),5,0⟩ v0)) 0).k 1))]:=by
  rw[nN,tn,wX,xN];rfl
 rw[e2,e1,uO,t3]at e3;obtain⟨L4,jt,Pz,lp,z4,_⟩:=Pw.send e3 0 0;have xO:=H0.go (s:=⟨3,0,0,0⟩);have h5:pw (0,1,aS (dO (an (bO bZ ⟨1,(1:Nat),6,0⟩ (bO bZ ⟨1,(0:Nat),5,0⟩ v0)) 0).k 1))=1:=by
  rw[Py _ (by rw[t3];exact gY),k2 0 0,ag (by omega),k1 0 0,ak (by omega),k00]
 have f4:aw (an (bO bZ ⟨3,0,0,0⟩ (bO bZ ⟨2,(0:Nat),0,0⟩ (bO bZ ⟨1,(1:Nat),6,0⟩ (bO bZ ⟨1,(0:Nat),5,0⟩ v0)))) 1).k=1:=by
  have ta:=lp 1 0;rw[ak ⟨rfl,rfl⟩,k3,k2,ag (by omega),k1,ag (by omega),tE 1 0 (by omega) (by omega),h5]at ta;have q1:=lp 1 1;rw[ag (by show ¬ ((1:Nat)=1∧(1:Nat)=0);omega),k3,k2,ak (by omega),Pv]at q1;refine L4.front (j:=0) (by omega) (λj hj=>?_) (by omega) (by rw[ta];rfl);have:j=0∨j=1:=by omega
  rcases this with rfl | rfl
  ·rw[ta];decide
  ·rw[q1];omega
 clear tE k1 k2 k3 lp t3 h5 Py;refine RN 2 E I λa E=>?_;obtain⟨adL,cL,adE,cE,xs,es,⟨ew,dj,eN⟩,I⟩:=aN.xC I;have ca:xs.length=2:=by rw[← xN,← dj,a8]
 have JJ:xs[1].1.z.zN=true:=(hP.2 _ (by rw[← ew];exact cR.2 ⟨xs[1],iZ _,rfl⟩)).2;refine RN 3 E I λa E=>?_;replace E:=E.aM 17;refine RN 4 E I λa E=>?_;replace E:=E.aM 21;refine CL 1 E I (sB (i:=0) ((I.pick (Sl 81 1 adL xs.length cL (xs.map cF))).pick (aa B.mb 107 [.slice adL xs.length cL,pt B.q,.slice adE es.length cE])) (by omega)) λa w E I=>?_;refine RN 3 E I λa E=>?_;replace E:=E.aM 26;refine CL 1 E I (Hz (i:=1) ((I.pick (Sl 81 1 adL xs.length cL (xs.map cF))).pick (aa B.mb 107 [.slice adL xs.length cL,pt B.q,.slice adE es.length cE])) (by omega)) λa w E I=>?_;refine RN 1 E I λa E=>?_;rw[JJ,Bool.not_true]at E;refine RN 2 E I λa E=>?_;replace E:=E.aM 31;refine CL 1 E I (Cv (I.pick (aa B.mb 107 [.slice adL xs.length cL,pt B.q,.slice adE es.length cE]))) λa w E I=>?_;refine RN 2 E I λa E=>?_;replace E:=E.aM 35;refine RN 2 E I λa E=>?_;replace I:=aN.vB (I.sub (M:=aa B.mb 107 [.slice adL xs.length cL,pt B.q,.slice adE es.length cE]::Sl 81 1 adL xs.length cL (xs.map cF)::ah (cB W bZ 0) xs::bK B.q (v0.net.map cU)::Sl 90 1 adE es.length cE (es.map bx)::ah eD es::L)) ew dj eN;refine CL 2 E I (zU (t:=⟨1,(0:Nat),5,0⟩) I ⟨re,by decide,fE,by decide⟩ CY (by decide) (by decide)) λa w E I=>?_;rw[z1]at E;refine CL 4 E I (zU (t:=⟨1,(1:Nat),6,0⟩) I ⟨re,by decide,fE,by decide⟩ (o1.more (by decide)) (by decide) (by decide)) λa w E I=>?_;rw[z2]at E;refine CL 4 E I (zU (t:=⟨2,(0:Nat),0,0⟩) I ⟨re,by decide,fE,by decide⟩ (qG.more (by decide)) (by decide) (by decide)) λa w E I=>?_;rw[z3]at E;refine CL 4 E I (zU (t:=⟨3,0,0,0⟩) I ⟨re,by decide,fE,by decide⟩ (H0.more (by decide)) (by decide) (by decide)) λa w E I=>?_;rw[z4]at E;have n5:=Pz.trans (Px.trans (tn.trans (wX.trans xN)));clear CY o1 qG H0 L0 Pt Pu Pw z1 z2 z3 z4 e1 e2 e3 xN wX tn Px Pz;generalize bO bZ ⟨3,0,0,0⟩ (bO bZ ⟨2,(0:Nat),0,0⟩ (bO bZ ⟨1,(1:Nat),6,0⟩ (bO bZ ⟨1,(0:Nat),5,0⟩ v0)))=v at I xO L4 f4 jt n5;refine RN 2 E I λa E=>?_;obtain⟨adL,cL,adE,cE,xs,es,⟨ew,dj,eN⟩,I⟩:=aN.xC I;have ca:xs.length=2:=by rw[← n5,← dj,a8]
 obtain⟨x,hx,pq⟩:∃ x,xs[1]?=some (x,an v 1)∧B.fx[1]?=some x:=HD ew dj (by omega);obtain⟨_,g5⟩:=a2.1 hx;have hM:=x.q0 (W:=W) (p:=bZ) re (by decide) (fE x (bH pq));have hw:=(xO.pl 1 (by omega)).1;refine CL 1 E I (sB (i:=1) ((I.pick (Sl 81 1 adL xs.length cL (xs.map cF))).pick (aa B.mb 107 [.slice adL xs.length cL,pt B.q,.slice adE es.length cE])) (by omega)) λa w E I=>?_;rw[show cF xs[1]=.iface x.z.t (.pointer (some x.z.ad)) from by rw[g5]]at E;replace I:=Cz (I.pick (ah (cB W bZ 40) xs)) hx;refine RN 0 E I λa E=>?_;refine jN E rfl hM.Cm hM.Cn rfl (hM.Co _ _ 40 (an v 1) (by decide) hw (I.pick (x.J W bZ 40 (an v 1)))) (by rfl) ?_;clear E I;rintro e w ⟨lT,eu,rfl,I⟩;refine⟨_,rfl,λa E=>?_⟩;refine RN 5 E I λa E=>?_;rw[show (lX (an v 1)).2=1 from f4]at E;replace I:=HX ((I.pick (ah (cB W bZ 40) (xs.eraseIdx 1))).pick (x.J W bZ 40 (an v 1))) hx;replace I:=aN.vB (I.sub (M:=aa B.mb 107 [.slice adL xs.length cL,pt B.q,.slice adE es.length cE]::Sl 81 1 adL xs.length cL (xs.map cF)::ah (cB W bZ 40) xs::bK B.q (v.net.map cU)::Sl 90 1 adE es.length cE (es.map bx)::ah eD es::L)) ew dj eN;refine RN 4 E I λa E=>?_;replace E:=E.ei 56;refine RN 4 E I λa E=>?_;replace E:=E.ei 60;refine RN 4 E I λa E=>?_;replace E:=E.ei 64;refine RN 4 E I λa E=>?_;replace E:=E.ei 68;refine RN 4 E I λa E=>?_;replace E:=E.ei 72;refine RN 1 E I λa E=>?_;obtain⟨adL,cL,adE,cE,xs,es,⟨ew,dj,eN⟩,I⟩:=aN.xC I;refine CL 0 E I (Cv (I.pick (aa B.mb 107 [.slice adL xs.length cL,pt B.q,.slice adE es.length cE]))) λa w E I=>?_;refine CL 0 E I (N8 (I.pick (bK B.q (v.net.map cU)))) λa w E I=>?_;rw[a8,jt]at E;replace I:=aN.vB (I.sub (M:=aa B.mb 107 [.slice adL xs.length cL,pt B.q,.slice adE es.length cE]::Sl 81 1 adL xs.length cL (xs.map cF)::ah (cB W bZ 40) xs::bK B.q (v.net.map cU)::Sl 90 1 adE es.length cE (es.map bx)::ah eD es::L)) ew dj eN;refine RN 3 E I λa E=>?_;replace E:=E.ei 78;refine CL 2 E I (zU (t:=⟨0,0,0,0⟩) I ⟨re,by decide,fE,by decide⟩ (xO.more (by decide)) (by decide) (by decide)) λa w E I=>?_;rw[Ps (.inl (by decide))]at E;rw[bO,ag (by decide),Ps (.inl (by decide)),L4.still]at I;refine RN 3 E I λa E=>?_;replace E:=E.ei 84;refine aY 1 E I (ade (i:=0) I (by omega) xO.ev (by rw[L4.ev _ (Cr (d:=[]) (by rw[xO.ev];omega))];decide)) λad2 c2 a w E I=>?_;rw[L4.ev _ (Cr (d:=[]) (by rw[xO.ev];omega))]at E;refine RT 4 E I ?_;exact⟨rfl,I.sub⟩
end
end
section
structure uh (W:World)(p:Pr)(B:jI)(D:ot)(cf:Cf)(tb:List UInt8)(gB:Bool):Prop where
 mb:D.mb=B.mb
 fx:vF B.fx cf tb gB cf.n.toNat
 m3:CU W D.m3 cf tb
 gs:cY ⟨cf.bg,cf.order,tb⟩
 pr:dk p
 sz:p.title.size≤1000000000
section
variable {W w:World}{L:List SP}{c:Nat}{p:Pr}{v:Wd}{B:jI}{D:ot}{t:fN}{cf:Cf}{tb:List UInt8}{gB:Bool}
theorem vF.gs {fx:List fF}{n:Nat}(h:vF fx cf tb gB n)(hg:cY ⟨cf.bg,cf.order,tb⟩):∀ x∈fx,cY x.z.gs:=λx hx=>by rw[(h.2 x hx).1];exact hg
theorem uh.ok (h:uh W p B D cf tb gB)(hc:c≤1000000):B.Ok p c:=⟨h.pr,h.sz,h.fx.gs h.gs,hc⟩
theorem adJ (I:U W w (aN W B p c v::bC W D p v::L))(hO:uh W p B D cf tb gB)(hv:bL p cf c v)(hc:c≤1000000) :
   Calls Tryz.prog 33 #[pt D.wb] w λe w'=>e=.returned (.bool true)∧U W w' (aN W B p c v::bC W D p v::L) :=
 adG I hO.mb (hO.ok hc) hv (by rw[hv.n];exact hO.fx) hO.m3 hO.gs (by omega)
theorem adK (I:U W w (aN W B p c v::bC W D p v::L))(hO:uh W p B D cf tb gB)(hv:bL p cf c v)(CR:qo v)(hc:c≤900000) :
   Calls Tryz.prog 32 #[pt D.wb,.agg (dV t).toArray] w λe w'=>e=.returned (.bool true)∧U W w' (aN W B p (c+10) (bO p t v)::bC W D p (bO p t v)::L) :=
 adj I hO.mb (hO.ok (by omega)) hv CR (by omega) λw u hu C0 I=>adJ I hO hu (by omega)
structure Wc (p:Pr)(cf:Cf)(c:Nat)(v:Wd):Prop where
 ok:bL p cf c v
 calm:qo v
theorem Wc.go (h:Wc p cf c v):Wc p cf (c+10) (bO p t v):=⟨h.ok.go.more (by omega),adi h.calm⟩
theorem Wc.new (h:eW cf):Wc p cf 0 (gf p cf cf.n.toNat):=⟨HP h,O6 h⟩
end
end
section
open Go.RowKit Go.ChangeShapes Go.WideShapes Go.ChangeAt
set_option linter.constructorNameAsVariable false
set_option maxRecDepth 100000
section
variable {W W' w:World}{L:List SP}
theorem adM {L:List SP}(hb:Below W.heap.size W W')(I:U W' w L):Below W.heap.size W w:=hb.trans (I.below.mono hb.size)
end
end
section
structure TK where
 tb:Nat
 n:Nat
 B:jI
 D:ot
abbrev sH (K:TK):List Value:=[pt K.D.wb,.int .i64 K.n,.bool true]
def TS (W:World)(K:TK)(p:Pr)(c:Nat)(v:Wd):SP:=λh=>cn [aa K.tb 33 (sH K),aN W K.B p c v,bC W K.D p v] h
abbrev nO (n:Nat):Cf:=⟨n,0,77,2,8,2,1,3,2,7⟩
section
variable {W w:World}{L:List SP}{c i n:Nat}{p:Pr}{v:Wd}{K:TK}{t:fN}{cf:Cf}{tb:List UInt8}{gB:Bool}
theorem TS.open (I:U W w (TS W K p c v::L)):U W w (aa K.tb 33 (sH K)::aN W K.B p c v::bC W K.D p v::L):=I.open (M:=[_,_,_]) λ_ h=>h
theorem TS.close (I:U W w (aa K.tb 33 (sH K)::aN W K.B p c v::bC W K.D p v::L)):U W w (TS W K p c v::L):=U.shut (M:=[_,_,_]) I λ_ h=>h
structure PA (w:World)(K:TK)(qP adO rk:Nat)(adP adN adE:Option Addr)(cP cN cE:Nat):Prop where
 t:Rd w K.tb 0 (sH K)
 d:Rd w K.D.wb 0 [pt K.D.mb,.slice adP qP cP,.slice adN adO cN,.slice adE rk cE]
theorem TS.rd (I:U W w (TS W K p c v::L)):∃ (qP rk:Nat) (adP adN adE:Option Addr) (cP cN cE:Nat),PA w K qP v.net.length rk adP adN adE cP cN cE:=by
 replace I:=TS.open I;have h1:=I.ai (b:=K.tb);obtain⟨adP,cP,adN,cN,adE,cE,xs,es,_,I⟩:=bC.open (I.pick (bC W K.D p v));exact⟨_,_,adP,adN,adE,cP,cN,cE,h1,I.ai (b:=K.D.wb)⟩
theorem adQ (I:U W w L):Calls Tryz.prog 39 #[] w λe w'=>e=.returned (.bool true)∧U W w' L:=by
 refine EN Tryz.func39 Tryz.ntmps39 rfl rfl λa E=>?_;refine CL 3 E I (adI I) λa w E I=>?_;refine RT 1 E I ?_;exact⟨rfl,I⟩
theorem adR (I:U W w L):Calls Tryz.prog 13 #[] w λe w'=>e=.returned (.bool true)∧U W w' L:=by
 refine EN Tryz.func13 Tryz.ntmps13 rfl rfl λa E=>?_;refine CL 3 E I (adQ I) λa w E I=>?_;refine RT 1 E I ?_;exact⟨rfl,I⟩
theorem adS {x L:Int}(h:0<L):-L<x.tmod L∧x.tmod L<L:=by
 have h1:=Int.natAbs_tmod x L;have h2:=Nat.mod_lt x.natAbs (show 0<L.natAbs by omega);omega
theorem adU (I:U W w L){x:Int}{k:Nat}(hk:0<k)(b9:k≤1000):Calls Tryz.prog 14 #[.int .i64 x,.int .i64 k] w λe w'=>∃ y:Nat,e=.returned (.int .i64 y)∧y<k∧U W w' L:=by
 have hb:=adS (x:=x) (L:=k) (by omega);refine EN Tryz.func14 Tryz.ntmps14 rfl rfl λa E=>?_;refine IF 11 E I (λaj a E=>?_) λaj a E=>?_
 ·
  refine RT 6 E I ?_;exact⟨(x.tmod k).natAbs,by rw[fH (by omega) (by omega),show (((x.tmod k).natAbs:Nat):Int)=0-x.tmod k from by omega],by omega,I⟩
 refine RT 3 E I ?_;exact⟨(x.tmod k).natAbs,by rw[show (((x.tmod k).natAbs:Nat):Int)=x.tmod k from by omega],by omega,I⟩
theorem adV (I:U W w L):Calls Tryz.prog 16 #[.int .i64 n] w λe w'=>e=.returned (.agg (bV (nO n)).toArray)∧U W w' L:=by
 refine EN Tryz.func16 Tryz.ntmps16 rfl rfl λa E=>?_;refine AL 1 E I λb2 a w E I=>?_;refine SA 3 E I λa w E I=>?_;refine RT 0 E I ?_;exact⟨rfl,I.sub⟩
theorem sI (I:U W w (TS W K p c v::L))(hO:uh W p K.B K.D cf tb gB)(hc:Wc p cf c v)(jQ:c≤900000):Calls Tryz.prog 21 #[pt K.tb,.agg (dV t).toArray] w λe w'=>e=.returned (.tuple #[])∧U W w' (TS W K p (c+10) (bO p t v)::L):=by
 replace I:=TS.open I;refine EN Tryz.func21 Tryz.ntmps21 rfl rfl λa E=>?_;refine BX 1 E I λb3 a w E I=>?_;change U W w (aa b3 58 (dV t)::_) at I;refine RN 5 E I λa E=>?_;replace E:=E.ei 7;refine RN 1 E I λa E=>?_;obtain⟨adP,cP,adN,cN,adE,cE,xs,es,hx,_⟩:=bC.open (I.pick (bC W K.D p v));refine aX 0 (λw0 w'=>Rd w' K.tb 0 (sH K)∧Rd w' b3 0 (dV t)) [5] [0,1,2,3,3004,1005,1006,7,8,1009] E I λa w E I hH=>?_;have hC:=hH.at w ⟨I.ai (b:=K.tb),I.ai (b:=b3)⟩;refine RH 4 E I hH hC λa E=>?_;refine QH E (λw hc=>ae E (hc.1 0 _ rfl)) hC λa E=>?_;refine RH 0 E I hH hC λa E=>?_;refine SS E (bT E Tryz.underlying58 rfl Ty.t58 (hC.2)) λa E=>?_;refine RH 0 E I hH hC λa E=>?_;refine CL 0 E I (adK ((I.pick (bC W K.D p v)).pick (aN W K.B p c v)) hO hc.ok hc.calm jQ) λa w E I=>?_;refine ST 2 E I (λa w E I=>?_);refine RT 0 E I ?_;exact⟨rfl,TS.close I.sub⟩
theorem adW (p:Pr){m:Ml}{r:List Ml}(hm:v.net=m::r)(a b:Int):(bO p ⟨3,a,b,0⟩ v).net=r:=by
 rw[bO,ag (by show ¬ (3:Int)=7;omega),HR p hm];exact (rh _ _).2.1
theorem adX (I:U W w (TS W K p c v::L))(hO:uh W p K.B K.D cf tb gB)(hc:Wc p cf c v)(jQ:c≤800000):Calls Tryz.prog 38 #[pt K.tb] w λe w'=>e=.returned (.tuple #[])∧(Wc p cf (c+10*v.net.length) (vK p v)∧(vK p v).net=[])∧U W w' (TS W K p (c+10*v.net.length) (vK p v)::L):=by
 have hn:=hc.ok.net.1;refine EN Tryz.func38 Tryz.ntmps38 rfl rfl λa E=>?_;refine RN 2 E I λa E=>?_;refine aQ (λμ a w=>∃ (i:Nat) (u:Wd),(μ=v.net.length-i∧(i≤v.net.length∧u.net.length=v.net.length-i)∧Wc p cf (c+10*i) u∧py p (v.net.length-i) u=vK p v)∧Fr a 27 [(0,pt K.tb),(2,.int .i64 i)]∧U W w (TS W K p (c+10*i) u::L)) (v.net.length) (⟨0,v,⟨rfl,⟨by omega,rfl⟩,hc,rfl⟩,E.ab [0,2],I⟩) ?_;clear E I;rintro μ a w ⟨i,u,⟨rfl,⟨hi,pJ⟩,sJ,ed⟩,E,I⟩;refine RN 2 E I λa E=>?_;obtain⟨qP,rk,adP,adN,adE,cP,cN,cE,hT⟩:=TS.rd I;refine RN 3 E I λa E=>?_;rw[dh (by omega)]at E;refine RN 3 E I λa E=>?_;refine bm E (bQ E rfl (s:=5)) (ae E (hT.t 2 _ rfl)) rfl λa E=>?_;refine RN 2 E I λa E=>?_;replace E:=E.ei 11;refine RN 3 E I λa E=>?_;refine bm E (bQ E rfl (s:=11)) (ae E (hT.t 0 _ rfl)) rfl λa E=>?_;refine RN 2 E I λa E=>?_;refine bm E (bQ E rfl (s:=11)) (ae E (hT.d 2 _ rfl)) rfl λa E=>?_;refine IF 3 E I (λaj a E=>?_) λaj a E=>?_
 ·
  obtain⟨m,r,hm⟩:∃ m r,u.net=m::r:=by
   cases h:u.net with
   | nil=>have h9:=di List.length h;rw[length_nil]at h9;omega
   | cons m r=>exact⟨m,r,rfl⟩
  have eP:=adW p hm 0 0;have gq:r.length=v.net.length-(i+1):=by rw[hm,eR]at pJ;omega
  refine CL 3 E I (sI (t:=⟨3,0,0,0⟩) I hO sJ (by omega)) λa w E I=>?_;refine RN 3 E I λa E=>?_;refine⟨v.net.length-(i+1),by omega,i+1,bO p ⟨3,0,0,0⟩ u,⟨rfl,⟨by omega,by rw[eP];exact gq⟩,sJ.go,?_⟩,E.ab [0,2],I⟩;rw[← ed,show v.net.length-i=(v.net.length-(i+1))+1 from by omega];rfl
 refine RT 0 E I ?_;obtain rfl:i=v.net.length:=by omega
 rw[Nat.sub_self]at ed;replace ed:u=vK p v:=ed;subst ed;exact⟨rfl,⟨sJ,g4 (by omega)⟩,I⟩
theorem adY (I:U W w (TS W K p c v::L))(hO:uh W p K.B K.D cf tb gB)(hc:Wc p cf c v)(jQ:c≤700000)(hn:v.ps.length=K.n){b:Nat}(hb:b<256):Calls Tryz.prog 17 #[pt K.tb,.int .u8 b] w λe w'=>e=.returned (.tuple #[])∧(∃ c',c'≤c+4000∧Wc p cf c' (vL p b v)∧U W w' (TS W K p c' (vL p b v)::L)):=by
 have ib:=hc.ok.len;refine EN Tryz.func17 Tryz.ntmps17 rfl rfl λa E=>?_;refine RN 3 E I λa E=>?_;refine aQ (λμ a w=>∃ (i:Nat),(μ=K.n-i∧i≤K.n∧Wc p cf (c+20*i) (ue p (λ_=>true) b v i))∧Fr a 27 [(0,pt K.tb),(1,.int .u8 b),(4,.int .i64 i)]∧U W w (TS W K p (c+20*i) (ue p (λ_=>true) b v i)::L)) (K.n) (⟨0,⟨rfl,by omega,hc⟩,E.ab [0,1,4],I⟩) ?_;clear E I;rintro μ a w ⟨i,⟨rfl,hi,sJ⟩,E,I⟩;refine RN 2 E I λa E=>?_;obtain⟨qP,rk,adP,adN,adE,cP,cN,cE,hT⟩:=TS.rd I;refine RN 4 E I λa E=>?_;refine SS E (ae E (hT.t 1 _ rfl)) λa E=>?_;refine IF 1 E I (λaj a E=>?_) λaj a E=>?_
 ·
  refine SX 5 E I (fH (by omega) (by omega)) λa E=>?_;refine CL 3 E I (sI (t:=⟨1,i,(b:Int)+i,0⟩) I hO sJ (by omega)) λa w E I=>?_;refine CL 3 E I (sI (t:=⟨2,i,0,0⟩) I hO sJ.go (by omega)) λa w E I=>?_;refine RN 3 E I λa E=>?_;rw[show c+20*i+10+10=c+20*(i+1) from by omega]at I;exact⟨K.n-(i+1),by omega,i+1,⟨rfl,by omega,by rw[show c+20*(i+1)=c+20*i+10+10 from by omega];exact (sJ.go (t:=⟨1,i,(b:Int)+i,0⟩)).go (t:=⟨2,i,0,0⟩)⟩,E.ab [0,1,4],I⟩
 obtain rfl:i=K.n:=by omega
 refine CL 1 E I (adX I hO sJ (by omega)) λa w E ⟨hf,I⟩=>?_;refine RT 0 E I ?_;have h9:=sJ.ok.net.1;exact⟨rfl,c+20*K.n+10*(ue p (λ_=>true) b v K.n).net.length,by omega,by rw[vL,hn];exact hf.1,by rw[vL,hn];exact I⟩
set_option maxHeartbeats 1000000 in
theorem adZ (I:U W w L)(gb:nL (dC cf 0) bZ [])(hn:cf.n=n):Calls Tryz.prog 15 #[.agg (bV cf).toArray,.bool gB] w λe w'=>∃ (W2:World) (K:TK),e=.returned (pt K.tb)∧(K.n=n∧Below W.heap.size W W2∧uh W2 bZ K.B K.D cf [] gB∧Wc bZ (dC cf 0) 0 (gf bZ cf n))∧U W2 w' (TS W2 K bZ 0 (gf bZ cf n)::[]):=by
 have tX:=gb.1;have n1:cf.n.toNat=n:=by omega
 refine EN Tryz.func15 Tryz.ntmps15 rfl rfl λa E=>?_;refine BX 1 E I λb2 a w E I=>?_;change U W w (aa b2 28 (bV cf)::_) at I;refine aX 2 (λw0 w'=>Rd w' b2 0 (bV cf)) [1] [2,3000,1001,1003,4] E I λa w E I hH=>?_;have hC:=hH.at w (I.ai (b:=b2));refine RH 1 E I hH hC λa E=>?_;refine QH E (λw hc=>bT E Tryz.underlying28 rfl Ty.t28 (hc)) hC λa E=>?_;refine RH 0 E I hH hC λa E=>?_;refine bj 0 E I (NS I) λadP a w E I=>?_;replace hC:=hH.at w (I.ai (b:=b2));have pU:Rd w b2 0 (bV cf):=I.ai (b:=b2);have vi:b2<w.heap.size:=Rd.lt pU;have zR:zQ w bZ adP 12:=U.roW (I.pick (aA W bZ adP 12));have wL:=I.below;obtain⟨W2,PB⟩:∃ W2,W2=w:=⟨_,rfl⟩;replace I:U W2 w []:=by rw[PB];exact U.start w
 rw[← PB]at pU vi zR wL;have c7:∀ w' L,U W2 w' L→Rd w' b2 0 (bV cf):=λw' L I j v hj=>(I.below.cell vi).trans (pU j v hj);refine RH 0 E I hH hC λa E=>?_;refine aY 0 E I (adA (cf:=cf) (tb:=[]) (adT:=none) (cT:=0) gb I zR rfl re (by decide) (by decide) (by decide) (λw' h=>aW.nil)) λB D a w E ⟨hN,I⟩=>?_;refine RN 1 E I λa E=>?_;refine RN 3 E I λa E=>?_;refine SS E (ae E (c7 _ _ I 0 _ rfl)) λa E=>?_;rw[hn]at E;refine BX 3 E I λqW a w E I=>?_;refine RT 1 E I ?_;rw[n1]at I hN;refine⟨W2,⟨qW,n,B,D⟩,rfl,⟨rfl,wL,⟨hN.1,by rw[n1];exact hN.2.1,hN.2.2,gb.2.2,re,by decide⟩,?_⟩,?_⟩
 ·have h1:=Wc.new (p:=bZ) tX;rw[show (dC cf 0).n.toNat=n from n1]at h1;exact h1
 ·exact TS.close (K:=⟨qW,n,B,D⟩) I
end
end
section
section
variable {W w:World}{L:List SP}{n c i f:Nat}{p:Pr}{cf:Cf}{v:Wd}{D:ot}
theorem H2 {w:World}{y:ou}{p:Pr}(h:xL w p y)(hf:f<y.1.2.k.mr.length):∃ b o,y.2.1.ck=some ⟨b,o,none⟩∧w.cell? ⟨b,o+f,none⟩=some (.int .u32 (y.1.2.k.mr.getD f 0:Nat)):=by
 obtain⟨b,o,h1,h2⟩:=h.mr (by omega);refine⟨b,o,h1,h2 f _ ?_⟩;rw[c3,bn,aD hf,bl,aD hf];rfl
theorem PC {w:World}{y:ou}{p:Pr}{b o:Nat}(h:xL w p y)(he:y.2.1.ck=some ⟨b,o,none⟩)(hf:f<y.1.2.k.mr.length):w.cell? ⟨b,o+f,none⟩=some (.int .u32 (y.1.2.k.mr.getD f 0:Nat)):=by
 obtain⟨b',o',h1,h2⟩:=H2 h hf;rw[he]at h1;cases h1;exact h2
theorem PD {P:Program}{ops:Array Oper}{Q:Exit→Act→World→Prop}{C C':World→Prop}{bh:List Nat}(k:∀ w,C' w→C w):∀ (fuel:Nat) (bE:Array Bool) (a:Act) (w:World),hR P ops Q C' bh fuel bE a w→hR P ops Q C bh fuel bE a w
 | 0,_,_,_,h=>h
 | fuel+1,_,_,_,h=>⟨h.1,λi hi=>wpOp_mono (λa' w' h'=>⟨λhn=>k _ (h'.1 hn),PD k fuel _ a' w' h'.2⟩) (h.2 i hi)⟩
theorem PE {P:Program}{ops:Array Oper}{Q:Exit→Act→World→Prop}{C:World→Prop}{bh od:List Nat}{fuel m:Nat}{a:Act}{w:World}{b:Bool}(C':World→Prop)(k:∀ w,C' w→C w)(hC:C w)(h:gh P ops Q C' bh od fuel m a w):CN b C (gh P ops Q C bh od fuel m) a w :=
 ⟨λ_=>hC,PD k _ _ _ _ h⟩
set_option maxHeartbeats 2000000 in
theorem ad0 (I:U W w (bC W D p v::L))(hv:bL p cf c v)(hA:∀ i j f,i<v.ps.length→j<v.ps.length→f<aw (an v i).k→f<aw (an v j).k→bJ (an v i).k.ls f=bJ (an v j).k.ls f∧(an v i).k.mr.getD f 0=(an v j).k.mr.getD f 0)
   (xE:∀ l∈v.ev,∀ e∈l,e.1≠3) (kc:9*c+100≤1000000000):Calls Tryz.prog 18 #[pt D.wb] w λe w'=>e=.returned (.bool true)∧U W w' (bC W D p v::L):=by
 replace I:=bC.open I;obtain⟨adP,cP,adN,cN,gC,gl,rs,fs,⟨g6,jg,mv⟩,I⟩:=I;obtain⟨ys,lB,I⟩:=CV (I.pick (ah (dd W p) rs));have gq:rs.length=v.ps.length:=by rw[← jg,a8]
 have jl:ys.length=v.ps.length:=by rw[← gq,← lB,a8]
 have ed:fs.length=v.ps.length:=by rw[← hv.ev,← mv,a8]
 have hn:=hv.len;have tY:∀ i,i<v.ps.length→∃ y,ys[i]?=some y∧y.1.2=an v i∧(rs.map dD)[i]?=some (pt y.1.1.pb):=λi hi=>by
  refine⟨ys[i],aD (by omega),?_,?_⟩
  ·rw[an,← jg,← lB,List.map_map,bl,bn,aD (by omega)];rfl
  ·rw[← lB,List.map_map,bn,aD (by omega)];rfl
 have cp:∀ w',U W w' (ah (kv W p) ys::aa D.wb 40 [pt D.mb,.slice adP rs.length cP,.slice adN v.net.length cN,.slice gC fs.length gl]::Sl 34 1 adP rs.length cP (rs.map dD)::cg 60 adN v.net.length cN v.net::Sl 70 1 gC fs.length gl (fs.map bx)::ah eZ fs::L)→U W w' (bC W D p v::L):=λw' h=>by
  have h1:=CW h;rw[lB]at h1;exact bC.close (h1.sub (M:=aa D.wb 40 [pt D.mb,.slice adP rs.length cP,.slice adN v.net.length cN,.slice gC fs.length gl]::Sl 34 1 adP rs.length cP (rs.map dD)::ah (dd W p) rs::cg 60 adN v.net.length cN v.net::Sl 70 1 gC fs.length gl (fs.map bx)::ah eZ fs::L)) g6 jg mv
 replace I:=I.sub (M:=ah (kv W p) ys::aa D.wb 40 [pt D.mb,.slice adP rs.length cP,.slice adN v.net.length cN,.slice gC fs.length gl]::Sl 34 1 adP rs.length cP (rs.map dD)::cg 60 adN v.net.length cN v.net::Sl 70 1 gC fs.length gl (fs.map bx)::ah eZ fs::L);generalize hM:(ah (kv W p) ys::aa D.wb 40 [pt D.mb,.slice adP rs.length cP,.slice adN v.net.length cN,.slice gC fs.length gl]::Sl 34 1 adP rs.length cP (rs.map dD)::cg 60 adN v.net.length cN v.net::Sl 70 1 gC fs.length gl (fs.map bx)::ah eZ fs::L)=M at I cp;obtain⟨bp,op,DI⟩:∃ bp op,adP=some ⟨bp,op,none⟩:=by
  rw[← hM]at I;obtain⟨bp,op,h,_⟩:=(I.pick (Sl 34 1 adP rs.length cP (rs.map dD))).bU adP (by omega);exact⟨bp,op,h⟩
 obtain⟨jr,oF,hbF⟩:∃ jr oF,gC=some ⟨jr,oF,none⟩:=by
  rw[← hM]at I;obtain⟨bp,op,h,_⟩:=(I.pick (Sl 70 1 gC fs.length gl (fs.map bx))).bU gC (by omega);exact⟨bp,op,h⟩
 have PF:=I;clear I;subst DI hbF;have sK:∀ w',U W w' M→Rd w' D.wb 0 [pt D.mb,.slice (some ⟨bp,op,none⟩) rs.length cP,.slice adN v.net.length cN,.slice (some ⟨jr,oF,none⟩) fs.length gl]:=λw' h=>by
  rw[← hM]at h;exact h.ai (b:=D.wb)
 have xP:∀ w',U W w' M→Rd w' bp op (rs.map dD):=λw' h=>by
  rw[← hM]at h;exact h.cK bp op (by omega)
 have PG:∀ w',U W w' M→Rd w' jr oF (fs.map bx):=λw' h=>by
  rw[← hM]at h;exact h.cK jr oF (by omega)
 have rY:∀ {i:Nat} {y:ou} {w':World},U W w' M→ys[i]?=some y→xL w' p y:=λh hy=>by
  rw[← hM]at h;exact CX h hy
 have ad1:∀ {i:Nat} {x:ku} {w':World},U W w' M→fs[i]?=some x→0<x.2.2.length→∃ b o,x.1=some ⟨b,o,none⟩∧Rd w' b o (rows bW x.2.2):=λ{i x w'} h hx h0=>by
  rw[← hM]at h;obtain⟨hi,h1⟩:=a2.1 hx;have h2:=(h.pick (ah eZ fs)).fy hi;rw[h1]at h2;replace h2:U W w' (Sl 102 3 x.1 x.2.2.length x.2.1 (rows bW x.2.2)::_):=h2;exact h2.bU x.1 h0
 clear hM;have I:=PF;clear PF;refine EN Tryz.func18 Tryz.ntmps18 rfl rfl λa E=>?_;refine RN 5 E I λa E=>?_;refine aQ (λμ a w=>∃ (i:Nat),(μ=v.ps.length-i∧i≤v.ps.length)∧Fr a 142 [(0,pt D.wb),(3,.int .i64 i)]∧U W w M) (v.ps.length) (⟨0,⟨rfl,by omega⟩,E.ab [0,3],I⟩) ?_;clear E I;rintro μ a w ⟨i,⟨rfl,hi⟩,E,I⟩;refine RN 6 E I λa E=>?_;refine SS E (ae E ((sK _ I) 1 _ rfl)) λa E=>?_;refine IF 2 E I (λaj a E=>?_) λaj a E=>?_
 ·
  have aF:i<v.ps.length:=by omega
  obtain⟨y,hy,tV,H3⟩:=tY i aF;have vM:cu p y.1.2:=by rw[tV];exact (hv.pl i aF).1
  have C1:bk y.2.2=y.1.2.k.ls:=(rY I hy).eq;refine RN 4 E I λa E=>?_;refine aQ (λμ a w=>∃ (k:Nat),(μ=i-k∧k≤i)∧Fr a 142 [(0,pt D.wb),(3,.int .i64 i),(4,.int .i64 k)]∧U W w M) (i) (⟨0,⟨rfl,by omega⟩,E.ab [0,3,4],I⟩) ?_;clear E I;rintro μ a w ⟨k,⟨rfl,hk⟩,E,I⟩;refine IF 5 E I (λao a E=>?_) λao a E=>?_
  ·
   have dH:k<v.ps.length:=by omega
   obtain⟨z,hz,mh,xM⟩:=tY k dH;have zV:cu p z.1.2:=by rw[mh];exact (hv.pl k dH).1
   have C3:bk z.2.2=z.1.2.k.ls:=(rY I hz).eq;refine aX 2 (λw0 w'=>U W w' M) [10,14,16,17,18,19,20] [0,1,2,4,11,12,13,15,3003,5,3006,7,8,3009,3014,3016,3017,3018,3019,3020,1010,1021,22,23] E I λa w E I hH=>?_;have hC:=hH.at w I;refine RH 8 E I hH hC λa E=>?_;refine QH E (λw hc=>ae E (sK _ hc 1 _ rfl)) hC λa E=>?_;refine RH 1 E I hH hC λa E=>?_;refine QH E (λw hc=>ae E (xP _ hc i _ H3)) hC λa E=>?_;refine RH 2 E I hH hC λa E=>?_;refine QH E (λw hc=>ae E ((rY hc hy).pb 0 _ rfl)) hC λa E=>?_;refine QH E (λw hc=>ae E (sK _ hc 1 _ rfl)) hC λa E=>?_;refine RH 1 E I hH hC λa E=>?_;refine QH E (λw hc=>ae E (xP _ hc k _ xM)) hC λa E=>?_;refine RH 2 E I hH hC λa E=>?_;refine QH E (λw hc=>ae E ((rY hc hz).pb 0 _ rfl)) hC λa E=>?_;refine RH 0 E I hH hC λa E=>?_;refine CL 0 E I (Pn (A:=y.2.1) I vM.wc C1 λw' h=>⟨(rY h hy).cb,(rY h hy).ls⟩) λa w E I=>?_;replace hC:=hH.at w I;refine RH 0 E I hH hC λa E=>?_;refine CL 0 E I (Pn (A:=z.2.1) I zV.wc C3 λw' h=>⟨(rY h hz).cb,(rY h hz).ls⟩) λa w E I=>?_;refine RN 1 E I λa E=>?_;rw[show min ((aw y.1.2.k:Nat):Int) ((aw z.1.2.k:Nat):Int)=((min (aw y.1.2.k) (aw z.1.2.k):Nat):Int) from by omega]at E;refine RN 1 E I λa E=>?_;refine RN 2 E I λa E=>?_;refine aQ (λμ a w=>∃ (f:Nat),(μ=min (aw y.1.2.k) (aw z.1.2.k)-f∧f≤min (aw y.1.2.k) (aw z.1.2.k))∧Fr a 142 [(0,pt D.wb),(3,.int .i64 i),(4,.int .i64 k),(5,.int .i64 (min (aw y.1.2.k) (aw z.1.2.k):Nat)),(6,.int .i64 f)]∧U W w M) (min (aw y.1.2.k) (aw z.1.2.k)) (⟨0,⟨rfl,by omega⟩,E.ab [0,3,4,5,6],I⟩) ?_;clear E I;rintro μ a w ⟨f,⟨rfl,hf⟩,E,I⟩;refine IF 5 E I (λay a E=>?_) λay a E=>?_
   ·
    have ed:f<aw y.1.2.k∧f<aw z.1.2.k:=by omega
    obtain⟨zf,qS⟩:bJ y.1.2.k.ls f=bJ z.1.2.k.ls f∧y.1.2.k.mr.getD f 0=z.1.2.k.mr.getD f 0:=by
     rw[tV,mh]at ed ⊢;exact hA i k f aF dH ed.1 ed.2
    have ad3:y.1.2.k.ls.length=y.2.2.length:=by rw[← C1,fZ]
    have ad4:z.1.2.k.ls.length=z.2.2.length:=by rw[← C3,fZ]
    have B8:=vM.full;have Lr:=zV.full;have hy8:=vM.wc.ls;have hz8:=zV.wc.ls;have hyn:=vM.wc.n;have Kz:=zV.wc.n;have tZ:=fG vM.wc.nF vM.wc.lV;obtain⟨by1,oy1,g6,_⟩:=H2 (f:=f) (rY I hy) (by rw[vM.full];exact ed.1);obtain⟨bz1,oz1,cV,_⟩:=H2 (f:=f) (rY I hz) (by rw[zV.full];exact ed.2);refine RN 2 E I λa E=>?_;simp only[List.append];refine aX 0 (λw0 w'=>U W w' M) [14,15,19,21,22,23,24,25,26,27,28,30,31,53,55,56,57,58,59,60,61,62,64,65] [0,1,2,4,13,16,17,18,20,29,3003,5,3006,7,8,3009,10,11,3012,3019,3021,3022,3023,3024,3025,3026,3027,3028,1014,3015,1030,1031,32,33,34,35,36,38,47,50,51,52,54,63,3037,39,3040,41,42,3043,44,45,3046,48,3049,1053,1055,1056,1057,1058,1059,1060,1061,1062,1064,1065,66,67] E I λa w E I hH=>?_;have hC:=hH.at w I;refine RH 10 E I hH hC λa E=>?_;refine QH E (λw hc=>ae E (sK _ hc 1 _ rfl)) hC λa E=>?_;refine RH 1 E I hH hC λa E=>?_;refine QH E (λw hc=>ae E (xP _ hc i _ H3)) hC λa E=>?_;refine RH 2 E I hH hC λa E=>?_;refine QH E (λw hc=>ae E ((rY hc hy).pb 0 _ rfl)) hC λa E=>?_;refine RH 2 E I hH hC λa E=>?_;refine QH E (λw hc=>ae E ((rY hc hy).cb 10 _ rfl)) hC λa E=>?_;rw[ad3]at E;refine RH 0 E I hH hC λa E=>?_;refine QH E (λw hc=>ae E (sK _ hc 1 _ rfl)) hC λa E=>?_;refine RH 1 E I hH hC λa E=>?_;refine QH E (λw hc=>ae E (xP _ hc k _ xM)) hC λa E=>?_;refine RH 2 E I hH hC λa E=>?_;refine QH E (λw hc=>ae E ((rY hc hz).pb 0 _ rfl)) hC λa E=>?_;refine RH 2 E I hH hC λa E=>?_;refine QH E (λw hc=>ae E ((rY hc hz).cb 10 _ rfl)) hC λa E=>?_;rw[ad4]at E;refine RH 0 E I hH hC λa E=>?_;refine aY 0 E I (GM (xs:=y.2.2) (f:=f) I (by omega) (by omega) (λw' hw=>(rY hw hy).ls) (by rw[C1];exact ed.1)) λvN jm a w E I=>?_;rw[C1,zf]at E I;refine PE (λw'=>U W w' M∧aW w' vN (bJ z.1.2.k.ls f).length (bJ z.1.2.k.ls f)) (λ_ h=>h.1) I.tail ?_;have hH:=Hd.any (λw'=>U W w' M∧aW w' vN (bJ z.1.2.k.ls f).length (bJ z.1.2.k.ls f));have hC:=hH.at w ⟨I.tail,I.cv vN _ rfl rfl⟩;refine RH 0 E I hH hC λa E=>?_;refine QH E (λw hc=>lK E Tryz.underlying22 Tryz.underlying5 Tryz.underlying9 (hc.2)) hC λa E=>?_;refine RH 0 E I hH hC λa E=>?_;refine aY 0 E I (GM (xs:=z.2.2) (f:=f) I (by omega) (by omega) (λw' hw=>(rY hw.tail hz).ls) (by rw[C3];exact ed.2)) λjF agj a w E I=>?_;rw[C3]at E I;refine PE (λw'=>(U W w' M∧aW w' vN (bJ z.1.2.k.ls f).length (bJ z.1.2.k.ls f))∧aW w' jF (bJ z.1.2.k.ls f).length (bJ z.1.2.k.ls f)) (λ_ h=>h.1) ⟨I.tail.tail,I.cv vN _ rfl rfl⟩ ?_;have hH:=Hd.any (λw'=>(U W w' M∧aW w' vN (bJ z.1.2.k.ls f).length (bJ z.1.2.k.ls f))∧aW w' jF (bJ z.1.2.k.ls f).length (bJ z.1.2.k.ls f));have hC:=hH.at w ⟨⟨I.tail.tail,I.cv vN _ rfl rfl⟩,I.cv jF _ rfl rfl⟩;refine RH 0 E I hH hC λa E=>?_;refine SS E (lK E Tryz.underlying22 Tryz.underlying5 Tryz.underlying9 (hC.2)) λa E=>?_;refine RH 0 E I hH hC λa E=>?_;refine QP E (λw=>KM E) λa E=>?_;rw[qF,beq_self_eq_true,Bool.not_true]at E;refine RH 1 E I hH hC λa E=>?_;replace E:=E.aM 83;refine RH 10 E I hH hC λa E=>?_;refine QH E (λw hc=>ae E (sK _ hc.1.1 1 _ rfl)) hC λa E=>?_;refine RH 1 E I hH hC λa E=>?_;refine QH E (λw hc=>ae E (xP _ hc.1.1 i _ H3)) hC λa E=>?_;refine RH 2 E I hH hC λa E=>?_;refine QH E (λw hc=>ae E ((rY hc.1.1 hy).pb 0 _ rfl)) hC λa E=>?_;refine RH 2 E I hH hC λa E=>?_;refine QH E (λw hc=>ae E ((rY hc.1.1 hy).cb 16 _ rfl)) hC λa E=>?_;rw[g6]at E;refine RH 1 E I hH hC λa E=>?_;refine QH E (λw hc=>ae E (PC (rY hc.1.1 hy) g6 (by omega))) hC λa E=>?_;rw[qS]at E;refine RH 0 E I hH hC λa E=>?_;refine bm E (bQ E rfl (s:=83)) (ae E (sK _ hC.1.1 1 _ rfl)) rfl λa E=>?_;refine RH 1 E I hH hC λa E=>?_;refine bm E (bQ E rfl (s:=83)) (ae E (xP _ hC.1.1 k _ xM)) rfl λa E=>?_;refine RH 2 E I hH hC λa E=>?_;refine bm E (bQ E rfl (s:=83)) (ae E ((rY hC.1.1 hz).pb 0 _ rfl)) rfl λa E=>?_;refine RH 2 E I hH hC λa E=>?_;refine bm E (bQ E rfl (s:=83)) (ae E ((rY hC.1.1 hz).cb 16 _ rfl)) rfl λa E=>?_;rw[cV]at E;refine RH 1 E I hH hC λa E=>?_;refine bm E (bQ E rfl (s:=83)) (ae E (PC (rY hC.1.1 hz) cV (by omega))) rfl λa E=>?_;refine RH 2 E I hH hC λa E=>?_;rw[bo (by simp)]at E;refine RN 4 E I λa E=>?_;exact⟨min (aw y.1.2.k) (aw z.1.2.k)-(f+1),by omega,f+1,⟨rfl,by omega⟩,E.ab [0,3,4,5,6],I.sub⟩
   refine RN 3 E I λa E=>?_;exact⟨i-(k+1),by omega,k+1,⟨rfl,by omega⟩,E.ab [0,3,4],I⟩
  obtain⟨x,hx⟩:∃ x,fs[i]?=some x:=⟨_,aD (by omega)⟩;have wo:(fs.map bx)[i]?=some (.slice x.1 x.2.2.length x.2.1):=by rw[bn,hx];rfl
  have ca:=(hv.kT x.2.2 (by rw[← mv];exact cR.2 ⟨x,bH hx,rfl⟩)).1;have hxE:∀ e∈x.2.2,e.1≠3:=xE x.2.2 (by rw[← mv];exact cR.2 ⟨x,bH hx,rfl⟩);refine RN 2 E I λa E=>?_;refine aQ (λμ a w=>∃ (k:Nat),(μ=x.2.2.length-k∧k≤x.2.2.length)∧Fr a 142 [(0,pt D.wb),(3,.int .i64 i),(7,.int .i64 k)]∧U W w M) (x.2.2.length) (⟨0,⟨rfl,by omega⟩,E.ab [0,3,7],I⟩) ?_;clear E I;rintro μ a w ⟨k,⟨rfl,hk⟩,E,I⟩;refine RN 6 E I λa E=>?_;refine SS E (ae E ((sK _ I) 3 _ rfl)) λa E=>?_;refine RN 2 E I λa E=>?_;refine SS E (ae E ((PG _ I) i _ wo)) λa E=>?_;refine IF 2 E I (λbF a E=>?_) λbF a E=>?_
  ·
   have dH:k<x.2.2.length:=by omega
   obtain⟨be,agk,zq,mf⟩:=ad1 I hx (by omega);replace mf:=jk BK mf (aD dH);have kI:=hxE _ (iZ dH);refine RN 5 E I λa E=>?_;refine SS E (ae E ((sK _ I) 3 _ rfl)) λa E=>?_;refine RN 2 E I λa E=>?_;refine SS E (ae E ((PG _ I) i _ wo)) λa E=>?_;rw[zq]at E;refine RN 3 E I λa E=>?_;refine SS E (ae E (mf 0 _ rfl)) λa E=>?_;refine RN 1 E I λa E=>?_;rw[bo (by omega)]at E;refine RN 4 E I λa E=>?_;exact⟨x.2.2.length-(k+1),by omega,k+1,⟨rfl,by omega⟩,E.ab [0,3,7],I⟩
  refine RN 3 E I λa E=>?_;exact⟨v.ps.length-(i+1),by omega,i+1,⟨rfl,by omega⟩,E.ab [0,3],I⟩
 refine RT 2 E I ?_;exact⟨rfl,cp _ I⟩
end
end
section
structure TV where
 bp:Nat
 op:Nat
 cP:Nat
 adN:Option Addr
 cN:Nat
 adE:Option Addr
 rk:Nat
 cE:Nat
 ys:List ou
structure ad5 (W:World)(K:TK)(p:Pr)(c:Nat)(v:Wd)(M L:List SP)(V:TV):Prop where
 t:∀ {w':World},U W w' M→Rd w' K.tb 0 (sH K)
 d:∀ {w':World},U W w' M→Rd w' K.D.wb 0 [pt K.D.mb,.slice (some ⟨V.bp,V.op,none⟩) v.ps.length V.cP,.slice V.adN v.net.length V.cN,.slice V.adE V.rk V.cE]
 ps:∀ {w':World} {i:Nat} {y:ou},U W w' M→V.ys[i]?=some y→w'.cell? ⟨V.bp,V.op+i,none⟩=some (pt y.1.1.pb)
 rd:∀ {w':World} {i:Nat} {y:ou},U W w' M→V.ys[i]?=some y→xL w' p y
 get:∀ i,i<v.ps.length→∃ y,V.ys[i]?=some y∧y.1.2=an v i
 back:∀ {w':World},U W w' M→U W w' (TS W K p c v::L)
 mat:∃ M',∀ w':World,U W w' M↔U W w' (aN W K.B p c v::M')
section
variable {W w:World}{L:List SP}{c i n:Nat}{p:Pr}{v:Wd}{K:TK}{cf:Cf}{G:List (List UInt8)}{PH:Int→Prop}{D:ot}
theorem TS.view (I:U W w (TS W K p c v::L))(h0:0<v.ps.length):∃ (M:List SP) (V:TV),ad5 W K p c v M L V∧U W w M:=by
 replace I:=TS.open I;obtain⟨adP,cP,adN,cN,gC,gl,rs,fs,⟨g6,jg,mv⟩,I⟩:=bC.open (I.pick (bC W K.D p v));obtain⟨ys,lB,I⟩:=CV (I.pick (ah (dd W p) rs));have gq:rs.length=v.ps.length:=by rw[← jg,a8]
 have jl:ys.length=v.ps.length:=by rw[← gq,← lB,a8]
 obtain⟨bp,op,rfl,_⟩:=(I.pick (Sl 34 1 adP rs.length cP (rs.map dD))).bU adP (by omega);replace I:=I.sub (M:=ah (kv W p) ys::aa K.D.wb 40 [pt K.D.mb,.slice (some ⟨bp,op,none⟩) rs.length cP,.slice adN v.net.length cN,.slice gC fs.length gl]::Sl 34 1 (some ⟨bp,op,none⟩) rs.length cP (rs.map dD)::cg 60 adN v.net.length cN v.net::Sl 70 1 gC fs.length gl (fs.map bx)::ah eZ fs::aa K.tb 33 (sH K)::aN W K.B p c v::L);refine⟨_,⟨bp,op,cP,adN,cN,gC,fs.length,gl,ys⟩,⟨λh=>h.ai (b:=K.tb),λh=>by rw[← gq];exact h.ai (b:=K.D.wb),λh hy=>?_,λh hy=>CX h hy,λi hi=>?_,λh=>?_,⟨_,λw'=>⟨λh=>h.pick (aN W K.B p c v),λh=>h.sub⟩⟩⟩,I⟩
 ·rename_i i y;refine h.cK bp op (by omega) i _ ?_;rw[← lB,List.map_map,bn,hy];rfl
 ·show ∃ y,ys[i]?=some y∧y.1.2=an v i;refine⟨ys[i]'(by omega),aD (by omega),?_⟩;rw[an,← jg,bl,bn,show rs[i]?=(ys.map (·.1))[i]? from by rw[lB],bn,aD (by omega)];rfl
 ·have h1:=CW h;rw[lB]at h1;have h2:=bC.close (v:=v) (D:=K.D) (h1.sub (M:=aa K.D.wb 40 [pt K.D.mb,.slice (some ⟨bp,op,none⟩) rs.length cP,.slice adN v.net.length cN,.slice gC fs.length gl]::Sl 34 1 (some ⟨bp,op,none⟩) rs.length cP (rs.map dD)::ah (dd W p) rs::cg 60 adN v.net.length cN v.net::Sl 70 1 gC fs.length gl (fs.map bx)::ah eZ fs::aa K.tb 33 (sH K)::aN W K.B p c v::L)) g6 jg mv;exact TS.close (h2.sub (M:=aa K.tb 33 (sH K)::aN W K.B p c v::bC W K.D p v::L))
theorem ad6 (I:U W w (bC W D p v::L))(hv:bL p cf c v)(iU:gA p cf PH G v)(kc:9*c+100≤1000000000):Calls Tryz.prog 18 #[pt D.wb] w λe w'=>e=.returned (.bool true)∧U W w' (bC W D p v::L) :=
 ad0 I hv (λi j f hi hj h1 h2=>(iU.pl i hi).agree (iU.pl j hj) h1 h2) iU.bx kc
theorem ad7 (I:U W w (TS W K p c v::L))(hc:Wc p cf c v)(iU:gA p cf PH G v)(jQ:c≤1000000):Calls Tryz.prog 18 #[pt K.D.wb] w λe w'=>e=.returned (.bool true)∧U W w' (TS W K p c v::L) :=
 (ad6 ((TS.open I).pick (bC W K.D p v)) hc.ok iU (by omega)).mono λe w' ⟨h1,h2⟩=>⟨h1,TS.close h2.sub⟩
theorem PI (h:2≤n∧n≤8):eW (nO n):=by
 have h2:eW (nO 2):=by decide
 refine⟨⟨⟨?_,?_⟩,⟨?_,?_⟩,h2.1.2.2⟩,h2.2⟩
 ·show (2:Int)≤(n:Int);omega
 ·show (n:Int)≤8;omega
 ·show (0:Int)≤0;omega
 ·show (0:Int)≤(n:Int)-1;omega
theorem ad8 (h:2≤n∧n≤8):nL (dC (nO n) 0) bZ []:=⟨PI h,re,show cY ⟨2,1,[]⟩ by decide⟩
end
end
section
section
variable {p:Pr}{cf:Cf}{v:Wd}{i j c:Nat}{m:Ml}{net r:List Ml}
theorem ad9 (hc:Wc p cf c v)(net:List Ml):lz { v with net:=net }={ v with net:=net }:=CQ hc.ok.ev hc.calm
theorem PJ (hc:Wc p cf c v)(hm:v.net[j]?=some m){k:Nat}(hk:k<m.2.2.length)(b:Int):bO p ⟨6,k,b,j⟩ v={ v with net:=v.net.set j (m.1,m.2.1,m.2.2.set k (m.2.2.getD k 0 ^^^ dP b)) }:=by
 have aR:bu p ⟨6,k,b,j⟩ v=(0,{ v with net:=v.net.set j (m.1,m.2.1,m.2.2.set k (m.2.2.getD k 0 ^^^ dP b)) }):=by
  rw[bu,ag (by show ¬ ((6:Int)<1∨(8:Int)<6);omega),ak (by show (3:Int)≤6∧(6:Int)≤6;omega),ua rfl rfl hm,ag (by show ¬ ((k:Int)<0∨(m.2.2.length:Int)≤(k:Int));omega)];rfl
 rw[bO,ag (by show ¬ (6:Int)=7;omega),aR];exact ad9 hc _
theorem aea (hw:cu p (an v i))(hd:ea m.2.2=none)(ho:(an v i).k.cl=false):dB p m.2.2 (an v i)=(1,an v i):=by
 have h1:dm m.2.2 (an v i).k=(1,(an v i).k):=Gf ho hd;have h0:(dB p m.2.2 (an v i)).1=1:=by show (dm _ _).1=1;rw[h1]
 have h2:=OJ hw (bs:=m.2.2) (by rw[h0];decide);exact Prod.ext h0 h2
theorem aeb (hc:Wc p cf c v)(hm:v.net=m::r)(hd:ea m.2.2=none)(hi:m.2.1<v.ps.length)(ho:(an v m.2.1).k.cl=false)(a b:Int):bO p ⟨5,a,b,0⟩ v=v:=by
 have h1:=aea (hc.ok.pl _ hi).1 hd ho;have aR:bu p ⟨5,a,b,0⟩ v=(1,v):=by
  rw[bu,ag (by show ¬ ((5:Int)<1∨(8:Int)<5);omega),ak (by show (3:Int)≤5∧(5:Int)≤6;omega),zH (j:=0) (m:=m) (by show (5:Int)≠4;omega) (by show (5:Int)≠6;omega) rfl (by rw[hm];rfl),h1];show (1,Wd.mk (v.ps.set m.2.1 (an v m.2.1)) (if (5:Int)=5 then v.net else _) v.ev)=_;rw[HH hi,ak rfl]
 rw[bO,ag (by show ¬ (5:Int)=7;omega),aR];exact CQ hc.ok.ev hc.calm
theorem aec {a b:UInt8}(h:b≠0):a ^^^ b≠a:=λe=>by
 refine h ?_;have h1:a ^^^ (a ^^^ b)=0:=by rw[e];simp
 rwa [← UInt8.xor_assoc,UInt8.xor_self,UInt8.zero_xor]at h1
theorem aed {K:Int→Prop}{G:List (List UInt8)}{q:Pk}(hq:nM p cf K G v m q){k:Nat}(hk:k<m.2.2.length){b:UInt8}(hb:b≠0):ea (m.2.2.set k (m.2.2.getD k 0 ^^^ b))=none:=by
 have he:m.2.2=hZ q:=by rw[hq.bs,aS,ak hq.iV.may]
 rw[he]at hk ⊢;refine adw hk ?_;rw[bl,aD hk];exact aec hb
theorem aee {K:Int→Prop}{G:List (List UInt8)}{q:Pk}(hq:nM p cf K G v m q):7≤m.2.2.length:=by
 rw[hq.bs,aS,ak hq.iV.may,wV];omega
end
end
section
section
variable {W w:World}{L:List SP}{c i:Nat}{p:Pr}{v u:Wd}{K:TK}{m:Ml}{cf:Cf}{y:ou}
theorem TS.zx (I:U W w (TS W K p c v::L))(hm:v.net[i]?=some m):∃ (qP rk zW zX:Nat) (adP adE:Option Addr) (cP cN cE:Nat) (ad:Option Addr) (zh:Nat),PA w K qP v.net.length rk adP (some ⟨zW,zX,none⟩) adE cP cN cE∧Rd w zW (zX+i*3) [.int .i64 m.1,.int .i64 m.2.1,.slice ad m.2.2.length zh]:=by
 replace I:=TS.open I;have h1:=I.ai (b:=K.tb);obtain⟨adP,cP,adN,cN,adE,cE,xs,es,_,I⟩:=bC.open (I.pick (bC W K.D p v));obtain⟨ys,mw,jl,I⟩:=cg.open (I.pick (cg 60 adN v.net.length cN v.net));obtain⟨hi,hie⟩:=a2.1 hm;have lB:ys.length=v.net.length:=by rw[← mw,a8]
 obtain⟨zW,zX,rfl,h2⟩:=(I.pick (Sl 60 3 adN v.net.length cN (rows b7 ys))).bU adN (by omega);obtain⟨y,hy,HY⟩:∃ y,ys[i]?=some y∧y.2.2=m:=by
  refine⟨ys[i]'(by omega),aD (by omega),?_⟩;have h3:(ys.map (·.2.2))[i]?=some m:=by rw[mw];exact hm
  rw[bn,aD (by omega)]at h3;exact p0 h3
 have h3:=jk oc h2 hy;refine⟨_,_,zW,zX,adP,adE,cP,cN,cE,y.1,y.2.1,⟨h1,I.ai (b:=K.D.wb)⟩,?_⟩;rw[← HY];exact h3
theorem PK (h:xL w p y)(hi:i<y.1.2.k.ls.length):∃ (ad:Option Addr) (zh:Nat),w.cell? ⟨y.1.1.core.lb,y.1.1.core.lo+i,none⟩=some (.slice ad (y.1.2.k.ls.getD i []).length zh):=by
 have hl:y.2.2.length=y.1.2.k.ls.length:=by rw[← h.eq,fZ]
 obtain⟨b,off,x,h1,h2,h3,_⟩:=h.ls.at (i:=i) (by omega);cases h1;refine⟨x.1,x.2.1,?_⟩;rw[h3,← h.eq,su h2];rfl
theorem aef {x:Int}(h0:0≤x)(h1:x<256)(hx:x≠0):dP x≠0:=λe=>by
 have h2:=NY x;rw[e,Int.emod_eq_of_lt h0 h1]at h2;exact hx h2.symm
theorem aeg (hc:Wc p cf c u)(kS:∃ T,Lv p cf T u)(hm:u.net=[m]){k:Nat}(hk:k<m.2.2.length){b:Int}(hb:dP b≠0):bO p ⟨6,k,b,(0:Nat)⟩ (bO p ⟨5,0,0,0⟩ (bO p ⟨6,k,b,(0:Nat)⟩ u))=u:=by
 obtain⟨T,kS⟩:=kS;obtain⟨G,iU⟩:=kS.iV;obtain⟨q,hq⟩:=iU.net m (by rw[hm];exact gY);have h0:u.net[0]?=some m:=by rw[hm];rfl
 have ao:=hc.go (t:=⟨6,k,b,(0:Nat)⟩);have e1:=PJ hc h0 hk b;have mn:u.net.set 0 (m.1,m.2.1,m.2.2.set k (m.2.2.getD k 0 ^^^ dP b))=[(m.1,m.2.1,m.2.2.set k (m.2.2.getD k 0 ^^^ dP b))]:=by rw[hm];rfl
 rw[mn]at e1;rw[e1]at ao ⊢;have hd:=aed hq hk hb;have e2:=aeb (r:=[]) ao (m:=(m.1,m.2.1,m.2.2.set k (m.2.2.getD k 0 ^^^ dP b))) rfl hd hq.lt.2 (kS.op _ hq.lt.2).1 0 0;rw[e2];have e3:=PJ (j:=0) ao (m:=(m.1,m.2.1,m.2.2.set k (m.2.2.getD k 0 ^^^ dP b))) rfl (k:=k) (by show k<(List.set _ _ _).length;rw[bw];exact hk) b;rw[e3];have h4:(m.2.2.set k (m.2.2.getD k 0 ^^^ dP b)).getD k 0 ^^^ dP b=m.2.2.getD k 0:=by
  rw[bl,getElem?_set_self hk];show (m.2.2.getD k 0 ^^^ dP b) ^^^ dP b=_;rw[UInt8.xor_assoc,UInt8.xor_self,UInt8.xor_zero]
 have h5:(m.2.2.set k (m.2.2.getD k 0 ^^^ dP b)).set k ((m.2.2.set k (m.2.2.getD k 0 ^^^ dP b)).getD k 0 ^^^ dP b)=m.2.2:=by
  rw[h4,set_set,bl,aD hk];exact l7 hk
 show Wd.mk u.ps [(m.1,m.2.1,_)] u.ev=u;rw[h5];show Wd.mk u.ps [m] u.ev=u;rw[← hm]
end
end
section
theorem aeh {n h t:Nat}{u:Wd}(e:pz bZ (nO n) t h u)(h2:2≤u.ps.length)(hh:h<1000)(ht:t<39)(b:Int) :
   let z:=bO bZ ⟨2,(0:Nat),0,0⟩ (bO bZ ⟨1,(0:Nat),b,0⟩ u)
   Lv bZ (nO n) (λ_=>t+1) z∧z.ps.length=u.ps.length∧z.net=nN (bO bZ ⟨1,(0:Nat),b,0⟩ u) 0∧(∀ x y,x<u.ps.length→y<u.ps.length→bq z x y=if x=0∧y=0 then h+1 else h)∧∀ m∈z.net,m.1=0∧pw m=h+1:=by
 intro z;obtain⟨h1,h3⟩:=(e.base.half (tk:=λ_=>true)).next e.base (i:=0) (by omega) (λ_ _=>hh) ht b 0 0 0;obtain⟨cH,dq,a3,a4,_⟩:=e.lC.al (i:=0) (by omega) b 0;have yy:=e.kn 0 0 (by omega) (by omega);obtain⟨g1,iJ,m8,m9,o0,_⟩:=cH.tick (i:=0) (by exact ht) (by rw[a3];omega) (by rw[dq,a3,e.net];have:=e.lC.len.2.2;simp;omega) 0 0;have hw:(nO n).br.toNat=8:=rfl;have hf:=(e.front (i:=0) (by omega)).1;refine⟨h1.lC.more λi hi=>by split <;> omega,h1.len,by rw[iJ,dq,e.net];rfl,λx y hx hy=>?_,λm hm=>?_⟩
 ·rw[h1.kn x y hx hy,e.kn x y hx hy];by_cases e1:x=0∧y=0
  ·rw[ak e1,ak (by omega)]
  ·rw[ag e1,ag (by omega)]
 ·rw[iJ,dq,e.net,nil_append]at hm;refine⟨?_,?_⟩
  ·obtain⟨j,_,rfl⟩:=cR.1 hm;rfl
  ·rw[o0 m hm,a4,ak ⟨⟨rfl,rfl⟩,by omega,by omega⟩,yy]
set_option maxHeartbeats 2000000 in
theorem aei (a0 cH:Int)(gB:Bool)(W:World)(w0:(Lit.int .i64 a0).wf=true)(C4:(Lit.int .u8 cH).wf=true) :
   Calls Tryz.prog 11 #[.int .i64 a0,.int .u8 cH,.bool gB] W λe w'=>e=.returned (.bool true)∧Below W.heap.size W w':=by
 have I:=U.start W;have PL:=(Lit.wf_int_iff .u8 cH).1 C4;have GL:IntKind.u8.min=0:=by decide
 have ew:IntKind.u8.max=255:=by decide
 rw[GL,ew]at PL;refine EN Tryz.func11 Tryz.ntmps11 rfl rfl λa E=>?_;refine CL 3 E I (adR I) λa w E I=>?_;refine RN 5 E I λa E=>?_;replace E:=E.aM 14;refine IF 5 E I (λao a E=>?_) λao a E=>?_
 ·
  refine RT 2 E I ?_;exact⟨rfl,I.below⟩
 refine CL 1 E I (adV (n:=2) I) λa w E I=>?_;refine aY 1 E I (adZ (cf:=nO 2) (n:=2) I (ad8 (by omega)) rfl) λW K a w E ⟨⟨hKn,wL,hO,aj⟩,I⟩=>?_;refine RN 1 E I λa E=>?_;have PM:pz bZ (nO 2) 0 2 (gf bZ (nO 2) 2):=pz.new (PI (by omega));have q9:(gf bZ (nO 2) 2).ps.length=2:=sG;generalize gf bZ (nO 2) 2=v0 at I aj PM q9;refine CL 2 E I (adY (b:=5) I hO aj (by omega) (by rw[q9,hKn]) (by decide)) λa w E ⟨eu,ao,oe,I⟩=>?_;refine RN 0 E I λa E=>?_;obtain⟨H4,jf⟩:=PM.round (by omega) (by omega) ((5:Nat):Int);rw[q9]at jf;generalize vL bZ ((5:Nat):Int) v0=v1 at I oe H4 jf;refine CL 3 E I (sI (t:=⟨1,(0:Nat),7,0⟩) I hO oe (by omega)) λa w E I=>?_;refine CL 3 E I (sI (t:=⟨2,(0:Nat),0,0⟩) I hO oe.go (by omega)) λa w E I=>?_;refine RN 0 E I λa E=>?_;obtain⟨kS,j7,zY,pf,PN⟩:=aeh H4 (by omega) (by omega) (by omega) 7;have C0:=(oe.go (t:=⟨1,(0:Nat),7,0⟩)).go (t:=⟨2,(0:Nat),0,0⟩);obtain⟨a1',a2',PO,a4',_⟩:=H4.lC.al (i:=0) (by omega) 7 0;rw[nN,PO,jf]at zY;obtain⟨m,hm⟩:∃ m,(bO bZ ⟨2,(0:Nat),0,0⟩ (bO bZ ⟨1,(0:Nat),7,0⟩ v1)).net=[m]:=⟨_,zY⟩;have PQ:m.1=0∧m.2.1=1:=by
  rw[hm]at zY;have h9:=List.head_eq_of_cons_eq zY;rw[h9];exact⟨rfl,rfl⟩
 have zM:=(PN m (by rw[hm];exact gY)).2;generalize bO bZ ⟨2,(0:Nat),0,0⟩ (bO bZ ⟨1,(0:Nat),7,0⟩ v1)=u at I kS j7 pf hm C0;rw[jf]at j7 pf;clear zY PN a1' a2' PO a4';have vR:u.net[0]?=some m:=by rw[hm];rfl
 have np:u.net.length=1:=by rw[hm];rfl
 obtain⟨G,iU⟩:=kS.iV;obtain⟨q,hq⟩:=iU.net m (by rw[hm];exact gY);have hm7:=aee hq;have aej:=(C0.ok.net.2 m (by rw[hm];exact gY)).2;obtain⟨qP,rk,zW,zX,adP,adE,cP,cN,cE,agl,po,hT,qi⟩:=TS.zx I vR;rw[np]at hT;refine RN 5 E I λa E=>?_;refine SS E (ae E (hT.t 2 _ rfl)) λa E=>?_;refine RN 2 E I λa E=>?_;replace E:=E.aM 33;refine RN 3 E I λa E=>?_;refine bm E (bQ E rfl (s:=33)) (ae E (hT.t 0 _ rfl)) rfl λa E=>?_;refine RN 2 E I λa E=>?_;refine bm E (bQ E rfl (s:=33)) (ae E (hT.d 2 _ rfl)) rfl λa E=>?_;refine RN 3 E I λa E=>?_;rw[bo (by simp)]at E;refine RN 5 E I λa E=>?_;refine SS E (ae E (hT.t 0 _ rfl)) λa E=>?_;refine RN 2 E I λa E=>?_;refine SS E (ae E (hT.d 2 _ rfl)) λa E=>?_;refine RN 2 E I λa E=>?_;refine SS E (ae E (qi 2 _ rfl)) λa E=>?_;refine RN 2 E I λa E=>?_;generalize hML:m.2.2.length=ML at E hm7 aej;refine cd (M:=λa w=>∃ c:Nat,(c≤eu+400∧Wc bZ (nO 2) c u)∧Fr a 149 [(8,pt K.tb)]∧U W w (TS W K bZ c u::[])) ?_ ?_
 ·
  refine RN 2 E I λa E=>?_;refine aQ (λμ a w=>∃ (i c:Nat),(μ=12-i∧(i≤12∧c≤eu+20+30*i)∧Wc bZ (nO 2) c u)∧Fr a 149 [(0,.int .i64 a0),(1,.int .u8 cH),(8,pt K.tb),(9,.int .i64 ML),(10,.int .i64 i)]∧U W w (TS W K bZ c u::[])) (12) (⟨0,_,⟨rfl,⟨by omega,by omega⟩,C0⟩,E.ab [0,1,8,9,10],I⟩) ?_;clear E I;rintro μ a w ⟨i,c,⟨rfl,⟨hi,jQ⟩,hc⟩,E,I⟩;refine BY 5 E I (λbA a E=>?_) λbA a E=>?_
  ·
   refine IF 4 E I (λbd a E=>?_) λbd a E=>?_
   ·
    have aF:i<12∧i<ML:=by omega
    refine bj 4 E I (adU (k:=ML) I (by omega) (by omega)) λy a w E ⟨hy,I⟩=>?_;refine RN 5 E I λa E=>?_;obtain⟨k,hk⟩:∃ k:Nat,k=(y+i)%ML:=⟨_,rfl⟩;have dH:k<ML:=by rw[hk];exact Nat.mod_lt _ (by omega)
    rw[show ((y:Int)+(i:Int)).tmod (ML:Int)=(k:Int) from by rw[hk];rfl]at E;have hsb:=aeg hc ⟨_,kS⟩ hm (k:=k) (by rw[hML];exact dH) (aef PL.1 (by omega) (by assumption));refine SX 4 E I (fH (by omega) (by omega)) λa E=>?_;refine CL 1 E I (sI (t:=⟨6,k,cH,(0:Nat)⟩) I hO hc (by omega)) λa w E I=>?_;refine CL 3 E I (sI (t:=⟨5,0,0,0⟩) I hO (hc.go (t:=⟨6,k,cH,(0:Nat)⟩)) (by omega)) λa w E I=>?_;refine SX 4 E I (fH (by omega) (by omega)) λa E=>?_;refine CL 1 E I (sI (t:=⟨6,k,cH,(0:Nat)⟩) I hO ((hc.go (t:=⟨6,k,cH,(0:Nat)⟩)).go (t:=⟨5,0,0,0⟩)) (by omega)) λa w E I=>?_;refine RN 0 E I λa E=>?_;have bd:=((hc.go (t:=⟨6,k,cH,(0:Nat)⟩)).go (t:=⟨5,0,0,0⟩)).go (t:=⟨6,k,cH,(0:Nat)⟩);rw[hsb]at I bd;obtain⟨M,V,jK,I⟩:=TS.view I (by omega);obtain⟨z,hz,mh⟩:=jK.get 1 (by omega);have iI:z.1.2.k.ls.length=2:=by rw[mh,(bd.ok.pl 1 (by omega)).1.wc.ls,bd.ok.kn (by omega),j7]
    obtain⟨adL,cL,zZ⟩:=PK (jK.rd I hz) (i:=0) (by omega);have H5:(z.1.2.k.ls.getD 0 []).length=3:=by rw[mh];exact pf 1 0 (by omega) (by omega)
    rw[H5]at zZ;refine RN 4 E I λa E=>?_;refine SS E (ae E ((jK.t I) 2 _ rfl)) λa E=>?_;refine RN 2 E I λa E=>?_;replace E:=E.aM 91;refine RN 3 E I λa E=>?_;refine bm E (bQ E rfl (s:=91)) (ae E ((jK.t I) 0 _ rfl)) rfl λa E=>?_;refine RN 2 E I λa E=>?_;refine bm E (bQ E rfl (s:=91)) (ae E ((jK.d I) 1 _ rfl)) rfl λa E=>?_;refine RN 1 E I λa E=>?_;refine bm E (bQ E rfl (s:=91)) (ae E (jK.ps I hz)) rfl λa E=>?_;refine RN 2 E I λa E=>?_;refine bm E (bQ E rfl (s:=91)) (ae E ((jK.rd I hz).pb 0 _ rfl)) rfl λa E=>?_;refine RN 2 E I λa E=>?_;refine bm E (bQ E rfl (s:=91)) (ae E ((jK.rd I hz).cb 10 _ rfl)) rfl λa E=>?_;refine RN 2 E I λa E=>?_;refine bm E (bQ E rfl (s:=91)) (ae E (zZ)) rfl λa E=>?_;refine RN 3 E I λa E=>?_;rw[bo (by simp)]at E;refine RN 4 E I λa E=>?_;exact⟨12-(i+1),by omega,i+1,c+10+10+10,⟨rfl,⟨by omega,by omega⟩,bd⟩,E.ab [0,1,8,9,10],jK.back I⟩
   refine RN 0 E I λa E=>?_;exact⟨c,⟨by omega,hc⟩,E.ab [8],I⟩
  refine RN 5 E I λa E=>?_;exact⟨c,⟨by omega,hc⟩,E.ab [8],I⟩
 clear E;(try clear I);rintro a w ⟨c,⟨jQ,hc⟩,E,I⟩;refine CL 3 E I (sI (t:=⟨3,0,0,0⟩) I hO hc (by omega)) λa w E I=>?_;refine RN 0 E I λa E=>?_;obtain⟨B3,_,xy,b9,_⟩:=kS.send hm 0 0;have bF:=hc.go (t:=⟨3,0,0,0⟩);have kI:=b9 1 0;rw[ak ⟨PQ.2.symm,PQ.1.symm⟩,pf 1 0 (by omega) (by omega),ag (by omega),zM]at kI;replace xy:=xy.trans j7;generalize bO bZ ⟨3,0,0,0⟩ u=Lj at I B3 xy kI bF;obtain⟨M,V,jK,I⟩:=TS.view I (by omega);obtain⟨z,hz,mh⟩:=jK.get 1 (by omega);have iI:z.1.2.k.ls.length=2:=by rw[mh,(bF.ok.pl 1 (by omega)).1.wc.ls,bF.ok.kn (by omega),xy]
 obtain⟨adL,cL,zZ⟩:=PK (jK.rd I hz) (i:=0) (by omega);have H5:(z.1.2.k.ls.getD 0 []).length=4:=by rw[mh];exact kI
 rw[H5]at zZ;obtain⟨agm,hG2⟩:=B3.iV;refine RN 4 E I λa E=>?_;refine SS E (ae E ((jK.t I) 2 _ rfl)) λa E=>?_;refine RN 1 E I λa E=>?_;replace E:=E.ei 120;refine RN 3 E I λa E=>?_;refine bm E (bQ E rfl (s:=120)) (ae E ((jK.t I) 0 _ rfl)) rfl λa E=>?_;refine RN 2 E I λa E=>?_;refine bm E (bQ E rfl (s:=120)) (ae E ((jK.d I) 1 _ rfl)) rfl λa E=>?_;refine RN 1 E I λa E=>?_;refine bm E (bQ E rfl (s:=120)) (ae E (jK.ps I hz)) rfl λa E=>?_;refine RN 2 E I λa E=>?_;refine bm E (bQ E rfl (s:=120)) (ae E ((jK.rd I hz).pb 0 _ rfl)) rfl λa E=>?_;refine RN 2 E I λa E=>?_;refine bm E (bQ E rfl (s:=120)) (ae E ((jK.rd I hz).cb 10 _ rfl)) rfl λa E=>?_;refine RN 2 E I λa E=>?_;refine bm E (bQ E rfl (s:=120)) (ae E (zZ)) rfl λa E=>?_;refine RN 4 E I λa E=>?_;rw[dh (by rfl)]at E;refine RN 3 E I λa E=>?_;refine bm E (bQ E rfl (s:=142)) (ae E ((jK.t I) 0 _ rfl)) rfl λa E=>?_;replace I:=jK.back I;refine CL 0 E I (ad7 I bF hG2 (by omega)) λa w E I=>?_;refine RT 2 E I ?_;exact⟨rfl,adM wL I⟩
end
section
set_option maxRecDepth 100000
theorem gm {x y:Bool}(h:x=true)(k:y=true):(x&&y)=true:=by rw[h,k];rfl
theorem aek {P:Program}{f:FuncId}{fn:Func}{s:ChangeSpec}{c:OpenClaim}(k1:c.wf (OpenSpec.ofChange s)=true)(k2:laidOutB P=true)(k3:mapsRowed P=true)(lp:fn.params.all (P.readableRec ·)=true)(yX:namedTie P c.named s.vars=true)
   (ael:(c.stops==[])=true) (aem:(P.stops==[])=true) (aen:(c.knobs==[])=true) (aeo:(P.stopKnobs==[])=true) (H6:(c.inPlace==P.inPlace f)=true) (CZ:(c.unfollowed==P.unfollowed f)=true) (H7:(c.recurses==P.recurses f)=true) (H8:(c.named==P.varsNamed f)=true)
   (k14:(c.maps==(fn.params.toList++s.plain.varTypes P).any (P.mapsRec ·))=true) (k15:(c.ifaces==(fn.params.toList++s.plain.varTypes P).any (P.ifacesRec ·))=true) (k16:(c.mapsOut==P.mapsAmong fn.resultTypes.toList)=true)
   (k17:(c.loops==(fn.params.toList++s.plain.varTypes P).any (P.loopsFrom ·))=true) (k18:(c.wideKeys==(fn.params.toList++s.plain.varTypes P++fn.resultTypes.toList).any (P.wideKeysFrom ·))=true) (k19:s.vars.all (P.varReadable ·)=true) (k20:fn.resultTypes.all (λt=>P.readableRec t&&decide (t<P.types.size))=true)
   (k21:(c.ifacesOut==fn.resultTypes.toList.any (P.ifacesRec ·))=true) (k22:(c.loopsOut==fn.resultTypes.toList.any (P.loopsFrom ·))=true) (k23:(c.plainKeys==P.plainKeys)=true) (k24:c.shortTexts.isNone=true) (k25:P.stopsHeard=true) (k26:P.mayEnter=true) (k27:(c.lifted==P.liftsFinal)=true) (k28:(P.make==some c.make)=true)
   (k29:(c.kinds==(if c.domain.isEmpty then [] else fn.params.toList.map λt=>match P.underlying t with | some (.int k)=>some k | _=>none))=true) (k30:(c.pinned==c.pinnedBy)=true) (k31:(c.veiled==(fn.params.toList++s.plain.varTypes P++fn.resultTypes.toList).any (P.veiledRec ·))=true) (k32:c.veiledFits P fn.params.toList (fn.params.toList++s.plain.varTypes P++fn.resultTypes.toList)=true):joinedFacts P f fn s c=true:=by
 unfold joinedFacts;exact gm (gm (gm (gm (gm (gm (gm (gm (gm (gm (gm (gm (gm (gm (gm (gm (gm (gm (gm (gm (gm (gm (gm (gm (gm (gm (gm (gm (gm (gm (gm k1 k2) k3) lp) yX) ael) aem) aen) aeo) H6) CZ) H7) H8) k14) k15) k16) k17) k18) k19) k20) k21) k22) k23) k24) k25) k26) k27) k28) k29) k30) k31) k32
theorem PR:laidOutB Tryz.prog=true:=by kernel_rfl
theorem aep:mapsRowed Tryz.prog=true:=by kernel_rfl
theorem aeq:Tryz.prog.stopsHeard=true:=by kernel_rfl
theorem aer:Tryz.prog.mayEnter=true:=by kernel_rfl
theorem aes (c:OpenClaim)(h:c.plainKeys=Rows.matchNoneRow.plainKeys):(c.plainKeys==Tryz.prog.plainKeys)=true:=by
 rw[h];kernel_rfl
theorem aet (c:OpenClaim)(h:c.lifted=Rows.matchNoneRow.lifted):(c.lifted==Tryz.prog.liftsFinal)=true:=by
 rw[h];kernel_rfl
theorem aeu (c:OpenClaim)(h:c.make=Rows.matchNoneRow.make):(Tryz.prog.make==some c.make)=true:=by
 rw[h];kernel_rfl
end
end Go.Proofs.YteoldcfapaiobaaGreat
