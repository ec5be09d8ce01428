/- quintainlaw27.World: New. -/
import Derived.Test.YteoldcfapaiobaaGreatE15HonW
import Derived.Test.YteoldcfapaiobaaGreatE14ArgC
import Derived.Test.YteoldcfapaiobaaGreatE12RefC
import Derived.Test.YteoldcfapaiobaaGreatE13RefG
import Derived.Test.YteoldcfapaiobaaGreatE06Ref
import Derived.Test.YteoldcfapaiobaaGreatRows
import Derived.KernelRfl
import Derived.JoinedOf
namespace Go.Proofs.YteoldcfapaiobaaGreat
open List (mem_cons_self nil_append map_cons length_nil getElem?_range append_nil getElem_mem mem_singleton range_succ map_replicate)
open Go.RowKit
set_option linter.unusedVariables false
set_option linter.unusedSimpArgs false
set_option maxRecDepth 10000
set_option synthInstance.maxSize 4000
set_option synthInstance.maxHeartbeats 400000
section
def y3 (W:World)(p:Pr)(ad:Option Addr)(c:Nat):Prop:=(rows dN p.ops).length=p.ops.length*4∧p.ops.length≤c∧(0<p.ops.length→∃ b off,ad=some ⟨b,off,none⟩∧b<W.heap.size∧Rd W b off (rows dN p.ops))
def B5 (W:World)(mJ:List fT)(cf:Cf)(tb:List UInt8):Prop:=∀ r∈mJ,r.gs=⟨cf.bf,cf.order,tb⟩∧aX W r.adT tb.length tb
section
variable {W w:World}{L:List SP}{n c cP cT i:Nat}{ad adP adT:Option Addr}{p:Pr}{tb:List UInt8}{cf:Cf}{gL:Bool}
theorem y3.ro (h:y3 W p ad c)(I:U W w L):U W w (aA W p ad c::L):=I.Vb h.1 h.2.1 h.2.2
theorem Rd.lt {b off:Nat}{v:Value}{vs:List Value}(h:Rd w b off (v::vs)):b<w.heap.size:=by
 have h1:=h 0 v rfl;rcases Nat.lt_or_ge b w.heap.size with h2 | h2
 ·exact h2
 ·rw[World.cell?]at h1;simp[h2]at h1
theorem U.roW (I:U W w (aA W p ad c::L)):y3 w p ad c:=by
 obtain⟨h1,h2⟩:=I.ro ad;refine⟨h1,h2,λh0=>?_⟩;obtain⟨b,off,rfl,hr⟩:=I.q6 ad h0;refine⟨b,off,rfl,?_,hr⟩;cases hl:rows dN p.ops with
 | nil=>rw[hl]at h1;simp at h1;omega
 | cons v vs=>rw[hl]at hr;exact hr.lt
theorem Oj (I:U W w L):∀ n:Nat,U W w (ah eU (List.replicate n (none,0,[]))::L)
 | 0=>U.iN I
 | n+1=>U.vl (f:=eU) (x:=(none,0,[])) ((Oj I n).bN 102 3 none)
set_option maxHeartbeats 1000000 in
theorem acS (fV:nn (dx cf 0) p tb)(I:U W w L)(y4:y3 W p adP cP)(hn:tb.length=n)(a6:dh p)(aG:p.title.size≤1000000000)(dV:p.ops.length≤1000000000)(eK:tb.length≤1099511627776)(hT:∀ w',U W w' []→aX w' adT tb.length tb) :
   Calls Tryz.prog 30 #[.agg (bT cf).toArray,.agg (bP p adP cP).toArray,.slice adT n cT,.bool gL] w λr w'=>∃ (B:ju) (D:nP),r=.returned (pt D.wb)∧(D.mb=B.mb∧u1 B.fq cf tb gL cf.n.toNat∧B5 W D.mJ cf tb)∧U W w' (aN W B p 0 (fh p cf cf.n.toNat)::bF W D p (fh p cf cf.n.toNat)::L):=by
 have pq:=fV.1.1.1;unfold fx at pq;obtain⟨N,hN⟩:∃ N:Nat,(dx cf 0).n=N:=⟨(dx cf 0).n.toNat,by omega⟩;replace hN:cf.n=N:=hN;have hN2:2≤N∧N≤8:=by
  have h1:(dx cf 0).n=cf.n:=rfl;omega
 have hTW:aX W adT tb.length tb:=hT W (U.start W);rw[show cf.n.toNat=N from by omega];refine EN Tryz.func30 Tryz.ntmps30 rfl rfl λa E=>?_;refine BX 1 E I λb4 a w E I=>?_;change U W w (aa b4 28 (bT cf)::_) at I;refine BX 0 E I λb5 a w E I=>?_;change U W w (aa b5 45 (bP p adP cP)::_) at I;refine ST 3 E I (λa w E I=>?_);refine RN 0 E I λa E=>?_;change U W w (aa b4 28 (bT (dx cf 0))::_) at I;refine RN 5 E I λa E=>?_;replace I:=y4.ro I;refine bh 0 E I (NY (cf:=dx cf 0) fV I hn aG dV eK (λw' dc=>hT _ dc.nil)) λB a w E ⟨hB,I⟩=>?_;refine RN 5 E I λa E=>?_;rw[show (dx cf 0).n.toNat=N from by show cf.n.toNat=N;omega]at I hB;replace I:U W w (aN W B p 0 (fh p cf N)::aA W p adP cP::_):=I;replace I:=I.sub (M:=aN W B p 0 (fh p cf N)::aa b4 28 (bT (dx cf 0))::aa b5 45 (bP p adP cP)::L);refine RN 5 E I λa E=>?_;replace E:=E.aM 24;refine RN 3 E I λa E=>?_;replace E:=E.aM 27;refine RN 5 E I λa E=>?_;rw[show (dx cf 0).n=(N:Int) from hN]at E;refine qP E rfl I Tryz.underlying38 Ty.t70 rfl (by omega) (by omega) λts a w E I ho=>?_;clear ho;rw[Bn _ rfl]at I;refine BX 1 E I λjB a w E I=>?_;refine RN 1 E I λa E=>?_;replace I:=U.iN (f:=da W p) (I.bN 34 1 none);refine RN 3 E I λa E=>?_;refine aO (λμ a w=>∃ (i:Nat) (adL:Option Addr) (cL:Nat) (rs:List (fT×Pl)) (me:Int),(μ=N-i∧(i≤N∧rs.length=i)∧rs.map (·.2)=(List.range i).map (λi=>ey p (dx cf i))∧B5 W (rs.map (·.1)) cf tb)∧Fr a 56 [(2,.slice adT n cT),(4,pt b4),(5,pt b5),(11,pt jB),(12,.int .i64 i)]∧U W w (aa jB 40 [pt B.mb,.slice adL i cL,.slice none 0 0,.slice (some ⟨ts,0,none⟩) N N]::Sl 34 1 adL i cL (rs.map dy)::ah (da W p) rs::aa ts 70 (List.replicate N (.slice none 0 0))::aa b4 28 (bT { cf with me:=me })::aa b5 45 (bP p adP cP)::aN W B p 0 (fh p cf N)::L)) (N) (⟨0,none,0,[],0,⟨rfl,⟨by omega,rfl⟩,rfl,λr h=>by cases h⟩,E.ab [2,4,5,11,12],(show U W w (ah (da W p) []::Sl 34 1 none 0 0 (([]:List (fT×Pl)).map dy)::aa jB 40 _::aa ts 70 _::aN W B p 0 (fh p cf N)::aa b4 28 (bT { cf with me:=0 })::_) from I).sub⟩) ?_;clear E I;rintro μ a w ⟨i,adL,cL,rs,me,⟨rfl,⟨hi,gl⟩,eX,j1⟩,E,I⟩;refine RN 5 E I λa E=>?_;rw[hN]at E;refine IF 1 E I (λao a E=>?_) λao a E=>?_
 ·
  have aH:i<N:=by omega
  have GW:=NW (i:=i) fV (by show (i:Int)<(dx cf 0).n;rw[show (dx cf 0).n=(N:Int) from hN];omega);refine ST 4 E I (λa w E I=>?_);refine RN 0 E I λa E=>?_;replace I:U W w (aa b4 28 (bT (dx cf i))::_):=I;refine aV 0 (λw0 w'=>Rd w' jB 0 [pt B.mb,.slice adL i cL,.slice none 0 0,.slice (some ⟨ts,0,none⟩) N N]∧Rd w' b4 0 (bT (dx cf i))∧Rd w' b5 0 (bP p adP cP)) [5,6,8,9] [0,1,2,3,7,3004,3005,1006,1008,1009,1010,11,12,1013] E I λa w E I hH=>?_;have hC:=hH.at w ⟨I.ai (b:=jB),I.ai (b:=b4),I.ai (b:=b5)⟩;refine RH 5 E I hH hC λa E=>?_;refine QH E (λw hc=>ae E (hc.1 1 _ rfl)) hC λa E=>?_;refine QH E (λw hc=>bS E Tryz.underlying28 rfl Ty.t28 (hc.2.1)) hC λa E=>?_;refine RH 0 E I hH hC λa E=>?_;refine SS E (bS E Tryz.underlying45 rfl Ty.t45 (hC.2.2)) λa E=>?_;replace I:=y4.ro I;refine RH 0 E I hH hC λa E=>?_;refine bh 0 E I (abL (cf:=dx cf i) GW.1 I hn a6 aG) λr a w E ⟨hr,I⟩=>?_;replace hC:=hH.at w ⟨I.ai (b:=jB),I.ai (b:=b4),I.ai (b:=b5)⟩;refine RH 0 E I hH hC λa E=>?_;refine cr E rfl I Tryz.underlying36 Ty.t34 rfl rfl rfl rfl (by decide) (by decide) λQ2 a w E I ho=>?_;clear ho;replace hC:=hH.at w ⟨I.ai (b:=jB),I.ai (b:=b4),I.ai (b:=b5)⟩;refine RH 0 E I hH hC λa E=>?_;refine cK E rfl I Tryz.underlying36 Ty.t34 rfl rfl I.ai rfl (by simp[Value.oneCell']) (by decide) (by decide) (by omega) λrq rr a w E I=>?_;rw[show List.map dy rs++_=(rs++[((r:fT),ey p (dx cf i))]).map dy from by rw[cW];rfl]at I;refine ST 2 E I (λa w E I=>?_);refine RN 3 E I λa E=>?_;have kz:U W w (da W p (r,ey p (dx cf i))::_):=(I.pick (ah (da W p) rs)).pick (b0 W r p (ey p (dx cf i)));have hA:=U.jM (f:=da W p) (x:=(r,ey p (dx cf i))) kz;refine⟨N-(i+1),by omega,i+1,rq,rr,rs++[(r,ey p (dx cf i))],i,⟨rfl,⟨by omega,by rw[aL,gl];rfl⟩,?_,?_⟩,E.ab [2,4,5,11,12],?_⟩
  ·rw[cW,eX,range_succ,cW];rfl
  ·intro x hx;rw[cW]at hx;rcases eP.1 hx with hx | hx
   ·exact j1 x hx
   ·rw[mem_singleton.1 hx,hr.2];exact⟨hr.1,hTW⟩
  ·rw[show ({ cf with me:=(i:Int) }:Cf)=dx cf i from rfl];exact hA.sub
 obtain rfl:i=N:=by omega
 refine RT 3 E I ?_;have h1:=I.jJ ts;rw[show List.replicate i (Value.slice none 0 0)=[]++(List.replicate i ((none,0,[]):ka)).map bx++[] from by rw[nil_append,append_nil,map_replicate];rfl]at h1;have h2:=Oj (U.iM (n:=i) (c:=i) (sz:=1) h1 (by rw[bd,ko,Nat.mul_one]) (a7 _) (by simp)) i;simp only[length_nil]at h2;have h3:=cm.nil (e:=60) h2;refine⟨B,⟨jB,B.mb,rs.map (·.1)⟩,rfl,⟨rfl,hB,j1⟩,?_⟩;have h4:U W w (bF W ⟨jB,B.mb,rs.map (·.1)⟩ p (fh p cf i)::aN W B p 0 (fh p cf i)::L):=by
  refine bF.close (adP:=adL) (cP:=cL) (adN:=none) (cN:=0) (adE:=some ⟨ts,0,none⟩) (cE:=i) (xs:=rs) (es:=List.replicate i (none,0,[])) ?_ rfl eX (by rw[map_replicate];rfl);rw[gl,ko];exact h3.sub (M:=aa jB 40 [pt B.mb,.slice adL i cL,.slice none 0 0,.slice (some ⟨ts,0,none⟩) i i]::Sl 34 1 adL i cL (rs.map dy)::ah (da W p) rs::cm 60 none 0 0 []::Sl 70 1 (some ⟨ts,0,none⟩) i i ((List.replicate i ((none,0,[]):ka)).map bx)::ah eU (List.replicate i (none,0,[]))::aN W B p 0 (fh p cf i)::L)
 exact h4.sub
end
end
section
abbrev oW:=(fT×Pl)×(mH×List dY)
def kc (W:World)(p:Pr)(y:oW):SP:=λh=>bj y.2.2=y.1.2.k.ls∧cn [aa y.1.1.pb 51 (eT p y.1.1 y.1.2.g),aa y.1.1.core.cb 72 (cR y.1.2.k y.1.1.core y.2.1),Sl 65 1 (some ⟨y.1.1.core.lb,y.1.1.core.lo,none⟩) y.1.2.k.ls.length y.1.1.core.cL (y.2.2.map aK),ah a8 y.2.2,
 aa y.1.1.core.hb 3 (e6 y.1.2.k.ps),aa y.1.1.core.dU 3 (eS y.1.2.k.ps),aa y.1.1.core.wb 313 (rows e8 y.1.2.k.ps),aa y.1.1.core.xb 4 (e7 y.1.2.k.ps),Sl 100 1 y.2.1.cj y.1.2.k.mr.length y.2.1.cM (c0 y.1.2.k.mr),Sl 102 3 y.2.1.adE y.1.2.k.ev.length y.2.1.cE (rows bU y.1.2.k.ev),aA W p y.1.1.aq y.1.1.cO] h
structure y5 (w:World)(p:Pr)(y:oW):Prop where
 pb:Rd w y.1.1.pb 0 (eT p y.1.1 y.1.2.g)
 cb:Rd w y.1.1.core.cb 0 (cR y.1.2.k y.1.1.core y.2.1)
 ls:hU w (some ⟨y.1.1.core.lb,y.1.1.core.lo,none⟩) y.2.2
 eq:bj y.2.2=y.1.2.k.ls
 mr:0<y.1.2.k.mr.length→∃ b o,y.2.1.cj=some ⟨b,o,none⟩∧Rd w b o (c0 y.1.2.k.mr)
section
variable {W w:World}{L:List SP}{n i:Nat}{p:Pr}{xs:List (fT×Pl)}{ys:List oW}{y:oW}{k:Ks}{C:nM}{A:mH}{xl:List dY}
theorem acT {x:fT×Pl}(I:U W w (da W p x::L)):∃ z,U W w (kc W p (x,z)::L):=by
 replace I:U W w (b0 W x.1 p x.2::L):=I;obtain⟨A,I⟩:=aZ.open ((b0.open I).pick (aZ x.1.core x.2.k));obtain⟨xl,bW,I⟩:=bM.open (I.pick (bM x.1.core.lb x.1.core.lo x.1.core.cL x.2.k.ls));refine⟨(A,xl),U.shut (M:=[_,_,_,_,_,_,_,_,_,_,_]) (I.sub (M:=aa x.1.pb 51 (eT p x.1 x.2.g)::aa x.1.core.cb 72 (cR x.2.k x.1.core A)::Sl 65 1 (some ⟨x.1.core.lb,x.1.core.lo,none⟩) x.2.k.ls.length x.1.core.cL (xl.map aK)::ah a8 xl::aa x.1.core.hb 3 (e6 x.2.k.ps)::aa x.1.core.dU 3 (eS x.2.k.ps)::aa x.1.core.wb 313 (rows e8 x.2.k.ps)::aa x.1.core.xb 4 (e7 x.2.k.ps)::Sl 100 1 A.cj x.2.k.mr.length A.cM (c0 x.2.k.mr)::Sl 102 3 A.adE x.2.k.ev.length A.cE (rows bU x.2.k.ev)::aA W p x.1.aq x.1.cO::L)) λ_ h=>⟨bW,h⟩⟩
theorem kc.open (I:U W w (kc W p y::L)):bj y.2.2=y.1.2.k.ls∧U W w (aa y.1.1.pb 51 (eT p y.1.1 y.1.2.g)::aa y.1.1.core.cb 72 (cR y.1.2.k y.1.1.core y.2.1)::Sl 65 1 (some ⟨y.1.1.core.lb,y.1.1.core.lo,none⟩) y.1.2.k.ls.length y.1.1.core.cL (y.2.2.map aK)::ah a8 y.2.2 ::
 aa y.1.1.core.hb 3 (e6 y.1.2.k.ps)::aa y.1.1.core.dU 3 (eS y.1.2.k.ps)::aa y.1.1.core.wb 313 (rows e8 y.1.2.k.ps)::aa y.1.1.core.xb 4 (e7 y.1.2.k.ps)::Sl 100 1 y.2.1.cj y.1.2.k.mr.length y.2.1.cM (c0 y.1.2.k.mr)::Sl 102 3 y.2.1.adE y.1.2.k.ev.length y.2.1.cE (rows bU y.1.2.k.ev)::aA W p y.1.1.aq y.1.1.cO::L) :=
 ⟨I.tell λ_ h=>h.1,I.open (M:=[_,_,_,_,_,_,_,_,_,_,_]) λ_ h=>h.2⟩
theorem acU (I:U W w (kc W p y::L)):U W w (da W p y.1::L):=by
 obtain⟨bW,I⟩:=kc.open I;replace I:=bM.close ((I.pick (ah a8 y.2.2)).pick (Sl 65 1 (some ⟨y.1.1.core.lb,y.1.1.core.lo,none⟩) y.1.2.k.ls.length y.1.1.core.cL (y.2.2.map aK))) bW;replace I:=aZ.fold I y.1.1.core y.1.2.k y.2.1;exact b0.fold I y.1.1 p y.1.2
theorem B6:∀ {xs:List (fT×Pl)} {L:List SP},U W w (ah (da W p) xs::L)→∃ ys:List oW,ys.map (·.1)=xs∧U W w (ah (kc W p) ys::L)
 | [],_,I=>⟨[],rfl,U.iN I.tail⟩
 | x::xs,L,I=>by
  have h1:U W w (da W p x::ah (da W p) xs::L):=U.fu (l:=x::xs) (i:=0) I (by simp);obtain⟨z,h2⟩:=acT h1;obtain⟨ys,h3,h4⟩:=B6 (h2.pick (ah (da W p) xs));exact⟨(x,z)::ys,by rw[map_cons,h3],U.vl (h4.pick (kc W p (x,z)))⟩
theorem B7:∀ {ys:List oW} {L:List SP},U W w (ah (kc W p) ys::L)→U W w (ah (da W p) (ys.map (·.1))::L)
 | [],_,I=>U.iN I.tail
 | y::ys,L,I=>by
  have h1:U W w (kc W p y::ah (kc W p) ys::L):=U.fu (l:=y::ys) (i:=0) I (by simp);have h2:=B7 ((acU h1).pick (ah (kc W p) ys));exact U.vl (h2.pick (da W p y.1))
theorem B8 (I:U W w (ah (kc W p) ys::L))(hy:ys[i]?=some y):y5 w p y:=by
 obtain⟨hi,h1⟩:=a2.1 hy;replace I:=I.fu hi;rw[h1]at I;obtain⟨h2,I⟩:=kc.open I;refine⟨I.ai (b:=y.1.1.pb),I.ai (b:=y.1.1.core.cb),?_,h2,λh0=>?_⟩
 ·exact U.oN ((I.pick (ah a8 y.2.2)).pick (Sl 65 1 (some ⟨y.1.1.core.lb,y.1.1.core.lo,none⟩) y.1.2.k.ls.length y.1.1.core.cL (y.2.2.map aK)))
 ·exact (I.pick (Sl 100 1 y.2.1.cj y.1.2.k.mr.length y.2.1.cM (c0 y.1.2.k.mr))).bV y.2.1.cj h0
theorem G7 (I:U W w L)(hk:WC k)(bW:bj xl=k.ls)(hp:∀ w',U W w' L→Rd w' C.cb 0 (cR k C A)∧hU w' (some ⟨C.lb,C.lo,none⟩) xl) :
   Calls Tryz.prog 19 #[pt C.cb] w λr w'=>r=.returned (.int .i64 (aw k))∧U W w' L:=by
 have hn:=hk.n;have eQ:=hk.ls;have gF:k.ls.length=xl.length:=by rw[← bW,fS]
 refine EN Tryz.func19 Tryz.ntmps19 rfl rfl λa E=>?_;refine RN 6 E I λa E=>?_;refine SS E (ae E ((hp _ I).1 10 _ rfl)) λa E=>?_;rw[gF]at E;refine CL 0 E I (Bg (xs:=xl) I (by omega) (by omega) (λw' hw=>(hp w' hw).2)) λa w E I=>?_;rw[bW]at E;refine RT 1 E I ?_;exact⟨rfl,I⟩
theorem acV (I:U W w L)(hk:WC k)(bW:bj xl=k.ls)(hp:∀ w',U W w' L→Rd w' C.cb 0 (cR k C A)∧hU w' (some ⟨C.lb,C.lo,none⟩) xl) :
   Calls Tryz.prog 20 #[pt C.cb] w λr w'=>r=.returned (.int .i64 (aD k))∧U W w' L:=by
 have hn:=hk.n;have eQ:=hk.ls;have ek:=hk.me;have gF:k.ls.length=xl.length:=by rw[← bW,fS]
 refine EN Tryz.func20 Tryz.ntmps20 rfl rfl λa E=>?_;refine bQ 3 [8] [0,1,2,4,5,6,7,3003,1008,9,10,1011,12,13] E I λa w E I hH hC=>?_;obtain⟨wy,Ol⟩:=hp _ I;obtain⟨lX,ol,y,uJ,hy,ni,oM⟩:=Ol.at (i:=k.me) (by omega);cases uJ;have iH:aD k=y.2.2.length:=by
  show (k.ls.getD k.me []).length=_;rw[← bW,rI hy]
 clear Ol;refine RH 7 E I hH hC λa E=>?_;refine QH E (λw hc=>ae E (hc.cell (wy 10 _ rfl))) hC λa E=>?_;rw[gF]at E;refine RH 0 E I hH hC λa E=>?_;refine SS E (ae E (wy 1 _ rfl)) λa E=>?_;refine RH 2 E I hH hC λa E=>?_;refine SS E (ae E (ni)) λa E=>?_;rw[aK]at E;refine RH 2 E I hH hC λa E=>?_;refine RT 0 E I ?_;exact⟨by rw[iH],I⟩
end
end
section
section
variable {W w:World}{L:List SP}{c i:Nat}{p:Pr}{v:Wd}{B:ju}{D:nP}{t:fH}{cf:Cf}{tb:List UInt8}{gL:Bool}
instance fJ.isNil (z:fJ):tu z.mul (!z.yY):=⟨by
 cases z with
 | mu M=>exact .inr ⟨⟨_,rfl⟩,rfl⟩
 | pl B=>exact .inl ⟨rfl,rfl⟩⟩
theorem fJ.acW {z:fJ}(h:z.yY=true):∃ M,z=.mu M:=by
 cases z with
 | mu M=>exact⟨M,rfl⟩
 | pl B=>cases h
theorem acX {adL adE iy:Option Addr}{cL cE iz:Nat}{xs:List (fB×Pl)}{es:List ka}{l:List j6}(I:U W w (aa B.mb 107 [.slice adL xs.length cL,pt B.q,.slice adE es.length cE]::Sl 81 1 adL xs.length cL (xs.map cF)::Sl 90 1 adE es.length cE (es.map bx)::ah eA es::L))(hi:i<xs.length)(k9:es[i]?=some (iy,iz,l))(hl:l.length≤1000000000) :
   Calls Tryz.prog 34 #[pt B.mb,.int .i64 i] w λe w'=>∃ ad c',e=.returned (.slice ad l.length c')∧U W w' (Sl 135 1 ad l.length c' (l.map cA)::aa B.mb 107 [.slice adL xs.length cL,pt B.q,.slice adE es.length cE]::Sl 81 1 adL xs.length cL (xs.map cF)::Sl 90 1 adE es.length cE (es.map bx)::ah eA es::L):=by
 obtain⟨wT,oS⟩:=a2.1 k9;refine EN Tryz.func34 Tryz.ntmps34 rfl rfl λa E=>?_;refine CL 6 E I (rN I hi) λa w E I=>?_;refine RN 1 E I λa E=>?_;replace E:=E.aM 8;refine RN 2 E I λa E=>?_;obtain⟨iK,oE,rfl,gl⟩:=(I.pick (Sl 90 1 adE es.length cE (es.map bx))).bV adE (by omega);have lO:=gl i (.slice iy l.length iz) (by rw[bm,k9];rfl);refine RN 6 E I λa E=>?_;refine SS E (ae E (lO)) λa E=>?_;replace I:=(I.pick (ah eA es)).fu wT;rw[oS]at I;change U W w (Sl 135 1 iy l.length iz (l.map cA)::_) at I;refine aY 0 E I (NA I hl) λad2 c2 a w E I=>?_;refine RT 1 E I ?_;refine⟨ad2,c2,rfl,?_⟩;have h4:=(I.pick (ah eA (es.eraseIdx i))).pick (Sl 135 1 iy l.length iz (l.map cA));have h5:U W w (ah eA es::_):=U.wM (f:=eA) wT (by rw[oS];exact h4);exact h5.sub
theorem G8 {xs:List (fB×Pl)}{x:fB}{s:Pl}(I:U W w (x.J W p c s::ah (cB W p c) (xs.eraseIdx i)::L))(hx:xs[i]?=some (x,s)):U W w (ah (cB W p c) xs::L):=by
 obtain⟨hi,h1⟩:=a2.1 hx;refine U.wM hi ?_;rw[h1];exact I
set_option maxHeartbeats 2000000 in
theorem acY (I:U W w (aN W B p c v::bF W D p v::L))(wU:D.mb=B.mb)(hB:B.Ok p c)(hv:bL p cf c v)(hP:u1 B.fq cf tb gL v.ps.length)(qz:B5 W D.mJ cf tb)(fA:cX ⟨cf.bf,cf.order,tb⟩)(jY:9*c+100≤1000000000) :
   Calls Tryz.prog 33 #[pt D.wb] w λe w'=>e=.returned (.bool true)∧U W w' (aN W B p c v::bF W D p v::L):=by
 replace I:=aN.wP I;obtain⟨adL,cL,adE,cE,xs,es,⟨eH,df,ed⟩,I⟩:=I;replace I:=bF.open (I.pick (bF W D p v));obtain⟨adP,cP,adN,cN,gx,gg,rs,fs,⟨fZ,gA,k6⟩,I⟩:=I;rw[wU]at I;obtain⟨ys,nQ,iH,I⟩:=cm.open (I.pick (cm 60 adN v.net.length cN v.net));have bW:xs.length=v.ps.length:=by rw[← df,bd]
 have gl:rs.length=v.ps.length:=by rw[← gA,bd]
 have lE:ys.length=v.net.length:=by rw[← nQ,bd]
 have mX:=hv.net.1;have acE:es.length=v.ps.length:=by rw[← hv.ev,← ed,bd]
 have afr:fs.length=v.ps.length:=by rw[← hv.ev,← k6,bd]
 have NJ:=hv.ev;have wG:=hv.len;replace I:U W w (aa B.mb 107 [.slice adL xs.length cL,pt B.q,.slice adE es.length cE]::Sl 81 1 adL xs.length cL (xs.map cF)::ah (cB W p c) xs::bK B.q (v.net.map cS)::Sl 90 1 adE es.length cE (es.map bx)::ah eA es::aa D.wb 40 [pt B.mb,.slice adP rs.length cP,.slice adN v.net.length cN,.slice gx fs.length gg]::Sl 34 1 adP rs.length cP (rs.map dy)::ah (da W p) rs::Sl 60 3 adN v.net.length cN (rows b9 ys)::ah ca ys::Sl 70 1 gx fs.length gg (fs.map bx)::ah eU fs::L):=I.sub;refine EN Tryz.func33 Tryz.ntmps33 rfl rfl λa E=>?_;refine aV 4 (λw0 w'=>Rd w' D.wb 0 [pt B.mb,.slice adP rs.length cP,.slice adN v.net.length cN,.slice gx fs.length gg]) [4,5,9,10] [0,1,2,6,7,8,3003,3009,3010,1004,1005,11] E I λa w E I hH=>?_;have hC:=hH.at w (I.ai (b:=D.wb));refine RH 6 E I hH hC λa E=>?_;refine QH E (λw hc=>ae E (hc 0 _ rfl)) hC λa E=>?_;refine QH E (λw hc=>ae E (hc 2 _ rfl)) hC λa E=>?_;refine RH 1 E I hH hC λa E=>?_;refine CL 0 E I (BH (I.pick (aa B.mb 107 [.slice adL xs.length cL,pt B.q,.slice adE es.length cE]))) λa w E I=>?_;replace hC:=hH.at w (I.ai (b:=D.wb));refine RH 0 E I hH hC λa E=>?_;refine CL 0 E I (Nh (I.pick (bK B.q (v.net.map cS)))) λa w E I=>?_;replace hC:=hH.at w (I.ai (b:=D.wb));rw[bd]at E;refine RH 1 E I hH hC λa E=>?_;rw[bq (by simp)]at E;refine RN 4 E I λa E=>?_;refine aO (λμ a w=>∃ (i:Nat),(μ=v.net.length-i∧i≤v.net.length)∧Fr a 150 [(0,pt D.wb),(3,.int .i64 i)]∧U W w (aa B.mb 107 [.slice adL xs.length cL,pt B.q,.slice adE es.length cE]::Sl 81 1 adL xs.length cL (xs.map cF)::ah (cB W p c) xs::bK B.q (v.net.map cS)::Sl 90 1 adE es.length cE (es.map bx)::ah eA es::aa D.wb 40 [pt B.mb,.slice adP rs.length cP,.slice adN v.net.length cN,.slice gx fs.length gg]::Sl 34 1 adP rs.length cP (rs.map dy)::ah (da W p) rs::Sl 60 3 adN v.net.length cN (rows b9 ys)::ah ca ys::Sl 70 1 gx fs.length gg (fs.map bx)::ah eU fs::L)) (v.net.length) (⟨0,⟨rfl,by omega⟩,E.ab [0,3],I.sub⟩) ?_;clear E I;rintro μ a w ⟨i,⟨rfl,hi⟩,E,I⟩;refine IF 9 E I (λao a E=>?_) λao a E=>?_
 ·
  have aH:i<v.net.length:=by omega
  obtain⟨y,hy,acZ⟩:∃ y,ys[i]?=some y∧v.net[i]?=some y.2.2:=by
   refine⟨_,aE (by omega),?_⟩;rw[← nQ,bm,aE (by omega)];rfl
  obtain⟨bC,on,rfl,_⟩:=(I.pick (Sl 60 3 adN v.net.length cN (rows b9 ys))).bV adN (by omega);refine CL 6 E I (BH (I.pick (aa B.mb 107 [.slice adL xs.length cL,pt B.q,.slice adE es.length cE]))) λa w E I=>?_;refine aY 1 E I (GL (I.pick (bK B.q (v.net.map cS))) acZ) λam jv a w E I=>?_;refine AL 3 E I λb4 a w E I=>?_;refine SA 0 E I λa w E I=>?_;refine aV 2 (λw0 w'=>(Rd w' b4 0 [.int .i64 y.2.2.1,.int .i64 y.2.2.2.1,.slice am y.2.2.2.2.length jv]∧Rd w' D.wb 0 [pt B.mb,.slice adP rs.length cP,.slice (some ⟨bC,on,none⟩) v.net.length cN,.slice gx fs.length gg])∧Rd w' bC (on+i*3) (b9 y)∧aX w' am y.2.2.2.2.length y.2.2.2.2∧aX w' y.1 y.2.2.2.2.length y.2.2.2.2) [8,10,11,12,21,23,24,25,35,37,38,39,40] [0,1,2,3,5,6,7,9,3004,1008,1010,1011,1012,13,14,15,16,18,19,20,22,3017,1021,1023,1024,1025,26,27,28,29,32,33,34,36,3030,3031,1035,1037,1038,1039,1040,41,42] E I λa w E I hH=>?_;have hC:=hH.at w ⟨⟨I.ai (b:=b4),I.ai (b:=D.wb)⟩,jo oJ (I.cJ bC on (by omega)) hy,I.cu am _ rfl rfl,GZ (I.pick (ah ca ys)) hy⟩;refine RH 3 E I hH hC λa E=>?_;replace E:=E.aM 41;refine RH 5 E I hH hC λa E=>?_;refine QH E (λw hc=>ae E (hc.1.1 0 _ rfl)) hC λa E=>?_;refine RH 0 E I hH hC λa E=>?_;refine bo E (b7 E rfl (s:=41)) (ae E (hC.1.2 2 _ rfl)) rfl λa E=>?_;refine RH 2 E I hH hC λa E=>?_;refine bo E (b7 E rfl (s:=41)) (ae E (hC.2.1 0 _ rfl)) rfl λa E=>?_;refine RH 3 E I hH hC λa E=>?_;rw[bq (by omega)]at E;refine RH 5 E I hH hC λa E=>?_;refine QH E (λw hc=>ae E (hc.1.1 1 _ rfl)) hC λa E=>?_;refine RH 0 E I hH hC λa E=>?_;refine bo E (b7 E rfl (s:=54)) (ae E (hC.1.2 2 _ rfl)) rfl λa E=>?_;refine RH 2 E I hH hC λa E=>?_;refine bo E (b7 E rfl (s:=54)) (ae E (hC.2.1 1 _ rfl)) rfl λa E=>?_;refine RH 3 E I hH hC λa E=>?_;rw[bq (by omega)]at E;refine RH 5 E I hH hC λa E=>?_;refine QH E (λw hc=>ae E (hc.1.1 2 _ rfl)) hC λa E=>?_;refine QH E (λw hc=>lj E Tryz.underlying22 Tryz.underlying5 Tryz.underlying9 (hc.2.2.1)) hC λa E=>?_;refine RH 0 E I hH hC λa E=>?_;refine bo E (b7 E rfl (s:=67)) (ae E (hC.1.2 2 _ rfl)) rfl λa E=>?_;refine RH 2 E I hH hC λa E=>?_;refine bo E (b7 E rfl (s:=67)) (ae E (hC.2.1 2 _ rfl)) rfl λa E=>?_;refine RH 0 E I hH hC λa E=>?_;refine bo E (b7 E rfl (s:=67)) (lj E Tryz.underlying22 Tryz.underlying5 Tryz.underlying9 (hC.2.2.2)) rfl λa E=>?_;refine RH 0 E I hH hC λa E=>?_;refine QP E (λw=>JX E) λa E=>?_;rw[p9,beq_self_eq_true,Bool.not_true]at E;refine RH 1 E I hH hC λa E=>?_;replace E:=E.aM 81;refine RN 4 E I λa E=>?_;exact⟨v.net.length-(i+1),by omega,i+1,⟨rfl,by omega⟩,E.ab [0,3],I.sub⟩
 refine RN 3 E I λa E=>?_;refine aO (λμ a w=>∃ (i:Nat),(μ=v.ps.length-i∧i≤v.ps.length)∧Fr a 150 [(0,pt D.wb),(6,.int .i64 i)]∧U W w (aa B.mb 107 [.slice adL xs.length cL,pt B.q,.slice adE es.length cE]::Sl 81 1 adL xs.length cL (xs.map cF)::ah (cB W p c) xs::bK B.q (v.net.map cS)::Sl 90 1 adE es.length cE (es.map bx)::ah eA es::aa D.wb 40 [pt B.mb,.slice adP rs.length cP,.slice adN v.net.length cN,.slice gx fs.length gg]::Sl 34 1 adP rs.length cP (rs.map dy)::ah (da W p) rs::Sl 60 3 adN v.net.length cN (rows b9 ys)::ah ca ys::Sl 70 1 gx fs.length gg (fs.map bx)::ah eU fs::L)) (v.ps.length) (⟨0,⟨rfl,by omega⟩,E.ab [0,6],I.sub⟩) ?_;clear E I;rintro μ a w ⟨i,⟨rfl,hi⟩,E,I⟩;refine IF 9 E I (λbk a E=>?_) λbk a E=>?_
 ·
  have aH:i<v.ps.length:=by omega
  obtain⟨x,hx,oR⟩:∃ x,xs[i]?=some (x,an v i)∧B.fq[i]?=some x:=GN eH df (by omega);obtain⟨_,gX⟩:=a2.1 hx;obtain⟨r,hr⟩:∃ r,rs[i]?=some (r,an v i):=BV gA (by omega);have tn:(rs.map dy)[i]?=some (pt r.pb):=by rw[bm,hr];rfl
  have lA:r∈D.mJ:=by rw[← fZ];exact cV.2 ⟨_,bH hr,rfl⟩
  obtain⟨G9,D4⟩:=qz r lA;have hxG:=hP.2 x (bH oR);have hM:=x.qw (W:=W) (p:=p) hB.pr hB.sz (hB.gs x (bH oR));obtain⟨hw,c9,wO⟩:=hv.pl i aH;have ky:=hB.c;obtain⟨iy,iz,l,k9⟩:∃ iy iz l,es[i]?=some (iy,iz,l):=⟨_,_,_,aE (by omega)⟩;obtain⟨wT,oS⟩:=a2.1 k9;have qv:v.ev.getD i []=l:=by rw[← ed,bn,bm,k9];rfl
  obtain⟨y6,y7,oA⟩:∃ y6 y7,fs[i]?=some (y6,y7,l):=by
   have h1:(fs.map (·.2.2))[i]?=some l:=by rw[k6,← qv,bn,aE (by omega)];rfl
   rw[bm,aE (by omega)]at h1;refine⟨fs[i].1,fs[i].2.1,?_⟩;rw[aE (by omega),← Option.some.inj h1]
  obtain⟨wu,Om⟩:=a2.1 oA;obtain⟨gF,hlo⟩:=hv.kD l (by rw[← qv];exact BC (by omega));have hQ:l.length≤1000000000:=by omega
  obtain⟨bp,op,rfl,_⟩:=(I.pick (Sl 34 1 adP rs.length cP (rs.map dy))).bV adP (by omega);obtain⟨iV,oF,rfl,_⟩:=(I.pick (Sl 70 1 gx fs.length gg (fs.map bx))).bV gx (by omega);refine aV 3 (λw0 w'=>(Rd w' D.wb 0 [pt B.mb,.slice (some ⟨bp,op,none⟩) rs.length cP,.slice adN v.net.length cN,.slice (some ⟨iV,oF,none⟩) fs.length gg]∧Rd w' bp op (rs.map dy))∧Rd w' iV oF (fs.map bx)) [5,9,11,12,21,22,26,28,29] [0,1,2,4,6,7,8,10,3003,3009,3011,3012,1005,1013,14,15,16,17,18,20,23,24,25,27,3019,3026,3028,3029,1021,1022,1030,31,32] E I λa w E I hH=>?_;have hC:=hH.at w ⟨⟨I.ai (b:=D.wb),I.cJ bp op (by omega)⟩,I.cJ iV oF (by omega)⟩;refine RH 8 E I hH hC λa E=>?_;refine QH E (λw hc=>ae E (hc.1.1 0 _ rfl)) hC λa E=>?_;refine QH E (λw hc=>ae E (hc.1.1 1 _ rfl)) hC λa E=>?_;refine RH 1 E I hH hC λa E=>?_;refine QH E (λw hc=>ae E (hc.1.2 i _ tn)) hC λa E=>?_;refine RH 0 E I hH hC λa E=>?_;refine CL 0 E I (rN ((I.pick (Sl 81 1 adL xs.length cL (xs.map cF))).pick (aa B.mb 107 [.slice adL xs.length cL,pt B.q,.slice adE es.length cE])) (by omega)) λa w E I=>?_;replace hC:=hH.at w ⟨⟨I.ai (b:=D.wb),I.cJ bp op (by omega)⟩,I.cJ iV oF (by omega)⟩;rw[show cF xs[i]=.iface x.z.t (.pointer (some x.z.ad)) from by rw[gX]]at E;replace I:=BW (I.pick (ah (da W p) rs)) hr;replace I:=BM (I.pick (ah (cB W p c) xs)) hx;refine RH 0 E I hH hC λa E=>?_;refine CL 0 E I (abd hM (by omega) ((I.pick (b0 W r p (an v i))).pick (x.J W p c (an v i))) hw hB.pr hB.sz (by rw[G9];exact fA) (by rw[G9,hxG.1]) (by rw[G9];exact D4)) λa w E I=>?_;replace hC:=hH.at w ⟨⟨I.ai (b:=D.wb),I.cJ bp op (by omega)⟩,I.cJ iV oF (by omega)⟩;replace I:=G8 ((I.pick (ah (cB W p c) (xs.eraseIdx i))).pick (x.J W p c (an v i))) hx;replace I:=BZ ((I.pick (ah (da W p) (rs.eraseIdx i))).pick (b0 W r p (an v i))) hr;refine RH 2 E I hH hC λa E=>?_;replace E:=E.aM 106;refine RH 8 E I hH hC λa E=>?_;refine QH E (λw hc=>ae E (hc.1.1 0 _ rfl)) hC λa E=>?_;refine QH E (λw hc=>ae E (hc.1.1 3 _ rfl)) hC λa E=>?_;refine RH 1 E I hH hC λa E=>?_;refine QH E (λw hc=>ae E (hc.2 i (.slice y6 l.length y7) (by rw[bm,oA];rfl))) hC λa E=>?_;replace I:=I.sub (M:=aa B.mb 107 [.slice adL xs.length cL,pt B.q,.slice adE es.length cE]::Sl 81 1 adL xs.length cL (xs.map cF)::Sl 90 1 adE es.length cE (es.map bx)::ah eA es::ah (da W p) rs::ah (cB W p c) xs::bK B.q (v.net.map cS)::aa D.wb 40 [pt B.mb,.slice (some ⟨bp,op,none⟩) rs.length cP,.slice adN v.net.length cN,.slice (some ⟨iV,oF,none⟩) fs.length gg]::Sl 34 1 (some ⟨bp,op,none⟩) rs.length cP (rs.map dy)::Sl 60 3 adN v.net.length cN (rows b9 ys)::ah ca ys::Sl 70 1 (some ⟨iV,oF,none⟩) fs.length gg (fs.map bx)::ah eU fs::L);refine RH 0 E I hH hC λa E=>?_;refine aY 0 E I (acX I (by omega) k9 hQ) λlr dL a w E I=>?_;replace hC:=hH.at w ⟨⟨I.ai (b:=D.wb),I.cJ bp op (by omega)⟩,I.cJ iV oF (by omega)⟩;refine RH 0 E I hH hC λa E=>?_;refine aY 0 E I (acP I hQ hlo) λad2 c2 a w E I=>?_;replace hC:=hH.at w ⟨⟨I.ai (b:=D.wb),I.cJ bp op (by omega)⟩,I.cJ iV oF (by omega)⟩;replace I:=(I.pick (ah eU fs)).fu wu;rw[Om]at I;change U W w (Sl 102 3 y6 l.length y7 (rows bU l)::_) at I;refine RH 0 E I hH hC λa E=>?_;refine CL 0 E I (acQ (I.pick (Sl 102 3 ad2 l.length c2 (rows bU l))) hQ) λa w E I=>?_;have uU:U W w (ah eU fs::_):=U.wM (f:=eU) wu (by rw[Om];exact ((I.pick (ah eU (fs.eraseIdx i))).pick (Sl 102 3 y6 l.length y7 (rows bU l))));replace I:=uU;clear uU;refine RN 2 E I λa E=>?_;replace E:=E.aM 123;refine CL 7 E I (GJ ((I.pick (Sl 81 1 adL xs.length cL (xs.map cF))).pick (aa B.mb 107 [.slice adL xs.length cL,pt B.q,.slice adE es.length cE])) (by omega)) λa w E I=>?_;rw[show xs[i].1.z.mul=x.z.mul from by rw[gX]]at E;refine BY 5 E I (λbA a E=>?_) λbA a E=>?_
  ·
   obtain⟨M,On⟩:∃ M,x.z=.mu M:=fJ.acW (by simpa using bA);have Oo:x.J W p c (an v i)=fg W M p x.cf c (an v i):=by unfold fB.J;rw[On]
   have ac0:fe (an v i).k=x.cf:=by
    have h1:(B.fq.map (·.cf))[i]?=some x.cf:=by rw[bm,oR];rfl
    rw[hP.1,bm,getElem?_range aH]at h1;rw[c9];exact Option.some.inj h1
   replace I:=BM (I.pick (ah (cB W p c) xs)) hx;rw[Oo]at I;obtain⟨zs,s9,I⟩:=B6 (I.pick (ah (da W p) rs));obtain⟨z,hz,wZ⟩:∃ z,zs[i]?=some z∧z.1=(r,an v i):=by
    rw[← s9,bm]at hr;cases h1:zs[i]? with
    | none=>rw[h1]at hr;cases hr
    | some z=>rw[h1]at hr;exact⟨z,rfl,Option.some.inj hr⟩
   rw[show x.z.mul=pt M.mb from by rw[On];rfl]at E;refine RN 7 E I λa E=>?_;refine bo E (b7 E rfl (s:=132)) (ae E ((I.cJ bp op (by omega)) i _ tn)) rfl λa E=>?_;refine RN 2 E I λa E=>?_;refine bo E (b7 E rfl (s:=132)) (ae E (by have h9:=(B8 (I.pick (ah (kc W p) zs)) hz).pb 0 _ rfl;rw[wZ]at h9;exact h9)) rfl λa E=>?_;refine RN 2 E I λa E=>?_;refine bo E (b7 E rfl (s:=132)) (bS E Tryz.underlying28 rfl Ty.t28 (by have h9:=((B8 (I.pick (ah (kc W p) zs)) hz).cb).part 0 10;rw[wZ]at h9;exact h9)) rfl λa E=>?_;rw[show List.take 10 (List.drop 0 (cR (r,an v i).2.k (r,an v i).1.core z.2.1))=bT x.cf from by rw[← ac0];rfl]at E;refine CL 0 E I (acR (I.pick (fg W M p x.cf c (an v i)))) λa w E I=>?_;rw[← Oo]at I;have uU:=B7 (I.pick (ah (kc W p) zs));rw[s9]at uU;replace I:=G8 ((uU.pick (ah (cB W p c) (xs.eraseIdx i))).pick (x.J W p c (an v i))) hx;refine RN 2 E I λa E=>?_;replace E:=E.aM 149;refine RN 4 E I λa E=>?_;exact⟨v.ps.length-(i+1),by omega,i+1,⟨rfl,by omega⟩,E.ab [0,6],I.sub⟩
  refine RN 21 E I λa E=>?_;exact⟨v.ps.length-(i+1),by omega,i+1,⟨rfl,by omega⟩,E.ab [0,6],I.sub⟩
 refine RT 2 E I ?_;have h8:=cm.close (n:=v.net.length) (c:=cN) ((I.pick (ah ca ys)).pick (Sl 60 3 adN v.net.length cN (rows b9 ys))) nQ rfl;rw[← wU]at h8;have h9:U W w (bF W D p v::_):=bF.close (h8.sub (M:=aa D.wb 40 [pt D.mb,.slice adP rs.length cP,.slice adN v.net.length cN,.slice gx fs.length gg]::Sl 34 1 adP rs.length cP (rs.map dy)::ah (da W p) rs::cm 60 adN v.net.length cN v.net::Sl 70 1 gx fs.length gg (fs.map bx)::ah eU fs::aa D.mb 107 [.slice adL xs.length cL,pt B.q,.slice adE es.length cE]::Sl 81 1 adL xs.length cL (xs.map cF)::ah (cB W p c) xs::bK B.q (v.net.map cS)::Sl 90 1 adE es.length cE (es.map bx)::ah eA es::L)) fZ gA k6;rw[wU]at h9;refine⟨rfl,aN.uX (adL:=adL) (cL:=cL) (adE:=adE) (cE:=cE) (xs:=xs) (es:=es) ?_ eH df ed⟩;exact h9.sub
end
end
section
section
variable {W w:World}{L:List SP}{c i:Nat}{p:Pr}{v:Wd}{B:ju}{t:fH}{cf:Cf}
def mL:Cf:=⟨2,0,0,0,4,1,0,2,1,5⟩
theorem y8 (I:U W w (aN W B p c v::L))(hB:B.Ok p (c+10))(hv:bL p cf c v)(jY:9*c+100≤1000000000)(hf:t.fn≠7) :
   Calls Tryz.prog 29 #[pt B.mb,.agg (dS t).toArray] w λe w'=>e=.returned (.int .i64 (bw p t v).1)∧U W w' (aN W B p (c+10) (bY p t v)::L) :=
 (NI I hB hv jY).mono λe w' ⟨z,h1,h2,_,I⟩=>⟨by rw[h1,h2 hf],by rw[bY,ag hf];exact I⟩
theorem Oq (hf:t.fn<1∨8<t.fn):bw p t v=(1,v):=by rw[bw,ak hf]
set_option maxHeartbeats 2000000 in
theorem ac1 (I:U W w L):Calls Tryz.prog 26 #[] w λe w'=>e=.returned (.bool true)∧U W w' L:=by
 have ti:eR mL:=by decide
 have fV:nn (dx mL 0) bB []:=⟨ti,qF,by decide⟩;refine EN Tryz.func26 Tryz.ntmps26 rfl rfl λa E=>?_;refine bh 4 E I (M0 I) λadP a w E I=>?_;refine bh 0 E I (NY (cf:=mL) (tb:=[]) (adT:=none) (cT:=0) fV I rfl (by decide) (by decide) (by decide) (λw' h=>aX.nil)) λB a w E ⟨hP,I⟩=>?_;refine RN 5 E I λa E=>?_;have fA:∀ x∈B.fq,cX x.z.gs:=λx hx=>by rw[(hP.2 x hx).1];decide
 have L0:Lv bB mL (λ_=>0) (fh bB mL mL.n.toNat):=Lv.new ti;have w1:(fh bB mL mL.n.toNat).ps.length=2:=rT;have q7:(fh bB mL mL.n.toNat).net=[]:=rfl;have sW:∀ x y,x<2→y<2→bl (fh bB mL mL.n.toNat) x y=0:=λx y hx hy=>y1 ti hx hy;have B9:=G0 (p:=bB) ti;generalize fh bB mL mL.n.toNat=v0 at I L0 w1 q7 sW B9;have VJ:mL.bt.toNat=4:=rfl;obtain⟨Ot,e1,vV,k1,z1⟩:=L0.al (i:=0) (by omega) 5 0;have k00:=sW 0 0 (by omega) (by omega);replace z1:=z1 (by omega);have o1:=B9.go (s:=⟨1,(0:Nat),5,0⟩);obtain⟨Ou,e2,sH,k2,z2⟩:=Ot.al (i:=1) (by omega) 6 0;have Ca:=sW 1 1 (by omega) (by omega);have Ov:=k1 1 1;rw[ag (by omega)]at Ov;replace z2:=z2 (by omega);have qa:=o1.go (s:=⟨1,(1:Nat),6,0⟩);obtain⟨Ow,e3,Ox,k3,Oy,z3⟩:=Ou.tick (i:=0) (by decide) (by omega) (by rw[e2,e1,q7,sH,vV,w1];decide) 0 0;have Ha:=qa.go (s:=⟨2,(0:Nat),0,0⟩);have t3:oU (bY bB ⟨1,(1:Nat),6,0⟩ (bY bB ⟨1,(0:Nat),5,0⟩ v0)) 0=[(0,1,aR (dK (an (bY bB ⟨1,(1:Nat),6,0⟩ (bY bB ⟨1,(0:Nat),5,0⟩ v0)) 0).k 1))]:=by
  rw[oU,sH,vV,w1];rfl
 rw[e2,e1,q7,t3]at e3;obtain⟨L4,iX,Oz,k4,z4,_⟩:=Ow.send e3 0 0;have w2:=Ha.go (s:=⟨3,0,0,0⟩);have h5:pU (0,1,aR (dK (an (bY bB ⟨1,(1:Nat),6,0⟩ (bY bB ⟨1,(0:Nat),5,0⟩ v0)) 0).k 1))=1:=by
  rw[Oy _ (by rw[t3];exact mem_cons_self),k2 0 0,ag (by omega),k1 0 0,ak (by omega),k00]
 have f4:aw (an (bY bB ⟨3,0,0,0⟩ (bY bB ⟨2,(0:Nat),0,0⟩ (bY bB ⟨1,(1:Nat),6,0⟩ (bY bB ⟨1,(0:Nat),5,0⟩ v0)))) 1).k=1:=by
  have su:=k4 1 0;rw[ak ⟨rfl,rfl⟩,k3,k2,ag (by omega),k1,ag (by omega),sW 1 0 (by omega) (by omega),h5]at su;have q1:=k4 1 1;rw[ag (by show ¬ ((1:Nat)=1∧(1:Nat)=0);omega),k3,k2,ak (by omega),Ov]at q1;refine L4.front (j:=0) (by omega) (λj hj=>?_) (by omega) (by rw[su];rfl);have:j=0∨j=1:=by omega
  rcases this with rfl | rfl
  ·rw[su];decide
  ·rw[q1];omega
 clear sW k1 k2 k3 k4 t3 h5 Oy;refine RN 2 E I λa E=>?_;obtain⟨adL,cL,adE,cE,xs,es,⟨eH,df,ed⟩,I⟩:=aN.wP I;have bW:xs.length=2:=by rw[← w1,← df,bd]
 have IS:xs[1].1.z.yY=true:=(hP.2 _ (by rw[← eH];exact cV.2 ⟨xs[1],getElem_mem _,rfl⟩)).2;refine RN 3 E I λa E=>?_;replace E:=E.aM 17;refine RN 4 E I λa E=>?_;replace E:=E.aM 21;refine CL 1 E I (rN (i:=0) ((I.pick (Sl 81 1 adL xs.length cL (xs.map cF))).pick (aa B.mb 107 [.slice adL xs.length cL,pt B.q,.slice adE es.length cE])) (by omega)) λa w E I=>?_;refine RN 3 E I λa E=>?_;replace E:=E.aM 26;refine CL 1 E I (GJ (i:=1) ((I.pick (Sl 81 1 adL xs.length cL (xs.map cF))).pick (aa B.mb 107 [.slice adL xs.length cL,pt B.q,.slice adE es.length cE])) (by omega)) λa w E I=>?_;refine RN 1 E I λa E=>?_;rw[IS,Bool.not_true]at E;refine RN 2 E I λa E=>?_;replace E:=E.aM 31;refine CL 1 E I (BH (I.pick (aa B.mb 107 [.slice adL xs.length cL,pt B.q,.slice adE es.length cE]))) λa w E I=>?_;refine RN 2 E I λa E=>?_;replace E:=E.aM 35;refine RN 2 E I λa E=>?_;replace I:=aN.uX (I.sub (M:=aa B.mb 107 [.slice adL xs.length cL,pt B.q,.slice adE es.length cE]::Sl 81 1 adL xs.length cL (xs.map cF)::ah (cB W bB 0) xs::bK B.q (v0.net.map cS)::Sl 90 1 adE es.length cE (es.map bx)::ah eA es::L)) eH df ed;refine CL 2 E I (y8 (t:=⟨1,(0:Nat),5,0⟩) I ⟨qF,by decide,fA,by decide⟩ B9 (by decide) (by decide)) λa w E I=>?_;rw[z1]at E;refine CL 4 E I (y8 (t:=⟨1,(1:Nat),6,0⟩) I ⟨qF,by decide,fA,by decide⟩ (o1.more (by decide)) (by decide) (by decide)) λa w E I=>?_;rw[z2]at E;refine CL 4 E I (y8 (t:=⟨2,(0:Nat),0,0⟩) I ⟨qF,by decide,fA,by decide⟩ (qa.more (by decide)) (by decide) (by decide)) λa w E I=>?_;rw[z3]at E;refine CL 4 E I (y8 (t:=⟨3,0,0,0⟩) I ⟨qF,by decide,fA,by decide⟩ (Ha.more (by decide)) (by decide) (by decide)) λa w E I=>?_;rw[z4]at E;have n5:=Oz.trans (Ox.trans (sH.trans (vV.trans w1)));clear B9 o1 qa Ha L0 Ot Ou Ow z1 z2 z3 z4 e1 e2 e3 w1 vV sH Ox Oz;generalize bY bB ⟨3,0,0,0⟩ (bY bB ⟨2,(0:Nat),0,0⟩ (bY bB ⟨1,(1:Nat),6,0⟩ (bY bB ⟨1,(0:Nat),5,0⟩ v0)))=v at I w2 L4 f4 iX n5;refine RN 2 E I λa E=>?_;obtain⟨adL,cL,adE,cE,xs,es,⟨eH,df,ed⟩,I⟩:=aN.wP I;have bW:xs.length=2:=by rw[← n5,← df,bd]
 obtain⟨x,hx,oR⟩:∃ x,xs[1]?=some (x,an v 1)∧B.fq[1]?=some x:=GN eH df (by omega);obtain⟨_,gX⟩:=a2.1 hx;have hM:=x.qw (W:=W) (p:=bB) qF (by decide) (fA x (bH oR));have hw:=(w2.pl 1 (by omega)).1;refine CL 1 E I (rN (i:=1) ((I.pick (Sl 81 1 adL xs.length cL (xs.map cF))).pick (aa B.mb 107 [.slice adL xs.length cL,pt B.q,.slice adE es.length cE])) (by omega)) λa w E I=>?_;rw[show cF xs[1]=.iface x.z.t (.pointer (some x.z.ad)) from by rw[gX]]at E;replace I:=BM (I.pick (ah (cB W bB 40) xs)) hx;refine RN 0 E I λa E=>?_;refine jA E rfl hM.Bw hM.By rfl (hM.Bz _ _ 40 (an v 1) (by decide) hw (I.pick (x.J W bB 40 (an v 1)))) (by rfl) ?_;clear E I;rintro e w ⟨lr,dL,rfl,I⟩;refine⟨_,rfl,λa E=>?_⟩;refine RN 5 E I λa E=>?_;rw[show (lz (an v 1)).2=1 from f4]at E;replace I:=G8 ((I.pick (ah (cB W bB 40) (xs.eraseIdx 1))).pick (x.J W bB 40 (an v 1))) hx;replace I:=aN.uX (I.sub (M:=aa B.mb 107 [.slice adL xs.length cL,pt B.q,.slice adE es.length cE]::Sl 81 1 adL xs.length cL (xs.map cF)::ah (cB W bB 40) xs::bK B.q (v.net.map cS)::Sl 90 1 adE es.length cE (es.map bx)::ah eA es::L)) eH df ed;refine RN 4 E I λa E=>?_;replace E:=E.eh 56;refine RN 4 E I λa E=>?_;replace E:=E.eh 60;refine RN 4 E I λa E=>?_;replace E:=E.eh 64;refine RN 4 E I λa E=>?_;replace E:=E.eh 68;refine RN 4 E I λa E=>?_;replace E:=E.eh 72;refine RN 1 E I λa E=>?_;obtain⟨adL,cL,adE,cE,xs,es,⟨eH,df,ed⟩,I⟩:=aN.wP I;refine CL 0 E I (BH (I.pick (aa B.mb 107 [.slice adL xs.length cL,pt B.q,.slice adE es.length cE]))) λa w E I=>?_;refine CL 0 E I (Nh (I.pick (bK B.q (v.net.map cS)))) λa w E I=>?_;rw[bd,iX]at E;replace I:=aN.uX (I.sub (M:=aa B.mb 107 [.slice adL xs.length cL,pt B.q,.slice adE es.length cE]::Sl 81 1 adL xs.length cL (xs.map cF)::ah (cB W bB 40) xs::bK B.q (v.net.map cS)::Sl 90 1 adE es.length cE (es.map bx)::ah eA es::L)) eH df ed;refine RN 3 E I λa E=>?_;replace E:=E.eh 78;refine CL 2 E I (y8 (t:=⟨0,0,0,0⟩) I ⟨qF,by decide,fA,by decide⟩ (w2.more (by decide)) (by decide) (by decide)) λa w E I=>?_;rw[Oq (.inl (by decide))]at E;rw[bY,ag (by decide),Oq (.inl (by decide)),L4.still]at I;refine RN 3 E I λa E=>?_;replace E:=E.eh 84;refine aY 1 E I (acD (i:=0) I (by omega) w2.ev (by rw[L4.ev _ (BC (d:=[]) (by rw[w2.ev];omega))];decide)) λad2 c2 a w E I=>?_;rw[L4.ev _ (BC (d:=[]) (by rw[w2.ev];omega))]at E;refine RT 4 E I ?_;exact⟨rfl,I.sub⟩
end
end
section
structure u6 (W:World)(p:Pr)(B:ju)(D:nP)(cf:Cf)(tb:List UInt8)(gL:Bool):Prop where
 mb:D.mb=B.mb
 fq:u1 B.fq cf tb gL cf.n.toNat
 mJ:B5 W D.mJ cf tb
 gs:cX ⟨cf.bf,cf.order,tb⟩
 pr:dh p
 sz:p.title.size≤1000000000
section
variable {W w:World}{L:List SP}{c:Nat}{p:Pr}{v:Wd}{B:ju}{D:nP}{t:fH}{cf:Cf}{tb:List UInt8}{gL:Bool}
theorem u1.gs {fq:List fB}{n:Nat}(h:u1 fq cf tb gL n)(hg:cX ⟨cf.bf,cf.order,tb⟩):∀ x∈fq,cX x.z.gs:=λx hx=>by rw[(h.2 x hx).1];exact hg
theorem u6.ok (h:u6 W p B D cf tb gL)(hc:c≤1000000):B.Ok p c:=⟨h.pr,h.sz,h.fq.gs h.gs,hc⟩
theorem ac2 (I:U W w (aN W B p c v::bF W D p v::L))(jx:u6 W p B D cf tb gL)(hv:bL p cf c v)(hc:c≤1000000) :
   Calls Tryz.prog 33 #[pt D.wb] w λe w'=>e=.returned (.bool true)∧U W w' (aN W B p c v::bF W D p v::L) :=
 acY I jx.mb (jx.ok hc) hv (by rw[hv.n];exact jx.fq) jx.mJ jx.gs (by omega)
theorem ac3 (I:U W w (aN W B p c v::bF W D p v::L))(jx:u6 W p B D cf tb gL)(hv:bL p cf c v)(B4:pV v)(hc:c≤900000) :
   Calls Tryz.prog 32 #[pt D.wb,.agg (dS t).toArray] w λe w'=>e=.returned (.bool true)∧U W w' (aN W B p (c+10) (bY p t v)::bF W D p (bY p t v)::L) :=
 acI I jx.mb (jx.ok (by omega)) hv B4 (by omega) λw u hu hcu I=>ac2 I jx hu (by omega)
structure Wc (p:Pr)(cf:Cf)(c:Nat)(v:Wd):Prop where
 ok:bL p cf c v
 calm:pV v
theorem Wc.go (h:Wc p cf c v):Wc p cf (c+10) (bY p t v):=⟨h.ok.go.more (by omega),acH h.calm⟩
theorem Wc.new (h:eR cf):Wc p cf 0 (fh p cf cf.n.toNat):=⟨G0 h,Ob h⟩
end
end
section
open Go.RowKit Go.ChangeShapes Go.WideShapes Go.ChangeAt
set_option linter.constructorNameAsVariable false
set_option maxRecDepth 100000
section
variable {W W' w:World}{L:List SP}
theorem ac4 {L:List SP}(hb:Below W.heap.size W W')(I:U W' w L):Below W.heap.size W w:=hb.trans (I.below.mono hb.size)
end
end
section
structure TK where
 tb:Nat
 n:Nat
 B:ju
 D:nP
abbrev rU (K:TK):List Value:=[pt K.D.wb,.int .i64 K.n,.bool true]
def TS (W:World)(K:TK)(p:Pr)(c:Nat)(v:Wd):SP:=λh=>cn [aa K.tb 33 (rU K),aN W K.B p c v,bF W K.D p v] h
abbrev lF (n:Nat):Cf:=⟨n,0,77,2,8,2,1,3,2,7⟩
section
variable {W w:World}{L:List SP}{c i n:Nat}{p:Pr}{v:Wd}{K:TK}{t:fH}{cf:Cf}{tb:List UInt8}{gL:Bool}
theorem TS.open (I:U W w (TS W K p c v::L)):U W w (aa K.tb 33 (rU K)::aN W K.B p c v::bF W K.D p v::L):=I.open (M:=[_,_,_]) λ_ h=>h
theorem TS.close (I:U W w (aa K.tb 33 (rU K)::aN W K.B p c v::bF W K.D p v::L)):U W w (TS W K p c v::L):=U.shut (M:=[_,_,_]) I λ_ h=>h
structure TRd (w:World)(K:TK)(tZ ac5 u7:Nat)(adP adN adE:Option Addr)(cP cN cE:Nat):Prop where
 t:Rd w K.tb 0 (rU K)
 d:Rd w K.D.wb 0 [pt K.D.mb,.slice adP tZ cP,.slice adN ac5 cN,.slice adE u7 cE]
theorem TS.rd (I:U W w (TS W K p c v::L)):∃ (tZ u7:Nat) (adP adN adE:Option Addr) (cP cN cE:Nat),TRd w K tZ v.net.length u7 adP adN adE cP cN cE:=by
 replace I:=TS.open I;have h1:=I.ai (b:=K.tb);obtain⟨adP,cP,adN,cN,adE,cE,xs,es,_,I⟩:=bF.open (I.pick (bF W K.D p v));exact⟨_,_,adP,adN,adE,cP,cN,cE,h1,I.ai (b:=K.D.wb)⟩
theorem ac6 (I:U W w L):Calls Tryz.prog 39 #[] w λe w'=>e=.returned (.bool true)∧U W w' L:=by
 refine EN Tryz.func39 Tryz.ntmps39 rfl rfl λa E=>?_;refine CL 3 E I (ac1 I) λa w E I=>?_;refine RT 1 E I ?_;exact⟨rfl,I⟩
theorem ac7 (I:U W w L):Calls Tryz.prog 13 #[] w λe w'=>e=.returned (.bool true)∧U W w' L:=by
 refine EN Tryz.func13 Tryz.ntmps13 rfl rfl λa E=>?_;refine CL 3 E I (ac6 I) λa w E I=>?_;refine RT 1 E I ?_;exact⟨rfl,I⟩
theorem ac8 {x L:Int}(h:0<L):-L<x.tmod L∧x.tmod L<L:=by
 have h1:=Int.natAbs_tmod x L;have h2:=Nat.mod_lt x.natAbs (show 0<L.natAbs by omega);omega
theorem OA (I:U W w L){x:Int}{k:Nat}(hk:0<k)(cd:k≤1000):Calls Tryz.prog 14 #[.int .i64 x,.int .i64 k] w λe w'=>∃ y:Nat,e=.returned (.int .i64 y)∧y<k∧U W w' L:=by
 have hb:=ac8 (x:=x) (L:=k) (by omega);refine EN Tryz.func14 Tryz.ntmps14 rfl rfl λa E=>?_;refine IF 11 E I (λaj a E=>?_) λaj a E=>?_
 ·
  refine RT 6 E I ?_;exact⟨(x.tmod k).natAbs,by rw[gi (by omega) (by omega),show (((x.tmod k).natAbs:Nat):Int)=0-x.tmod k from by omega],by omega,I⟩
 refine RT 3 E I ?_;exact⟨(x.tmod k).natAbs,by rw[show (((x.tmod k).natAbs:Nat):Int)=x.tmod k from by omega],by omega,I⟩
theorem ac9 (I:U W w L):Calls Tryz.prog 16 #[.int .i64 n] w λe w'=>e=.returned (.agg (bT (lF n)).toArray)∧U W w' L:=by
 refine EN Tryz.func16 Tryz.ntmps16 rfl rfl λa E=>?_;refine AL 1 E I λb2 a w E I=>?_;refine SA 3 E I λa w E I=>?_;refine RT 0 E I ?_;exact⟨rfl,I.sub⟩
theorem y9 (I:U W w (TS W K p c v::L))(jx:u6 W p K.B K.D cf tb gL)(hc:Wc p cf c v)(ky:c≤900000):Calls Tryz.prog 21 #[pt K.tb,.agg (dS t).toArray] w λe w'=>e=.returned (.tuple #[])∧U W w' (TS W K p (c+10) (bY p t v)::L):=by
 replace I:=TS.open I;refine EN Tryz.func21 Tryz.ntmps21 rfl rfl λa E=>?_;refine BX 1 E I λb3 a w E I=>?_;change U W w (aa b3 58 (dS t)::_) at I;refine RN 5 E I λa E=>?_;replace E:=E.eh 7;refine RN 1 E I λa E=>?_;obtain⟨adP,cP,adN,cN,adE,cE,xs,es,hx,_⟩:=bF.open (I.pick (bF W K.D p v));refine aV 0 (λw0 w'=>Rd w' K.tb 0 (rU K)∧Rd w' b3 0 (dS t)) [5] [0,1,2,3,3004,1005,1006,7,8,1009] E I λa w E I hH=>?_;have hC:=hH.at w ⟨I.ai (b:=K.tb),I.ai (b:=b3)⟩;refine RH 4 E I hH hC λa E=>?_;refine QH E (λw hc=>ae E (hc.1 0 _ rfl)) hC λa E=>?_;refine RH 0 E I hH hC λa E=>?_;refine SS E (bS E Tryz.underlying58 rfl Ty.t58 (hC.2)) λa E=>?_;refine RH 0 E I hH hC λa E=>?_;refine CL 0 E I (ac3 ((I.pick (bF W K.D p v)).pick (aN W K.B p c v)) jx hc.ok hc.calm ky) λa w E I=>?_;refine ST 2 E I (λa w E I=>?_);refine RT 0 E I ?_;exact⟨rfl,TS.close I.sub⟩
theorem ada (p:Pr){m:Ml}{r:List Ml}(hm:v.net=m::r)(a b:Int):(bY p ⟨3,a,b,0⟩ v).net=r:=by
 rw[bY,ag (by show ¬ (3:Int)=7;omega),G3 p hm];exact (qH _ _).2.1
theorem OB (I:U W w (TS W K p c v::L))(jx:u6 W p K.B K.D cf tb gL)(hc:Wc p cf c v)(ky:c≤800000):Calls Tryz.prog 38 #[pt K.tb] w λe w'=>e=.returned (.tuple #[])∧(Wc p cf (c+10*v.net.length) (oV p v)∧(oV p v).net=[])∧U W w' (TS W K p (c+10*v.net.length) (oV p v)::L):=by
 have hn:=hc.ok.net.1;refine EN Tryz.func38 Tryz.ntmps38 rfl rfl λa E=>?_;refine RN 2 E I λa E=>?_;refine aO (λμ a w=>∃ (i:Nat) (u:Wd),(μ=v.net.length-i∧(i≤v.net.length∧u.net.length=v.net.length-i)∧Wc p cf (c+10*i) u∧nR p (v.net.length-i) u=oV p v)∧Fr a 27 [(0,pt K.tb),(2,.int .i64 i)]∧U W w (TS W K p (c+10*i) u::L)) (v.net.length) (⟨0,v,⟨rfl,⟨by omega,rfl⟩,hc,rfl⟩,E.ab [0,2],I⟩) ?_;clear E I;rintro μ a w ⟨i,u,⟨rfl,⟨hi,o8⟩,oX,dZ⟩,E,I⟩;refine RN 2 E I λa E=>?_;obtain⟨tZ,u7,adP,adN,adE,cP,cN,cE,hT⟩:=TS.rd I;refine RN 3 E I λa E=>?_;rw[dg (by omega)]at E;refine RN 3 E I λa E=>?_;refine bo E (b7 E rfl (s:=5)) (ae E (hT.t 2 _ rfl)) rfl λa E=>?_;refine RN 2 E I λa E=>?_;replace E:=E.eh 11;refine RN 3 E I λa E=>?_;refine bo E (b7 E rfl (s:=11)) (ae E (hT.t 0 _ rfl)) rfl λa E=>?_;refine RN 2 E I λa E=>?_;refine bo E (b7 E rfl (s:=11)) (ae E (hT.d 2 _ rfl)) rfl λa E=>?_;refine IF 3 E I (λaj a E=>?_) λaj a E=>?_
 ·
  obtain⟨m,r,hm⟩:∃ m r,u.net=m::r:=by
   cases h:u.net with
   | nil=>have h9:=congrArg List.length h;rw[length_nil]at h9;omega
   | cons m r=>exact⟨m,r,rfl⟩
  have eM:=ada p hm 0 0;have gl:r.length=v.net.length-(i+1):=by rw[hm,eO]at o8;omega
  refine CL 3 E I (y9 (t:=⟨3,0,0,0⟩) I jx oX (by omega)) λa w E I=>?_;refine RN 3 E I λa E=>?_;refine⟨v.net.length-(i+1),by omega,i+1,bY p ⟨3,0,0,0⟩ u,⟨rfl,⟨by omega,by rw[eM];exact gl⟩,oX.go,?_⟩,E.ab [0,2],I⟩;rw[← dZ,show v.net.length-i=(v.net.length-(i+1))+1 from by omega];rfl
 refine RT 0 E I ?_;obtain rfl:i=v.net.length:=by omega
 rw[Nat.sub_self]at dZ;replace dZ:u=oV p v:=dZ;subst dZ;exact⟨rfl,⟨oX,gW (by omega)⟩,I⟩
set_option maxHeartbeats 1000000 in
theorem adb (I:U W w L)(fV:nn (dx cf 0) bB [])(hn:cf.n=n):Calls Tryz.prog 15 #[.agg (bT cf).toArray,.bool gL] w λe w'=>∃ (W2:World) (K:TK),e=.returned (pt K.tb)∧(K.n=n∧Below W.heap.size W W2∧u6 W2 bB K.B K.D cf [] gL∧Wc bB (dx cf 0) 0 (fh bB cf n))∧U W2 w' (TS W2 K bB 0 (fh bB cf n)::[]):=by
 have ti:=fV.1;have nD:cf.n.toNat=n:=by omega
 refine EN Tryz.func15 Tryz.ntmps15 rfl rfl λa E=>?_;refine BX 1 E I λb2 a w E I=>?_;change U W w (aa b2 28 (bT cf)::_) at I;refine aV 2 (λw0 w'=>Rd w' b2 0 (bT cf)) [1] [2,3000,1001,1003,4] E I λa w E I hH=>?_;have hC:=hH.at w (I.ai (b:=b2));refine RH 1 E I hH hC λa E=>?_;refine QH E (λw hc=>bS E Tryz.underlying28 rfl Ty.t28 (hc)) hC λa E=>?_;refine RH 0 E I hH hC λa E=>?_;refine bh 0 E I (M0 I) λadP a w E I=>?_;replace hC:=hH.at w (I.ai (b:=b2));have po:Rd w b2 0 (bT cf):=I.ai (b:=b2);have uC:b2<w.heap.size:=Rd.lt po;have y4:y3 w bB adP 12:=U.roW (I.pick (aA W bB adP 12));have vM:=I.below;obtain⟨W2,OC⟩:∃ W2,W2=w:=⟨_,rfl⟩;replace I:U W2 w []:=by rw[OC];exact U.start w
 rw[← OC]at po uC y4 vM;have c4:∀ w' L,U W2 w' L→Rd w' b2 0 (bT cf):=λw' L I j v hj=>(I.below.cell uC).trans (po j v hj);refine RH 0 E I hH hC λa E=>?_;refine aY 0 E I (acS (cf:=cf) (tb:=[]) (adT:=none) (cT:=0) fV I y4 rfl qF (by decide) (by decide) (by decide) (λw' h=>aX.nil)) λB D a w E ⟨hN,I⟩=>?_;refine RN 1 E I λa E=>?_;refine RN 3 E I λa E=>?_;refine SS E (ae E (c4 _ _ I 0 _ rfl)) λa E=>?_;rw[hn]at E;refine BX 3 E I λqq a w E I=>?_;refine RT 1 E I ?_;rw[nD]at I hN;refine⟨W2,⟨qq,n,B,D⟩,rfl,⟨rfl,vM,⟨hN.1,by rw[nD];exact hN.2.1,hN.2.2,fV.2.2,qF,by decide⟩,?_⟩,?_⟩
 ·have h1:=Wc.new (p:=bB) ti;rw[show (dx cf 0).n.toNat=n from nD]at h1;exact h1
 ·exact TS.close (K:=⟨qq,n,B,D⟩) I
end
end
section
section
variable {W w:World}{L:List SP}{n c i f:Nat}{p:Pr}{cf:Cf}{v:Wd}{D:nP}
theorem Hb {w:World}{y:oW}{p:Pr}(h:y5 w p y)(hf:f<y.1.2.k.mr.length):∃ b o,y.2.1.cj=some ⟨b,o,none⟩∧w.cell? ⟨b,o+f,none⟩=some (.int .u32 (y.1.2.k.mr.getD f 0:Nat)):=by
 obtain⟨b,o,h1,h2⟩:=h.mr (by omega);refine⟨b,o,h1,h2 f _ ?_⟩;rw[c0,bm,aE hf,bn,aE hf];rfl
theorem OD {w:World}{y:oW}{p:Pr}{b o:Nat}(h:y5 w p y)(he:y.2.1.cj=some ⟨b,o,none⟩)(hf:f<y.1.2.k.mr.length):w.cell? ⟨b,o+f,none⟩=some (.int .u32 (y.1.2.k.mr.getD f 0:Nat)):=by
 obtain⟨b',o',h1,h2⟩:=Hb h hf;rw[he]at h1;cases h1;exact h2
theorem OE {P:Program}{ops:Array Oper}{Q:Exit→Act→World→Prop}{C C':World→Prop}{bg:List Nat}(k:∀ w,C' w→C w):∀ (fuel:Nat) (bE:Array Bool) (a:Act) (w:World),ha P ops Q C' bg fuel bE a w→ha P ops Q C bg fuel bE a w
 | 0,_,_,_,h=>h
 | fuel+1,_,_,_,h=>⟨h.1,λi hi=>wpOp_mono (λa' w' h'=>⟨λhn=>k _ (h'.1 hn),OE k fuel _ a' w' h'.2⟩) (h.2 i hi)⟩
theorem OF {P:Program}{ops:Array Oper}{Q:Exit→Act→World→Prop}{C:World→Prop}{bg od:List Nat}{fuel m:Nat}{a:Act}{w:World}{b:Bool}(C':World→Prop)(k:∀ w,C' w→C w)(hC:C w)(h:fY P ops Q C' bg od fuel m a w):CN b C (fY P ops Q C bg od fuel m) a w :=
 ⟨λ_=>hC,OE k _ _ _ _ h⟩
set_option maxHeartbeats 2000000 in
theorem ade (I:U W w (bF W D p v::L))(hv:bL p cf c v)(hA:∀ i j f,i<v.ps.length→j<v.ps.length→f<aw (an v i).k→f<aw (an v j).k→bJ (an v i).k.ls f=bJ (an v j).k.ls f∧(an v i).k.mr.getD f 0=(an v j).k.mr.getD f 0)
   (rR:∀ l∈v.ev,∀ e∈l,e.1≠3) (jY:9*c+100≤1000000000):Calls Tryz.prog 18 #[pt D.wb] w λe w'=>e=.returned (.bool true)∧U W w' (bF W D p v::L):=by
 replace I:=bF.open I;obtain⟨adP,cP,adN,cN,gx,gg,rs,fs,⟨fZ,gA,k6⟩,I⟩:=I;obtain⟨ys,lE,I⟩:=B6 (I.pick (ah (da W p) rs));have gl:rs.length=v.ps.length:=by rw[← gA,bd]
 have iH:ys.length=v.ps.length:=by rw[← gl,← lE,bd]
 have dZ:fs.length=v.ps.length:=by rw[← hv.ev,← k6,bd]
 have hn:=hv.len;have tj:∀ i,i<v.ps.length→∃ y,ys[i]?=some y∧y.1.2=an v i∧(rs.map dy)[i]?=some (pt y.1.1.pb):=λi hi=>by
  refine⟨ys[i],aE (by omega),?_,?_⟩
  ·rw[an,← gA,← lE,List.map_map,bn,bm,aE (by omega)];rfl
  ·rw[← lE,List.map_map,bm,aE (by omega)];rfl
 have cp:∀ w',U W w' (ah (kc W p) ys::aa D.wb 40 [pt D.mb,.slice adP rs.length cP,.slice adN v.net.length cN,.slice gx fs.length gg]::Sl 34 1 adP rs.length cP (rs.map dy)::cm 60 adN v.net.length cN v.net::Sl 70 1 gx fs.length gg (fs.map bx)::ah eU fs::L)→U W w' (bF W D p v::L):=λw' h=>by
  have h1:=B7 h;rw[lE]at h1;exact bF.close (h1.sub (M:=aa D.wb 40 [pt D.mb,.slice adP rs.length cP,.slice adN v.net.length cN,.slice gx fs.length gg]::Sl 34 1 adP rs.length cP (rs.map dy)::ah (da W p) rs::cm 60 adN v.net.length cN v.net::Sl 70 1 gx fs.length gg (fs.map bx)::ah eU fs::L)) fZ gA k6
 replace I:=I.sub (M:=ah (kc W p) ys::aa D.wb 40 [pt D.mb,.slice adP rs.length cP,.slice adN v.net.length cN,.slice gx fs.length gg]::Sl 34 1 adP rs.length cP (rs.map dy)::cm 60 adN v.net.length cN v.net::Sl 70 1 gx fs.length gg (fs.map bx)::ah eU fs::L);generalize hM:(ah (kc W p) ys::aa D.wb 40 [pt D.mb,.slice adP rs.length cP,.slice adN v.net.length cN,.slice gx fs.length gg]::Sl 34 1 adP rs.length cP (rs.map dy)::cm 60 adN v.net.length cN v.net::Sl 70 1 gx fs.length gg (fs.map bx)::ah eU fs::L)=M at I cp;obtain⟨bp,op,CP⟩:∃ bp op,adP=some ⟨bp,op,none⟩:=by
  rw[← hM]at I;obtain⟨bp,op,h,_⟩:=(I.pick (Sl 34 1 adP rs.length cP (rs.map dy))).bV adP (by omega);exact⟨bp,op,h⟩
 obtain⟨iV,oF,hbF⟩:∃ iV oF,gx=some ⟨iV,oF,none⟩:=by
  rw[← hM]at I;obtain⟨bp,op,h,_⟩:=(I.pick (Sl 70 1 gx fs.length gg (fs.map bx))).bV gx (by omega);exact⟨bp,op,h⟩
 have OG:=I;clear I;subst CP hbF;have rW:∀ w',U W w' M→Rd w' D.wb 0 [pt D.mb,.slice (some ⟨bp,op,none⟩) rs.length cP,.slice adN v.net.length cN,.slice (some ⟨iV,oF,none⟩) fs.length gg]:=λw' h=>by
  rw[← hM]at h;exact h.ai (b:=D.wb)
 have w3:∀ w',U W w' M→Rd w' bp op (rs.map dy):=λw' h=>by
  rw[← hM]at h;exact h.cJ bp op (by omega)
 have OH:∀ w',U W w' M→Rd w' iV oF (fs.map bx):=λw' h=>by
  rw[← hM]at h;exact h.cJ iV oF (by omega)
 have rY:∀ {i:Nat} {y:oW} {w':World},U W w' M→ys[i]?=some y→y5 w' p y:=λh hy=>by
  rw[← hM]at h;exact B8 h hy
 have adf:∀ {i:Nat} {x:ka} {w':World},U W w' M→fs[i]?=some x→0<x.2.2.length→∃ b o,x.1=some ⟨b,o,none⟩∧Rd w' b o (rows bU x.2.2):=λ{i x w'} h hx h0=>by
  rw[← hM]at h;obtain⟨hi,h1⟩:=a2.1 hx;have h2:=(h.pick (ah eU fs)).fu hi;rw[h1]at h2;replace h2:U W w' (Sl 102 3 x.1 x.2.2.length x.2.1 (rows bU x.2.2)::_):=h2;exact h2.bV x.1 h0
 clear hM;have I:=OG;clear OG;refine EN Tryz.func18 Tryz.ntmps18 rfl rfl λa E=>?_;refine RN 5 E I λa E=>?_;refine aO (λμ a w=>∃ (i:Nat),(μ=v.ps.length-i∧i≤v.ps.length)∧Fr a 142 [(0,pt D.wb),(3,.int .i64 i)]∧U W w M) (v.ps.length) (⟨0,⟨rfl,by omega⟩,E.ab [0,3],I⟩) ?_;clear E I;rintro μ a w ⟨i,⟨rfl,hi⟩,E,I⟩;refine RN 6 E I λa E=>?_;refine SS E (ae E ((rW _ I) 1 _ rfl)) λa E=>?_;refine IF 2 E I (λaj a E=>?_) λaj a E=>?_
 ·
  have aH:i<v.ps.length:=by omega
  obtain⟨y,hy,tg,Hc⟩:=tj i aH;have u9:cw p y.1.2:=by rw[tg];exact (hv.pl i aH).1
  have Cb:bj y.2.2=y.1.2.k.ls:=(rY I hy).eq;refine RN 4 E I λa E=>?_;refine aO (λμ a w=>∃ (k:Nat),(μ=i-k∧k≤i)∧Fr a 142 [(0,pt D.wb),(3,.int .i64 i),(4,.int .i64 k)]∧U W w M) (i) (⟨0,⟨rfl,by omega⟩,E.ab [0,3,4],I⟩) ?_;clear E I;rintro μ a w ⟨k,⟨rfl,hk⟩,E,I⟩;refine IF 5 E I (λao a E=>?_) λao a E=>?_
  ·
   have dM:k<v.ps.length:=by omega
   obtain⟨z,hz,nF,wZ⟩:=tj k dM;have za:cw p z.1.2:=by rw[nF];exact (hv.pl k dM).1
   have w4:bj z.2.2=z.1.2.k.ls:=(rY I hz).eq;refine aV 2 (λw0 w'=>U W w' M) [10,14,16,17,18,19,20] [0,1,2,4,11,12,13,15,3003,5,3006,7,8,3009,3014,3016,3017,3018,3019,3020,1010,1021,22,23] E I λa w E I hH=>?_;have hC:=hH.at w I;refine RH 8 E I hH hC λa E=>?_;refine QH E (λw hc=>ae E (rW _ hc 1 _ rfl)) hC λa E=>?_;refine RH 1 E I hH hC λa E=>?_;refine QH E (λw hc=>ae E (w3 _ hc i _ Hc)) hC λa E=>?_;refine RH 2 E I hH hC λa E=>?_;refine QH E (λw hc=>ae E ((rY hc hy).pb 0 _ rfl)) hC λa E=>?_;refine QH E (λw hc=>ae E (rW _ hc 1 _ rfl)) hC λa E=>?_;refine RH 1 E I hH hC λa E=>?_;refine QH E (λw hc=>ae E (w3 _ hc k _ wZ)) hC λa E=>?_;refine RH 2 E I hH hC λa E=>?_;refine QH E (λw hc=>ae E ((rY hc hz).pb 0 _ rfl)) hC λa E=>?_;refine RH 0 E I hH hC λa E=>?_;refine CL 0 E I (G7 (A:=y.2.1) I u9.wc Cb λw' h=>⟨(rY h hy).cb,(rY h hy).ls⟩) λa w E I=>?_;replace hC:=hH.at w I;refine RH 0 E I hH hC λa E=>?_;refine CL 0 E I (G7 (A:=z.2.1) I za.wc w4 λw' h=>⟨(rY h hz).cb,(rY h hz).ls⟩) λa w E I=>?_;refine RN 1 E I λa E=>?_;rw[show min ((aw y.1.2.k:Nat):Int) ((aw z.1.2.k:Nat):Int)=((min (aw y.1.2.k) (aw z.1.2.k):Nat):Int) from by omega]at E;refine RN 1 E I λa E=>?_;refine RN 2 E I λa E=>?_;refine aO (λμ a w=>∃ (f:Nat),(μ=min (aw y.1.2.k) (aw z.1.2.k)-f∧f≤min (aw y.1.2.k) (aw z.1.2.k))∧Fr a 142 [(0,pt D.wb),(3,.int .i64 i),(4,.int .i64 k),(5,.int .i64 (min (aw y.1.2.k) (aw z.1.2.k):Nat)),(6,.int .i64 f)]∧U W w M) (min (aw y.1.2.k) (aw z.1.2.k)) (⟨0,⟨rfl,by omega⟩,E.ab [0,3,4,5,6],I⟩) ?_;clear E I;rintro μ a w ⟨f,⟨rfl,hf⟩,E,I⟩;refine IF 5 E I (λay a E=>?_) λay a E=>?_
   ·
    have dZ:f<aw y.1.2.k∧f<aw z.1.2.k:=by omega
    obtain⟨yx,qm⟩:bJ y.1.2.k.ls f=bJ z.1.2.k.ls f∧y.1.2.k.mr.getD f 0=z.1.2.k.mr.getD f 0:=by
     rw[tg,nF]at dZ ⊢;exact hA i k f aH dM dZ.1 dZ.2
    have adg:y.1.2.k.ls.length=y.2.2.length:=by rw[← Cb,fS]
    have adh:z.1.2.k.ls.length=z.2.2.length:=by rw[← w4,fS]
    have Bj:=u9.full;have KA:=za.full;have hy8:=u9.wc.ls;have hz8:=za.wc.ls;have hyn:=u9.wc.n;have JK:=za.wc.n;have tl:=ft u9.wc.nc u9.wc.lx;obtain⟨by1,oy1,fZ,_⟩:=Hb (f:=f) (rY I hy) (by rw[u9.full];exact dZ.1);obtain⟨bz1,oz1,cU,_⟩:=Hb (f:=f) (rY I hz) (by rw[za.full];exact dZ.2);refine RN 2 E I λa E=>?_;simp only[List.append];refine aV 0 (λw0 w'=>U W w' M) [14,15,19,21,22,23,24,25,26,27,28,30,31,53,55,56,57,58,59,60,61,62,64,65] [0,1,2,4,13,16,17,18,20,29,3003,5,3006,7,8,3009,10,11,3012,3019,3021,3022,3023,3024,3025,3026,3027,3028,1014,3015,1030,1031,32,33,34,35,36,38,47,50,51,52,54,63,3037,39,3040,41,42,3043,44,45,3046,48,3049,1053,1055,1056,1057,1058,1059,1060,1061,1062,1064,1065,66,67] E I λa w E I hH=>?_;have hC:=hH.at w I;refine RH 10 E I hH hC λa E=>?_;refine QH E (λw hc=>ae E (rW _ hc 1 _ rfl)) hC λa E=>?_;refine RH 1 E I hH hC λa E=>?_;refine QH E (λw hc=>ae E (w3 _ hc i _ Hc)) hC λa E=>?_;refine RH 2 E I hH hC λa E=>?_;refine QH E (λw hc=>ae E ((rY hc hy).pb 0 _ rfl)) hC λa E=>?_;refine RH 2 E I hH hC λa E=>?_;refine QH E (λw hc=>ae E ((rY hc hy).cb 10 _ rfl)) hC λa E=>?_;rw[adg]at E;refine RH 0 E I hH hC λa E=>?_;refine QH E (λw hc=>ae E (rW _ hc 1 _ rfl)) hC λa E=>?_;refine RH 1 E I hH hC λa E=>?_;refine QH E (λw hc=>ae E (w3 _ hc k _ wZ)) hC λa E=>?_;refine RH 2 E I hH hC λa E=>?_;refine QH E (λw hc=>ae E ((rY hc hz).pb 0 _ rfl)) hC λa E=>?_;refine RH 2 E I hH hC λa E=>?_;refine QH E (λw hc=>ae E ((rY hc hz).cb 10 _ rfl)) hC λa E=>?_;rw[adh]at E;refine RH 0 E I hH hC λa E=>?_;refine aY 0 E I (FT (xs:=y.2.2) (f:=f) I (by omega) (by omega) (λw' hw=>(rY hw hy).ls) (by rw[Cb];exact dZ.1)) λva iT a w E I=>?_;rw[Cb,yx]at E I;refine OF (λw'=>U W w' M∧aX w' va (bJ z.1.2.k.ls f).length (bJ z.1.2.k.ls f)) (λ_ h=>h.1) I.tail ?_;have hH:=Hd.any (λw'=>U W w' M∧aX w' va (bJ z.1.2.k.ls f).length (bJ z.1.2.k.ls f));have hC:=hH.at w ⟨I.tail,I.cu va _ rfl rfl⟩;refine RH 0 E I hH hC λa E=>?_;refine QH E (λw hc=>lj E Tryz.underlying22 Tryz.underlying5 Tryz.underlying9 (hc.2)) hC λa E=>?_;refine RH 0 E I hH hC λa E=>?_;refine aY 0 E I (FT (xs:=z.2.2) (f:=f) I (by omega) (by omega) (λw' hw=>(rY hw.tail hz).ls) (by rw[w4];exact dZ.2)) λjr afs a w E I=>?_;rw[w4]at E I;refine OF (λw'=>(U W w' M∧aX w' va (bJ z.1.2.k.ls f).length (bJ z.1.2.k.ls f))∧aX w' jr (bJ z.1.2.k.ls f).length (bJ z.1.2.k.ls f)) (λ_ h=>h.1) ⟨I.tail.tail,I.cu va _ rfl rfl⟩ ?_;have hH:=Hd.any (λw'=>(U W w' M∧aX w' va (bJ z.1.2.k.ls f).length (bJ z.1.2.k.ls f))∧aX w' jr (bJ z.1.2.k.ls f).length (bJ z.1.2.k.ls f));have hC:=hH.at w ⟨⟨I.tail.tail,I.cu va _ rfl rfl⟩,I.cu jr _ rfl rfl⟩;refine RH 0 E I hH hC λa E=>?_;refine SS E (lj E Tryz.underlying22 Tryz.underlying5 Tryz.underlying9 (hC.2)) λa E=>?_;refine RH 0 E I hH hC λa E=>?_;refine QP E (λw=>JX E) λa E=>?_;rw[p9,beq_self_eq_true,Bool.not_true]at E;refine RH 1 E I hH hC λa E=>?_;replace E:=E.aM 83;refine RH 10 E I hH hC λa E=>?_;refine QH E (λw hc=>ae E (rW _ hc.1.1 1 _ rfl)) hC λa E=>?_;refine RH 1 E I hH hC λa E=>?_;refine QH E (λw hc=>ae E (w3 _ hc.1.1 i _ Hc)) hC λa E=>?_;refine RH 2 E I hH hC λa E=>?_;refine QH E (λw hc=>ae E ((rY hc.1.1 hy).pb 0 _ rfl)) hC λa E=>?_;refine RH 2 E I hH hC λa E=>?_;refine QH E (λw hc=>ae E ((rY hc.1.1 hy).cb 16 _ rfl)) hC λa E=>?_;rw[fZ]at E;refine RH 1 E I hH hC λa E=>?_;refine QH E (λw hc=>ae E (OD (rY hc.1.1 hy) fZ (by omega))) hC λa E=>?_;rw[qm]at E;refine RH 0 E I hH hC λa E=>?_;refine bo E (b7 E rfl (s:=83)) (ae E (rW _ hC.1.1 1 _ rfl)) rfl λa E=>?_;refine RH 1 E I hH hC λa E=>?_;refine bo E (b7 E rfl (s:=83)) (ae E (w3 _ hC.1.1 k _ wZ)) rfl λa E=>?_;refine RH 2 E I hH hC λa E=>?_;refine bo E (b7 E rfl (s:=83)) (ae E ((rY hC.1.1 hz).pb 0 _ rfl)) rfl λa E=>?_;refine RH 2 E I hH hC λa E=>?_;refine bo E (b7 E rfl (s:=83)) (ae E ((rY hC.1.1 hz).cb 16 _ rfl)) rfl λa E=>?_;rw[cU]at E;refine RH 1 E I hH hC λa E=>?_;refine bo E (b7 E rfl (s:=83)) (ae E (OD (rY hC.1.1 hz) cU (by omega))) rfl λa E=>?_;refine RH 2 E I hH hC λa E=>?_;rw[bq (by simp)]at E;refine RN 4 E I λa E=>?_;exact⟨min (aw y.1.2.k) (aw z.1.2.k)-(f+1),by omega,f+1,⟨rfl,by omega⟩,E.ab [0,3,4,5,6],I.sub⟩
   refine RN 3 E I λa E=>?_;exact⟨i-(k+1),by omega,k+1,⟨rfl,by omega⟩,E.ab [0,3,4],I⟩
  obtain⟨x,hx⟩:∃ x,fs[i]?=some x:=⟨_,aE (by omega)⟩;have vv:(fs.map bx)[i]?=some (.slice x.1 x.2.2.length x.2.1):=by rw[bm,hx];rfl
  have bW:=(hv.kD x.2.2 (by rw[← k6];exact cV.2 ⟨x,bH hx,rfl⟩)).1;have hxE:∀ e∈x.2.2,e.1≠3:=rR x.2.2 (by rw[← k6];exact cV.2 ⟨x,bH hx,rfl⟩);refine RN 2 E I λa E=>?_;refine aO (λμ a w=>∃ (k:Nat),(μ=x.2.2.length-k∧k≤x.2.2.length)∧Fr a 142 [(0,pt D.wb),(3,.int .i64 i),(7,.int .i64 k)]∧U W w M) (x.2.2.length) (⟨0,⟨rfl,by omega⟩,E.ab [0,3,7],I⟩) ?_;clear E I;rintro μ a w ⟨k,⟨rfl,hk⟩,E,I⟩;refine RN 6 E I λa E=>?_;refine SS E (ae E ((rW _ I) 3 _ rfl)) λa E=>?_;refine RN 2 E I λa E=>?_;refine SS E (ae E ((OH _ I) i _ vv)) λa E=>?_;refine IF 2 E I (λbO a E=>?_) λbO a E=>?_
  ·
   have dM:k<x.2.2.length:=by omega
   obtain⟨be,aft,uJ,lO⟩:=adf I hx (by omega);replace lO:=jo AT lO (aE dM);have mc:=hxE _ (getElem_mem dM);refine RN 5 E I λa E=>?_;refine SS E (ae E ((rW _ I) 3 _ rfl)) λa E=>?_;refine RN 2 E I λa E=>?_;refine SS E (ae E ((OH _ I) i _ vv)) λa E=>?_;rw[uJ]at E;refine RN 3 E I λa E=>?_;refine SS E (ae E (lO 0 _ rfl)) λa E=>?_;refine RN 1 E I λa E=>?_;rw[bq (by omega)]at E;refine RN 4 E I λa E=>?_;exact⟨x.2.2.length-(k+1),by omega,k+1,⟨rfl,by omega⟩,E.ab [0,3,7],I⟩
  refine RN 3 E I λa E=>?_;exact⟨v.ps.length-(i+1),by omega,i+1,⟨rfl,by omega⟩,E.ab [0,3],I⟩
 refine RT 2 E I ?_;exact⟨rfl,cp _ I⟩
end
end
section
structure TV where
 bp:Nat
 op:Nat
 cP:Nat
 adN:Option Addr
 cN:Nat
 adE:Option Addr
 u7:Nat
 cE:Nat
 ys:List oW
structure adi (W:World)(K:TK)(p:Pr)(c:Nat)(v:Wd)(M L:List SP)(V:TV):Prop where
 t:∀ {w':World},U W w' M→Rd w' K.tb 0 (rU K)
 d:∀ {w':World},U W w' M→Rd w' K.D.wb 0 [pt K.D.mb,.slice (some ⟨V.bp,V.op,none⟩) v.ps.length V.cP,.slice V.adN v.net.length V.cN,.slice V.adE V.u7 V.cE]
 ps:∀ {w':World} {i:Nat} {y:oW},U W w' M→V.ys[i]?=some y→w'.cell? ⟨V.bp,V.op+i,none⟩=some (pt y.1.1.pb)
 rd:∀ {w':World} {i:Nat} {y:oW},U W w' M→V.ys[i]?=some y→y5 w' p y
 get:∀ i,i<v.ps.length→∃ y,V.ys[i]?=some y∧y.1.2=an v i
 back:∀ {w':World},U W w' M→U W w' (TS W K p c v::L)
 mat:∃ M',∀ w':World,U W w' M↔U W w' (aN W K.B p c v::M')
section
variable {W w:World}{L:List SP}{c i n:Nat}{p:Pr}{v:Wd}{K:TK}{cf:Cf}{G:List (List UInt8)}{OI:Int→Prop}{D:nP}
theorem TS.view (I:U W w (TS W K p c v::L))(h0:0<v.ps.length):∃ (M:List SP) (V:TV),adi W K p c v M L V∧U W w M:=by
 replace I:=TS.open I;obtain⟨adP,cP,adN,cN,gx,gg,rs,fs,⟨fZ,gA,k6⟩,I⟩:=bF.open (I.pick (bF W K.D p v));obtain⟨ys,lE,I⟩:=B6 (I.pick (ah (da W p) rs));have gl:rs.length=v.ps.length:=by rw[← gA,bd]
 have iH:ys.length=v.ps.length:=by rw[← gl,← lE,bd]
 obtain⟨bp,op,rfl,_⟩:=(I.pick (Sl 34 1 adP rs.length cP (rs.map dy))).bV adP (by omega);replace I:=I.sub (M:=ah (kc W p) ys::aa K.D.wb 40 [pt K.D.mb,.slice (some ⟨bp,op,none⟩) rs.length cP,.slice adN v.net.length cN,.slice gx fs.length gg]::Sl 34 1 (some ⟨bp,op,none⟩) rs.length cP (rs.map dy)::cm 60 adN v.net.length cN v.net::Sl 70 1 gx fs.length gg (fs.map bx)::ah eU fs::aa K.tb 33 (rU K)::aN W K.B p c v::L);refine⟨_,⟨bp,op,cP,adN,cN,gx,fs.length,gg,ys⟩,⟨λh=>h.ai (b:=K.tb),λh=>by rw[← gl];exact h.ai (b:=K.D.wb),λh hy=>?_,λh hy=>B8 h hy,λi hi=>?_,λh=>?_,⟨_,λw'=>⟨λh=>h.pick (aN W K.B p c v),λh=>h.sub⟩⟩⟩,I⟩
 ·rename_i i y;refine h.cJ bp op (by omega) i _ ?_;rw[← lE,List.map_map,bm,hy];rfl
 ·show ∃ y,ys[i]?=some y∧y.1.2=an v i;refine⟨ys[i]'(by omega),aE (by omega),?_⟩;rw[an,← gA,bn,bm,show rs[i]?=(ys.map (·.1))[i]? from by rw[lE],bm,aE (by omega)];rfl
 ·have h1:=B7 h;rw[lE]at h1;have h2:=bF.close (v:=v) (D:=K.D) (h1.sub (M:=aa K.D.wb 40 [pt K.D.mb,.slice (some ⟨bp,op,none⟩) rs.length cP,.slice adN v.net.length cN,.slice gx fs.length gg]::Sl 34 1 (some ⟨bp,op,none⟩) rs.length cP (rs.map dy)::ah (da W p) rs::cm 60 adN v.net.length cN v.net::Sl 70 1 gx fs.length gg (fs.map bx)::ah eU fs::aa K.tb 33 (rU K)::aN W K.B p c v::L)) fZ gA k6;exact TS.close (h2.sub (M:=aa K.tb 33 (rU K)::aN W K.B p c v::bF W K.D p v::L))
theorem adj (I:U W w (bF W D p v::L))(hv:bL p cf c v)(jw:gw p cf OI G v)(jY:9*c+100≤1000000000):Calls Tryz.prog 18 #[pt D.wb] w λe w'=>e=.returned (.bool true)∧U W w' (bF W D p v::L) :=
 ade I hv (λi j f hi hj h1 h2=>(jw.pl i hi).agree (jw.pl j hj) h1 h2) jw.bx jY
theorem adk (I:U W w (TS W K p c v::L))(hc:Wc p cf c v)(jw:gw p cf OI G v)(ky:c≤1000000):Calls Tryz.prog 18 #[pt K.D.wb] w λe w'=>e=.returned (.bool true)∧U W w' (TS W K p c v::L) :=
 (adj ((TS.open I).pick (bF W K.D p v)) hc.ok jw (by omega)).mono λe w' ⟨h1,h2⟩=>⟨h1,TS.close h2.sub⟩
theorem OJ (h:2≤n∧n≤8):eR (lF n):=by
 have h2:eR (lF 2):=by decide
 refine⟨⟨⟨?_,?_⟩,⟨?_,?_⟩,h2.1.2.2⟩,h2.2⟩
 ·show (2:Int)≤(n:Int);omega
 ·show (n:Int)≤8;omega
 ·show (0:Int)≤0;omega
 ·show (0:Int)≤(n:Int)-1;omega
theorem adl (h:2≤n∧n≤8):nn (dx (lF n) 0) bB []:=⟨OJ h,qF,show cX ⟨2,1,[]⟩ by decide⟩
end
end
section
structure oY (e r:Nat)(v:Wd):Prop where
 lv:Lv bB (lF 3) (λ_=>r) v
 len:v.ps.length=3
 net:v.net=[]
 hd:∀ x,x<3→bl v x x=2+r
 kn:∀ x y,x<3→y<2→bl v x y=2+r
 lo:∃ q,(r=0∨(q<r∧q%e=0∧∀ s,q<s→s<r→s%e≠0))∧∀ x,x<3→(if r=0 then 2 else q+3)≤bl v x 2
section
variable {e r:Nat}{v:Wd}
theorem oY.new:oY e 0 (fh bB (lF 3) 3):=by
 have h1:=wX.new (p:=bB) (OJ (n:=3) (by omega));have hl:(fh bB (lF 3) 3).ps.length=3:=rT;have h2:∀ x y,x<3→y<3→bl (fh bB (lF 3) 3) x y=2:=λx y hx hy=>h1.kn x y (by show x<(fh bB (lF 3) 3).ps.length;omega) (by show y<(fh bB (lF 3) 3).ps.length;omega);exact⟨h1.lv,hl,rfl,λx hx=>h2 x x hx hx,λx y hx hy=>h2 x y hx (by omega),0,.inl rfl,λx hx=>by rw[ak rfl,h2 x 2 hx (by omega)];exact a7 _⟩
def np (e r:Nat)(j:Nat):Bool:=decide (j≠2∨r%e=0)
theorem oY.base (h:oY e r v)(he:1≤e∧e≤6):tr bB (lF 3) r (λ_=>2+r) v:=by
 refine⟨h.lv,h.net,λx hx=>h.hd x (by rw[← h.len];exact hx),λx hx=>?_⟩;obtain⟨q,h1,h2⟩:=h.lo;have ed:x<3:=by rw[← h.len];exact hx
 have h3:(if r=0 then 2 else q+3)≤aw (an v x).k:=h.lv.G1 hx λj hj=>by
  rw[h.len]at hj;have h4:=h2 x ed;by_cases e2:j=2
  ·subst e2;exact h4
  ·rw[h.kn x j ed (by omega)];rcases h1 with h1 | ⟨h1,_⟩
   ·rw[ak h1];omega
   ·rw[ag (by omega)];omega
 show 2+r<8+_;rcases h1 with h1 | ⟨h1,h5,h6⟩
 ·rw[ak h1]at h3;omega
 ·rw[ag (by omega)]at h3;have h7:r≤q+e:=by
   rcases Nat.lt_or_ge (q+e) r with h7 | h7
   ·exact absurd (by rw[Nat.add_mod_right];exact h5) (h6 (q+e) (by omega) h7)
   ·exact h7
  omega
theorem oY.next (h:oY e r v)(he:1≤e∧e≤6)(hr:r<39):oY e (r+1) (oV bB (mK bB (np e r) r v 3)):=by
 have hB:=h.base he;have h2:=(hB.Oh (λ_ _=>by omega) hr (np e r) r v.ps.length (a7 _)).y2 hB;rw[show mK bB (np e r) r v v.ps.length=mK bB (np e r) r v 3 from by rw[h.len]]at h2;have hl:=h.len;refine⟨h2.lv,h2.len.trans hl,h2.net,λx hx=>by rw[h2.hd x (by omega)];omega,λx y hx hy=>by rw[h2.all x y (by omega) (by omega) (by simp[np];omega)];omega,?_⟩;obtain⟨q,h3,h4⟩:=h.lo;by_cases ht:r%e=0
 ·refine⟨r,.inr ⟨by omega,ht,λs h5 h6=>by omega⟩,λx hx=>?_⟩;rw[ag (by omega),h2.all x 2 (by omega) (by omega) (by simp[np,ht])];omega
 ·have Au:r≠0:=λq7=>ht (by rw[q7];exact Nat.zero_mod _);rcases h3 with h3 | ⟨h3,h5,h6⟩
  ·exact absurd h3 Au
  ·refine⟨q,.inr ⟨by omega,h5,λs h7 h8=>?_⟩,λx hx=>?_⟩
   ·by_cases e2:s=r
    ·rw[e2];exact ht
    ·exact h6 s h7 (by omega)
   ·have h9:=h4 x hx;rw[ag Au]at h9;rw[ag (by omega)];exact ft h9 (h2.up x 2 (by omega) (by omega))
theorem oY.last (h:oY e r v)(hr:r<39):wX bB (lF 3) (r+1) (2+r) (oV bB (bY bB ⟨2,(2:Nat),0,0⟩ v))∧(oV bB (bY bB ⟨2,(2:Nat),0,0⟩ v)).ps.length=3:=by
 have hl:=h.len;obtain⟨g1,iA,l8,lH,oy,_⟩:=h.lv.tick (i:=2) hr (by omega) (by rw[h.net,hl];decide) 0 0;rw[h.net,nil_append]at iA;obtain⟨h1,h2,h3,h4,h5,h6,h7⟩:=g1.y2 (l:=(bY bB ⟨2,(2:Nat),0,0⟩ v).net) rfl;have kq:=h3.trans (l8.trans hl);refine⟨⟨h1.more λi hi=>by split <;> omega,h2,λx y hx hy=>?_⟩,kq⟩;have ed:x<3:=by rw[← kq];exact hx
 have k6:y<3:=by rw[← kq];exact hy
 have wY:bl (oV bB (bY bB ⟨2,(2:Nat),0,0⟩ v)) y y=2+r:=by
  show bl (nR bB _ _) y y=_;rw[h5 y (by omega),lH,h.hd y k6]
 have hle:=h1.Oe hx hy;replace hle:bl (oV bB (bY bB ⟨2,(2:Nat),0,0⟩ v)) x y≤2+r:=by rw[← wY];exact hle
 refine Nat.le_antisymm hle ?_;by_cases e2:y=2
 ·by_cases e3:x=y
  ·rw[e3,wY];exact a7 _
  ·subst e2;obtain⟨m,hm,h8,h9⟩:=Og (v:=v) (i:=2) (j:=x) (by omega) e3;have eI:=h6 m (by rw[iA];exact hm);rw[h8,h9,oy m hm,h.hd 2 (by omega)]at eI;exact eI
 ·have jV:=h4 x y;rw[lH,h.kn x y ed (by omega)]at jV;exact jV
end
end
section
theorem Cc {p:Pr}{tk:Nat→Bool}{b:Int}{v:Wd}{i:Nat}(h:tk i=true):mK p tk b v (i+1)=bY p ⟨2,i,0,0⟩ (bY p ⟨1,i,b+i,0⟩ (mK p tk b v i)):=by rw[mK,ak h]
theorem OK {p:Pr}{tk:Nat→Bool}{b:Int}{v:Wd}{i:Nat}(h:tk i=false):mK p tk b v (i+1)=bY p ⟨1,i,b+i,0⟩ (mK p tk b v i):=by rw[mK,ag (by rw[h];decide)]
set_option maxHeartbeats 2000000 in
theorem adm (a0 de:Int)(gL:Bool)(W:World)(w0:(Lit.int .i64 a0).wf=true)(He:(Lit.int .i64 de).wf=true) :
   Calls Tryz.prog 12 #[.int .i64 a0,.int .i64 de,.bool gL] W λe w'=>e=.returned (.bool true)∧Below W.heap.size W w':=by
 have I:=U.start W;refine EN Tryz.func12 Tryz.ntmps12 rfl rfl λa E=>?_;refine CL 3 E I (ac7 I) λa w E I=>?_;refine RN 5 E I λa E=>?_;replace E:=E.aM 14;refine bh 3 E I (OA (k:=6) I (by decide) (by decide)) λy a w E ⟨hy,I⟩=>?_;refine bh 2 E I (OA (k:=20) I (by decide) (by decide)) λR a w E ⟨qz,I⟩=>?_;refine RN 3 E I λa E=>?_;obtain⟨e,he⟩:∃ e:Nat,e=1+y:=⟨_,rfl⟩;rw[show (1:Int)+(y:Int)=(e:Int) from by omega]at E;refine CL 0 E I (ac9 (n:=3) I) λa w E I=>?_;refine aY 1 E I (adb (cf:=lF 3) (n:=3) I (adl (by omega)) rfl) λW K a w E ⟨⟨hKn,vM,jx,aj⟩,I⟩=>?_;refine RN 1 E I λa E=>?_;have OL:oY e 0 (fh bB (lF 3) 3):=oY.new;generalize fh bB (lF 3) 3=v0 at I aj OL;refine RN 3 E I λa E=>?_;refine aO (λμ a w=>∃ (r c:Nat) (v:Wd),(μ=R-r∧(r≤R∧c≤4000*r)∧Wc bB (lF 3) c v∧oY e r v)∧Fr a 134 [(0,.int .i64 e),(1,.int .i64 R),(8,pt K.tb),(9,.int .i64 r)]∧U W w (TS W K bB c v::[])) (R) (⟨0,0,v0,⟨rfl,⟨by omega,by omega⟩,aj,OL⟩,E.ab [0,1,8,9],I⟩) ?_;clear E I;rintro μ a w ⟨r,c,v,⟨rfl,⟨hi,ky⟩,hc,rR⟩,E,I⟩;refine IF 5 E I (λao a E=>?_) λao a E=>?_
 ·
  refine RN 4 E I λa E=>?_;refine aO (λμ a w=>∃ (j dL:Nat),(μ=3-j∧(j≤3∧dL≤c+20*j)∧Wc bB (lF 3) dL (mK bB (np e r) r v j))∧Fr a 134 [(0,.int .i64 e),(1,.int .i64 R),(8,pt K.tb),(9,.int .i64 r),(10,.int .i64 j)]∧U W w (TS W K bB dL (mK bB (np e r) r v j)::[])) (3) (⟨0,c,⟨rfl,⟨by omega,by omega⟩,hc⟩,E.ab [0,1,8,9,10],I⟩) ?_;clear E I;rintro μ a w ⟨j,dL,⟨rfl,⟨hj,ao⟩,oX⟩,E,I⟩;refine IF 4 E I (λay a E=>?_) λay a E=>?_
  ·
   refine CL 8 E I (y9 (t:=⟨1,j,(r:Int)+j,0⟩) I jx oX (by omega)) λa w E I=>?_;refine BY 4 E I (λbA a E=>?_) λbA a E=>?_
   ·
    refine CL 9 E I (y9 (t:=⟨2,j,0,0⟩) I jx (oX.go (t:=⟨1,j,(r:Int)+j,0⟩)) (by omega)) λa w E I=>?_;refine RN 3 E I λa E=>?_;have gb:np e r j=true:=by simp[np];omega
    rw[← Cc gb]at I;exact⟨3-(j+1),by omega,j+1,dL+10+10,⟨rfl,⟨by omega,by omega⟩,by rw[Cc gb];exact oX.go.go⟩,E.ab [0,1,8,9,10],I⟩
   refine RN 3 E I λa E=>?_;rw[show (r:Int).tmod (e:Int)=((r%e:Nat):Int) from rfl]at E;refine IF 2 E I (λbk a E=>?_) λbk a E=>?_
   ·
    refine CL 3 E I (y9 (t:=⟨2,j,0,0⟩) I jx (oX.go (t:=⟨1,j,(r:Int)+j,0⟩)) (by omega)) λa w E I=>?_;refine RN 3 E I λa E=>?_;have gb:np e r j=true:=by simp[np];omega
    rw[← Cc gb]at I;exact⟨3-(j+1),by omega,j+1,dL+10+10,⟨rfl,⟨by omega,by omega⟩,by rw[Cc gb];exact oX.go.go⟩,E.ab [0,1,8,9,10],I⟩
   refine RN 3 E I λa E=>?_;have gb:np e r j=false:=by simp[np];omega
   rw[← OK gb]at I;exact⟨3-(j+1),by omega,j+1,dL+10,⟨rfl,⟨by omega,by omega⟩,by rw[OK gb];exact oX.go⟩,E.ab [0,1,8,9,10],I⟩
  obtain rfl:j=3:=by omega
  have mX:=oX.ok.net.1;refine CL 1 E I (OB I jx oX (by omega)) λa w E ⟨hf,I⟩=>?_;refine RN 3 E I λa E=>?_;exact⟨R-(r+1),by omega,r+1,_,_,⟨rfl,⟨by omega,by omega⟩,hf.1,rR.next (by omega) (by omega)⟩,E.ab [0,1,8,9],I⟩
 obtain rfl:r=R:=by omega
 refine CL 3 E I (y9 (t:=⟨2,(2:Nat),0,0⟩) I jx hc (by omega)) λa w E I=>?_;refine CL 2 E I (OB I jx hc.go (by omega)) λa w E ⟨hf,I⟩=>?_;refine RN 0 E I λa E=>?_;obtain⟨w5,GI⟩:=rR.last (by omega);have mX:=(hc.go (t:=⟨2,(2:Nat),0,0⟩)).ok.net.1;generalize BG:c+10+10*(bY bB ⟨2,(2:Nat),0,0⟩ v).net.length=yG at I hf;replace BG:yG≤900000:=by omega
 generalize oV bB (bY bB ⟨2,(2:Nat),0,0⟩ v)=u at I hf w5 GI;obtain⟨M,V,hV,I⟩:=TS.view I (by omega);obtain⟨y0,xI,he0⟩:=hV.get 0 (by omega);obtain⟨Jf,fZ,he1⟩:=hV.get 1 (by omega);obtain⟨Dq,gA,OM⟩:=hV.get 2 (by omega);have A4:=(w5.lv.op 0 (by omega)).1;have ON:=(w5.lv.op 1 (by omega)).1;rw[← he0]at A4;rw[← he1]at ON;refine RN 5 E I λa E=>?_;refine SS E (ae E ((hV.t I) 2 _ rfl)) λa E=>?_;refine RN 2 E I λa E=>?_;replace E:=E.aM 63;refine RN 3 E I λa E=>?_;refine bo E (b7 E rfl (s:=63)) (ae E ((hV.t I) 0 _ rfl)) rfl λa E=>?_;refine RN 2 E I λa E=>?_;refine bo E (b7 E rfl (s:=63)) (ae E ((hV.d I) 1 _ rfl)) rfl λa E=>?_;refine RN 1 E I λa E=>?_;refine bo E (b7 E rfl (s:=63)) (ae E (hV.ps I xI)) rfl λa E=>?_;refine RN 2 E I λa E=>?_;refine bo E (b7 E rfl (s:=63)) (ae E ((hV.rd I xI).pb 0 _ rfl)) rfl λa E=>?_;refine RN 2 E I λa E=>?_;refine bo E (b7 E rfl (s:=63)) (ae E ((hV.rd I xI).cb 18 _ rfl)) rfl λa E=>?_;rw[A4]at E;refine RN 2 E I λa E=>?_;replace E:=E.aM 80;refine RN 3 E I λa E=>?_;refine bo E (b7 E rfl (s:=80)) (ae E ((hV.t I) 0 _ rfl)) rfl λa E=>?_;refine RN 2 E I λa E=>?_;refine bo E (b7 E rfl (s:=80)) (ae E ((hV.d I) 1 _ rfl)) rfl λa E=>?_;refine RN 1 E I λa E=>?_;refine bo E (b7 E rfl (s:=80)) (ae E (hV.ps I fZ)) rfl λa E=>?_;refine RN 2 E I λa E=>?_;refine bo E (b7 E rfl (s:=80)) (ae E ((hV.rd I fZ).pb 0 _ rfl)) rfl λa E=>?_;refine RN 2 E I λa E=>?_;refine bo E (b7 E rfl (s:=80)) (ae E ((hV.rd I fZ).cb 18 _ rfl)) rfl λa E=>?_;rw[ON]at E;refine RN 1 E I λa E=>?_;replace E:=E.aM 96;refine RN 4 E I λa E=>?_;refine aO (λμ a w=>∃ (j:Nat),(μ=3-j∧j≤3)∧Fr a 134 [(8,pt K.tb),(11,.int .i64 j)]∧U W w M) (3) (⟨0,⟨rfl,by omega⟩,E.ab [8,11],I⟩) ?_;clear E I;rintro μ a w ⟨j,⟨rfl,hj⟩,E,I⟩;refine IF 4 E I (λeE a E=>?_) λeE a E=>?_
 ·
  have ei:j<u.ps.length:=by omega
  obtain⟨z,hz,nF⟩:=hV.get j ei;have OO:=(hf.1.ok.pl j ei).1.wc;have OP:=(hf.1.ok.pl 2 (by omega)).1.wc;rw[← nF]at OO;rw[← OM]at OP;have Hf:=(w5.front ei).1;have jh:=(w5.front (i:=2) (by omega)).2;rw[← nF]at Hf;rw[← OM]at jh;have w4:=(hV.rd I hz).eq;have h2x:=(hV.rd I gA).eq;refine aV 2 (λw0 w'=>U W w' M) [13,17,18,19,20,21,22,23,24,25] [0,1,2,7,14,15,16,3003,4,5,3006,8,3009,10,11,3012,3017,3018,3019,3020,3021,3022,3023,3024,3025,1013,1026,27] E I λa w E I hH=>?_;have hC:=hH.at w I;refine RH 7 E I hH hC λa E=>?_;refine QH E (λw hc=>ae E ((hV.t hc) 0 _ rfl)) hC λa E=>?_;refine RH 2 E I hH hC λa E=>?_;refine QH E (λw hc=>ae E ((hV.d hc) 1 _ rfl)) hC λa E=>?_;refine RH 1 E I hH hC λa E=>?_;refine QH E (λw hc=>ae E (hV.ps hc hz)) hC λa E=>?_;refine RH 2 E I hH hC λa E=>?_;refine QH E (λw hc=>ae E ((hV.rd hc hz).pb 0 _ rfl)) hC λa E=>?_;refine QH E (λw hc=>ae E ((hV.t hc) 0 _ rfl)) hC λa E=>?_;refine RH 2 E I hH hC λa E=>?_;refine QH E (λw hc=>ae E ((hV.d hc) 1 _ rfl)) hC λa E=>?_;refine RH 1 E I hH hC λa E=>?_;refine QH E (λw hc=>ae E (hV.ps hc gA)) hC λa E=>?_;refine RH 2 E I hH hC λa E=>?_;refine QH E (λw hc=>ae E ((hV.rd hc gA).pb 0 _ rfl)) hC λa E=>?_;refine RH 0 E I hH hC λa E=>?_;refine CL 0 E I (G7 (A:=z.2.1) I OO w4 λw' h=>⟨(hV.rd h hz).cb,(hV.rd h hz).ls⟩) λa w E I=>?_;replace hC:=hH.at w I;rw[Hf]at E;refine RH 0 E I hH hC λa E=>?_;refine CL 0 E I (acV (A:=Dq.2.1) I OP h2x λw' h=>⟨(hV.rd h gA).cb,(hV.rd h gA).ls⟩) λa w E I=>?_;replace hC:=hH.at w I;rw[jh]at E;refine RH 1 E I hH hC λa E=>?_;rw[bq (by simp)]at E;refine RN 4 E I λa E=>?_;exact⟨3-(j+1),by omega,j+1,⟨rfl,by omega⟩,E.ab [8,11],I⟩
 refine RN 1 E I λa E=>?_;replace I:=hV.back I;obtain⟨tZ,u7,adP,adN,adE,cP,cN,cE,hT⟩:=TS.rd I;obtain⟨G,jw⟩:=w5.lv.kb;refine RN 3 E I λa E=>?_;refine SS E (ae E (hT.t 0 _ rfl)) λa E=>?_;refine CL 0 E I (adk I hf.1 jw (by omega)) λa w E I=>?_;refine RT 1 E I ?_;exact⟨rfl,ac4 vM I⟩
end
section
set_option maxRecDepth 100000
theorem gh {x y:Bool}(h:x=true)(k:y=true):(x&&y)=true:=by rw[h,k];rfl
theorem adn {P:Program}{f:FuncId}{fn:Func}{s:ChangeSpec}{c:OpenClaim}(k1:c.wf (OpenSpec.ofChange s)=true)(k2:laidOutB P=true)(k3:mapsRowed P=true)(k4:fn.params.all (P.readableRec ·)=true)(yf:namedTie P c.named s.vars=true)
   (ado:(c.stops==[])=true) (adp:(P.stops==[])=true) (adr:(c.knobs==[])=true) (ads:(P.stopKnobs==[])=true) (Hg:(c.inPlace==P.inPlace f)=true) (Ca:(c.unfollowed==P.unfollowed f)=true) (Hh:(c.recurses==P.recurses f)=true) (Hi:(c.named==P.varsNamed f)=true)
   (k14:(c.maps==(fn.params.toList++s.plain.varTypes P).any (P.mapsRec ·))=true) (k15:(c.ifaces==(fn.params.toList++s.plain.varTypes P).any (P.ifacesRec ·))=true) (k16:(c.mapsOut==P.mapsAmong fn.resultTypes.toList)=true)
   (k17:(c.loops==(fn.params.toList++s.plain.varTypes P).any (P.loopsFrom ·))=true) (k18:(c.wideKeys==(fn.params.toList++s.plain.varTypes P++fn.resultTypes.toList).any (P.wideKeysFrom ·))=true) (k19:s.vars.all (P.varReadable ·)=true) (k20:fn.resultTypes.all (λt=>P.readableRec t&&decide (t<P.types.size))=true)
   (k21:(c.ifacesOut==fn.resultTypes.toList.any (P.ifacesRec ·))=true) (k22:(c.loopsOut==fn.resultTypes.toList.any (P.loopsFrom ·))=true) (k23:(c.plainKeys==P.plainKeys)=true) (k24:c.shortTexts.isNone=true) (k25:P.stopsHeard=true) (k26:P.mayEnter=true) (k27:(c.lifted==P.liftsFinal)=true) (k28:(P.make==some c.make)=true)
   (k29:(c.kinds==(if c.domain.isEmpty then [] else fn.params.toList.map λt=>match P.underlying t with | some (.int k)=>some k | _=>none))=true) (k30:(c.pinned==c.pinnedBy)=true) (k31:(c.veiled==(fn.params.toList++s.plain.varTypes P++fn.resultTypes.toList).any (P.veiledRec ·))=true) (k32:c.veiledFits P fn.params.toList (fn.params.toList++s.plain.varTypes P++fn.resultTypes.toList)=true):joinedFacts P f fn s c=true:=by
 unfold joinedFacts;exact gh (gh (gh (gh (gh (gh (gh (gh (gh (gh (gh (gh (gh (gh (gh (gh (gh (gh (gh (gh (gh (gh (gh (gh (gh (gh (gh (gh (gh (gh (gh k1 k2) k3) k4) yf) ado) adp) adr) ads) Hg) Ca) Hh) Hi) k14) k15) k16) k17) k18) k19) k20) k21) k22) k23) k24) k25) k26) k27) k28) k29) k30) k31) k32
theorem OQ:laidOutB Tryz.prog=true:=by kernel_rfl
theorem adt:mapsRowed Tryz.prog=true:=by kernel_rfl
theorem adu:Tryz.prog.stopsHeard=true:=by kernel_rfl
theorem adv:Tryz.prog.mayEnter=true:=by kernel_rfl
theorem adw (c:OpenClaim)(h:c.plainKeys=Rows.matchNoneRow.plainKeys):(c.plainKeys==Tryz.prog.plainKeys)=true:=by
 rw[h];kernel_rfl
theorem adx (c:OpenClaim)(h:c.lifted=Rows.matchNoneRow.lifted):(c.lifted==Tryz.prog.liftsFinal)=true:=by
 rw[h];kernel_rfl
theorem ady (c:OpenClaim)(h:c.make=Rows.matchNoneRow.make):(Tryz.prog.make==some c.make)=true:=by
 rw[h];kernel_rfl
end
end Go.Proofs.YteoldcfapaiobaaGreat
