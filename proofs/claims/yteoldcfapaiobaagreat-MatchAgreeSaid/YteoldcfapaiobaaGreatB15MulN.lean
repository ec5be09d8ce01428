/- Package multi: New; no player. -/
import Derived.Test.YteoldcfapaiobaaGreatB14RefG
import Derived.Test.YteoldcfapaiobaaGreatB06Ref
import Derived.Test.YteoldcfapaiobaaGreatB13RefC
import Derived.Test.YteoldcfapaiobaaGreatB11Rank
import Derived.Test.YteoldcfapaiobaaGreatB12Mul
namespace Go.Proofs.YteoldcfapaiobaaGreat
open Tryz
open List (mem_cons_self length_range getElem?_take getElem?_drop take_zero nil_append ext_getElem getElem_map eraseIdx_eq_take_drop_succ take_length getElem_mem map_take map_drop mem_singleton range_succ set_getElem_self length_filter_le)
open Go.RowKit
set_option linter.unusedVariables false
set_option linter.unusedSimpArgs false
set_option maxRecDepth 10000
set_option synthInstance.maxSize 4000
set_option synthInstance.maxHeartbeats 400000
section
section
variable {W w:World}{L:List SP}{n c cP cT nb nw rm me aE bm:Nat}{adP adT:Option Addr}{M:jm}{B:iT}{x:UInt8}{p:Pr}{s:Pl}{m:Mu}{tb:List UInt8}{cf:Cf}{y id aX order cm workers room:Int}
theorem abl (I:U W w (ay W p adP cP::L))(h:¬ eO cf)(de:tb.length≤1099511627776)(hT:∀ V,U W V (ay W p adP cP::L)→aQ V adT tb.length tb) :
   Calls prog 59 #[.agg (br cf).toArray,.agg (bw p adP cP).toArray,.slice adT tb.length cT] w λr V=>r=.returned (.tuple #[.pointer none,.int .i64 1])∧U W V (ay W p adP cP::L):=by
 refine EN func59 ntmps59 rfl rfl λa E=>?_;refine BX 1 E I λb3 a w E I=>?_;change U W w (aa b3 28 (br cf)::_) at I;refine BX 0 E I λb4 a w E I=>?_;change U W w (aa b4 45 (bw p adP cP)::_) at I;refine CL 6 E I (L1 (tb:=tb) (I.pick (ay W p adP cP)) h de (λV hw=>hT V hw.sub)) λa w E I=>?_;refine RN 9 E I λa E=>?_;replace E:=E.dX 19;refine RT 5 E I ?_;exact⟨rfl,I.sub⟩
theorem abm (I:U W w (ay W p adP cP::L))(hm:eO ⟨n,me,id,aE,bm,aX,order,cm,workers,room⟩)(h:¬ (db p∧cY ⟨aX,order,tb⟩))(aC:p.title.size≤1000000000)(cS:p.ops.length≤1000000000)(de:tb.length≤1099511627776)(hT:∀ V,U W V (ay W p adP cP::L)→aQ V adT tb.length tb) :
   Calls prog 59 #[.agg (br ⟨n,me,id,aE,bm,aX,order,cm,workers,room⟩).toArray,.agg (bw p adP cP).toArray,.slice adT tb.length cT] w λr V=>r=.returned (.tuple #[.pointer none,.int .i64 1])∧U W V (ay W p adP cP::L):=by
 obtain⟨cf,cw⟩:∃ cf:Cf,cf=⟨n,me,id,aE,bm,aX,order,cm,workers,room⟩:=⟨_,rfl⟩;rw[← cw];refine EN func59 ntmps59 rfl rfl λa E=>?_;refine BX 1 E I λb3 a w E I=>?_;change U W w (aa b3 28 (br cf)::_) at I;refine BX 0 E I λb4 a w E I=>?_;change U W w (aa b4 45 (bw p adP cP)::_) at I;refine RN 6 E I λa E=>?_;rw[cw]at E;refine CL 0 E I (L2 (tb:=tb) (I.pick (ay W p adP cP)) hm h aC cS de (λV hw=>hT V hw.sub)) λa w E I=>?_;refine RN 9 E I λa E=>?_;replace E:=E.dX 19;refine RT 5 E I ?_;exact⟨rfl,I.sub⟩
set_option maxHeartbeats 1000000 in
theorem abn (I:U W w (ay W p adP cP::L))(hm:eO ⟨n,me,id,aE,bm,aX,order,nb,nw,rm⟩)(a7:db p)(fA:cY ⟨aX,order,tb⟩)(aC:p.title.size≤1000000000)(cS:p.ops.length≤1000000000)(de:tb.length≤1099511627776)(hT:∀ V,U W V (ay W p adP cP::L)→aQ V adT tb.length tb) :
   Calls prog 59 #[.agg (br ⟨n,me,id,aE,bm,aX,order,nb,nw,rm⟩).toArray,.agg (bw p adP cP).toArray,.slice adT tb.length cT] w λr V=>∃ (M:jm) (m:Mu),r=.returned (.tuple #[pt M.mb,.int .i64 0]) ∧
    (M.B.gs=⟨aX,order,tb⟩∧m.s=eD p ⟨n,me,id,aE,bm,aX,order,nb,nw,rm⟩∧MI p M 1 m∧m.T.l=[]∧m.J=[]∧∀ k∈m.ks,k.1=kR)∧U W V (aH W M p m::ay W p adP cP::L):=by
 obtain⟨cf,cw⟩:∃ cf:Cf,cf=⟨n,me,id,aE,bm,aX,order,nb,nw,rm⟩:=⟨_,rfl⟩;have cF:=hm;simp only[eO,dE]at cF;obtain⟨⟨h1,h2,h3⟩,⟨h4,h5,h6,h7⟩,h8,h9,fF,mQ⟩:=cF;rw[← cw];refine EN func59 ntmps59 rfl rfl λa E=>?_;refine BX 1 E I λb3 a w E I=>?_;change U W w (aa b3 28 (br cf)::_) at I;refine BX 0 E I λb4 a w E I=>?_;change U W w (aa b4 45 (bw p adP cP)::_) at I;refine RN 6 E I λa E=>?_;rw[cw]at E;refine aR 0 E I (L3 (tb:=tb) (I.pick (ay W p adP cP)) hm a7 fA aC cS de (λV hw=>hT V hw.sub)) λB a w E ⟨Nj,I⟩=>?_;rw[← cw]at I;refine RN 9 E I λa E=>?_;replace E:=E.aK 19;refine RN 2 E I λa E=>?_;replace I:=I.bO 114 4 none;rw[bw]at I;refine RN 2 E I λa E=>?_;refine gU E rfl I underlying43 Ty.t114 rfl rfl (by decide) (λh0=>(I.pick (ay W p adP cP)).qT adP h0) (by rw[iY Da]) (y8 I0 _) (by omega) λgq gr a w E I=>?_;rw[nil_append,Nat.zero_add]at I;rw[Nat.zero_add]at E;refine ST 1 E I (λa w E I=>?_);refine RN 1 E I λa E=>?_;replace I:=(I.pick (Sl 114 4 gq p.ops.length gr (rows dP p.ops))).Dc;refine aY 0 (λw0 V=>Rd V b3 0 (br cf)∧Rd V b4 0 [.string p.title,.slice gq p.ops.length gr]) [3,4,5] [0,2,3001,1003,1004,1005,6,1007,8] E I λa w E I hH=>?_;have hC:=hH.at w ⟨I.ai (b:=b3),I.ai (b:=b4)⟩;refine RH 2 E I hH hC λa E=>?_;refine QH E (λw hc=>bR E underlying45 rfl Ty.t45 (hc.2)) hC λa E=>?_;refine RH 0 E I hH hC λa E=>?_;refine SS E (ae E (hC.1 9 _ rfl)) λa E=>?_;rw[show cf.room=(rm:Int) from by rw[cw]]at E;refine RH 0 E I hH hC λa E=>?_;refine a6 0 E I (Ui (n:=rm) I (by omega)) λsq r a w E I=>?_;replace hC:=hH.at w ⟨I.ai (b:=b3),I.ai (b:=b4)⟩;refine RH 0 E I hH hC λa E=>?_;refine aR 0 E I (UY I) λjq a w E I=>?_;replace hC:=hH.at w ⟨I.ai (b:=b3),I.ai (b:=b4)⟩;refine RH 1 E I hH hC λa E=>?_;refine wW E rfl I rfl λgC a w E I ho=>?_;clear ho;change U W w (aa gC 177 [pt B.pb,.string p.title,.slice gq p.ops.length gr,pt sq,.pointer none,pt jq,.slice none 0 0,.int .i64 0,.int .i64 0]::_) at I;refine RN 1 E I λa E=>?_;refine aY 1 (λw0 V=>Rd V b3 0 (br cf)∧V.cell? ⟨gC,3,none⟩=some (pt sq)) [6] [0,1,2,3,5,3004,1006,1007,8,9,1010] E I λa w E I hH=>?_;have hC:=hH.at w ⟨I.ai (b:=b3),(I.ai (b:=gC)) 3 _ rfl⟩;refine RH 5 E I hH hC λa E=>?_;refine QH E (λw hc=>ae E (hc.2)) hC λa E=>?_;refine RH 0 E I hH hC λa E=>?_;refine SS E (ae E (hC.1 7 _ rfl)) λa E=>?_;rw[show cf.cm=(nb:Int) from by rw[cw]]at E;refine RH 0 E I hH hC λa E=>?_;refine aR 0 E I (Us (m:=(nb:Int)) I) λtq a w E I=>?_;rw[show (min (max (nb:Int) 0) 8).toNat=nb from by omega]at I;refine ST 2 E I (λa w E I=>?_);refine RN 3 E I λa E=>?_;refine SS E (ae E ((I.ai (b:=b3)) 8 _ rfl)) λa E=>?_;rw[show cf.workers=(nw:Int) from by rw[cw]]at E;refine RN 1 E I λa E=>?_;refine aP (λμ a w=>∃ (ks:List Kx) (dy:Option Addr) (dF:Nat),(μ=nw-ks.length∧ks.length≤nw∧(∀ k∈ks,k.1=kR))∧Fr a 93 [(3,pt b3),(8,pt B.pb),(10,pt gC),(44,.int .i64 nw),(45,.int .i64 ks.length)]∧U W w (aa gC 177 (dU p ⟨gC,B,sq,r,tq,jq,dy,dF,gq,gr⟩ ks.length 0 0)::Sl 179 1 dy ks.length dF (gK ks)::ah (e5 p gq gr tq jq sq) ks::aa b3 28 (br cf)::aO W B p (eD p cf)::ay W p gq gr::ay W p adP cP::Tree tq sq ⟨nb,[],0,0⟩::ax sq r ⟨0,4*rm,0,[]⟩::bK jq []::L)) (nw) (⟨[],none,0,⟨by simp,by simp,λk hk=>by cases hk⟩,E.ab [3,8,10,44,45],(show U W w (Sl 179 1 none ([]:List Kx).length 0 (gK [])::ah (e5 p gq gr tq jq sq) []::aa gC 177 (dU p ⟨gC,B,sq,r,tq,jq,none,0,gq,gr⟩ ([]:List Kx).length 0 0)::_) from (I.iM (f:=e5 p gq gr tq jq sq)).bO 179 1 none).sub⟩) ?_;clear E I;rintro μ a w ⟨ks,dy,dF,⟨rfl,dO,yH⟩,E,I⟩;refine IF 3 E I (λao a E=>?_) λao a E=>?_
 ·
  refine aY 1 (λw0 V=>Rd V gC 0 (dU p ⟨gC,B,sq,r,tq,jq,dy,dF,gq,gr⟩ ks.length 0 0)) [8,12,16,20,21,22] [0,1,2,3,5,6,7,9,10,11,13,14,15,17,18,19,3004,3008,3012,3016,1020,1021,1022,1023,24,25,1026] E I λa w E I hH=>?_;have hC:=hH.at w (I.ai (b:=gC));refine RH 16 E I hH hC λa E=>?_;refine QH E (λw hc=>ae E (hc 6 _ rfl)) hC λa E=>?_;refine QH E (λw hc=>bR E underlying45 rfl Ty.t45 (Nf hc)) hC λa E=>?_;refine QH E (λw hc=>ae E (hc 4 _ rfl)) hC λa E=>?_;refine QH E (λw hc=>ae E (hc 5 _ rfl)) hC λa E=>?_;refine RH 0 E I hH hC λa E=>?_;refine SS E (ae E (hC 3 _ rfl)) λa E=>?_;refine RH 0 E I hH hC λa E=>?_;refine aR 0 E I (WR I) λwb a w E I=>?_;replace hC:=hH.at w (I.ai (b:=gC));refine RH 0 E I hH hC λa E=>?_;refine cp E rfl I underlying175 Ty.t179 rfl rfl rfl rfl (by decide) (by decide) λb69 a w E I ho=>?_;clear ho;replace hC:=hH.at w (I.ai (b:=gC));refine RH 0 E I hH hC λa E=>?_;refine cQ E rfl I underlying175 Ty.t179 rfl rfl I.ai rfl (by simp[Value.oneCell']) (by decide) (by decide) (by omega) λuL uM a w E I=>?_;refine ST 2 E I (λa w E I=>?_);have o9:U W w (aa gC 177 (dU p ⟨gC,B,sq,r,tq,jq,uL,uM,gq,gr⟩ (ks++[(kR,wb)]).length 0 0)::Sl 179 1 uL (ks++[(kR,wb)]).length uM (gK (ks++[(kR,wb)]))::aa wb 247 (cx p gq gr tq jq sq kR)::ah (e5 p gq gr tq jq sq) ks::aa b3 28 (br cf)::aO W B p (eD p cf)::ay W p gq gr::ay W p adP cP::Tree tq sq ⟨nb,[],0,0⟩::ax sq r ⟨0,4*rm,0,[]⟩::bK jq []::L):=by
   have e1:(ks++[(kR,wb)]).length=ks.length+1:=by simp
   have e2:gK (ks++[(kR,wb)])=gK ks++[pt wb]:=by simp[gK]
   rw[e1,e2];change U W w (aa gC 177 (dU p ⟨gC,B,sq,r,tq,jq,uL,uM,gq,gr⟩ (ks.length+1) 0 0)::Sl 179 1 uL (ks.length+1) uM (gK ks++[pt wb])::_) at I;exact I.sub
  have Nk:=U.jG (f:=e5 p gq gr tq jq sq) (x:=(kR,wb)) (l:=ks) (o9.sub (M:=aa wb 247 (cx p gq gr tq jq sq kR)::ah (e5 p gq gr tq jq sq) ks::aa gC 177 (dU p ⟨gC,B,sq,r,tq,jq,uL,uM,gq,gr⟩ (ks++[(kR,wb)]).length 0 0)::Sl 179 1 uL (ks++[(kR,wb)]).length uM (gK (ks++[(kR,wb)]))::aa b3 28 (br cf)::aO W B p (eD p cf)::ay W p gq gr::ay W p adP cP::Tree tq sq ⟨nb,[],0,0⟩::ax sq r ⟨0,4*rm,0,[]⟩::bK jq []::L));replace I:=Nk;clear o9 Nk;refine RN 2 E I λa E=>?_;have abo:(ks++[(kR,wb)]).length=ks.length+1:=by simp
  refine⟨nw-(ks.length+1),by omega,ks++[(kR,wb)],uL,uM,⟨by omega,by omega,λk hk=>?_⟩,?_,I.sub⟩
  ·rcases eR.1 hk with hk | hk
   ·exact yH k hk
   ·rw[mem_singleton.1 hk]
  ·rw[abo];exact E.ab [3,8,10,44,45]
 refine aY 1 (λw0 V=>Rd V gC 0 (dU p ⟨gC,B,sq,r,tq,jq,dy,dF,gq,gr⟩ ks.length 0 0)) [6] [0,1,2,3,5,3004,1006,1007,8,9,10,11,12,1013] E I λa w E I hH=>?_;have hC:=hH.at w (I.ai (b:=gC));refine RH 5 E I hH hC λa E=>?_;refine QH E (λw hc=>ae E (hc 3 _ rfl)) hC λa E=>?_;refine RH 0 E I hH hC λa E=>?_;refine CL 0 E I (L9 (I.pick (aO W B p (eD p cf)))) λa w E I=>?_;replace hC:=hH.at w (I.ai (b:=gC));refine RH 0 E I hH hC λa E=>?_;refine aR 0 E I (ID (g:=(eD p cf).g) (I.store sq) (by simp[Sn.used,Uh];omega) (by simp)) λt a w E ⟨⟨ZP,FI⟩,I⟩=>?_;refine ST 5 E I (λa w E I=>?_);refine RN 3 E I λa E=>?_;refine SS E (ae E ((I.ai (b:=b3)) 3 _ rfl)) λa E=>?_;rw[show cf.aE=(aE:Int) from by rw[cw]]at E;refine ST 2 E I (λa w E I=>?_);change U W w (aa gC 177 (dU p ⟨gC,B,sq,r,tq,jq,dy,dF,gq,gr⟩ ks.length 1 aE)::_) at I;refine RT 4 E I ?_;obtain rfl:ks.length=nw:=by omega
 have uN:=aH.fold I ⟨gC,B,sq,r,tq,jq,dy,dF,gq,gr⟩ p ⟨eD p cf,(⟨0,4*rm,0,[]⟩:Sn).add (eD p cf).g t,⟨nb,[],0,0⟩,[],ks,1,aE⟩;refine⟨⟨gC,B,sq,r,tq,jq,dy,dF,gq,gr⟩,⟨eD p cf,(⟨0,4*rm,0,[]⟩:Sn).add (eD p cf).g t,⟨nb,[],0,0⟩,[],ks,1,aE⟩,rfl,⟨Nj,rfl,?_,rfl,rfl,yH⟩,uN.sub⟩;obtain⟨ps,ev,mr,hk⟩:∃ ps ev mr,(eD p cf).k={ fh cf with ps:=ps,ev:=ev,mr:=mr }:=(wa (p:=p) (c:=cf) (by rw[cw];exact hm)).eC.2.2;have Gw:cv p (eD p cf):=cv.new (by rw[cw];exact hm);have hfd:aw (eD p cf).k=aE:=by
  obtain⟨l,kM,ma⟩:=Au Gw.wc.k0;rw[aw,ma];rw[hk]at kM;have hl3:l∈List.replicate cf.n.toNat (List.replicate cf.aE.toNat 0):=kM;rw[(List.mem_replicate.1 hl3).2,ke,cw];rfl
 have bT:∀ k∈ks.map (·.1),k=kR:=λk hk=>by
  obtain⟨y,hy,rfl⟩:=c0.1 hk;exact yH y hy
 exact { wf:=Gw,gs:=by rw[Nj];exact fA,front:=hfd.symm,ga:=λy hy=>(by cases hy),J:=by simp,most:=by rw[hk,cw];rfl,workers:=by rw[hk,cw];rfl,ks:=by dsimp only;omega,room:=⟨by rw[hk,cw];simp only[Sn.add,fh];omega,by simp only[Sn.add];omega⟩,n:=⟨bk _,Nat.zero_le _,Nat.zero_le _⟩,inv:=⟨t,by
  refine⟨?_,λx hx=>?_,λx hx _=>?_,λy hy=>(by cases hy),λk hk=>?_⟩
  ·rw[Mb (λk hk=>by rw[bT k hk];rfl)];exact List.Perm.refl _
  ·rw[mem_singleton.1 hx];exact⟨rfl,Gw.py a7⟩
  ·rw[mem_singleton.1 hx];exact⟨rfl,rfl⟩
  ·rw[bT k hk];exact⟨Int.le_refl _,λh=>(by cases h)⟩⟩ }
end
end
section
open Go.RowKit Go.ChangeShapes Go.WideShapes Go.ChangeAt
set_option linter.constructorNameAsVariable false
set_option maxRecDepth 100000
theorem abp {H:Type}{enc:TypeId×Value→H}{W:World}{base:Nat}{v:Value}{d:DataW H}{q:List MemPlace}(hv:Value.okWide prog W .any base 28 v)
   (h:DataW.Trod enc prog W 0 (λ_=>true) true 28 v d q):∃ cf:Cf,v=.agg (br cf).toArray:=by
 obtain⟨cs,rfl,aC⟩:=okWide_struct underlying28 hv;obtain⟨fuel,hf⟩:=h;obtain⟨xs,n,_,_,_,hlen,kj⟩:=DataW.trod_struct underlying28 hf;rw[show prog.cellsOf 28=10 from by kernel_rfl]at aC;have ao:prog.cellsOf 3=1:=by kernel_rfl
 have hi:∀ k,k<10→∃ z,cs.toList[k]?=some (.int .i64 z):=by
  intro k hk;obtain⟨y,hy⟩:∃ y,xs[k]?=some y:=⟨_,aF (by rw[hlen];exact hk)⟩;have ca:∃ f:Field,prog.underlying f.type=some (.int .i64)∧prog.cellsOf f.type=1∧f.offset=k∧DataW.trod enc prog W 0 (λ_=>true) true n f.type (((Value.agg cs).cells.toList.drop f.offset).take (prog.cellsOf f.type))=some y:=by
   rcases (by omega:k=0∨k=1∨k=2∨k=3∨k=4∨k=5∨k=6∨k=7∨k=8∨k=9) with rfl | rfl | rfl | rfl | rfl | rfl | rfl | rfl | rfl | rfl
   ·exact⟨_,underlying3,by kernel_rfl,rfl,(kj 0 _ rfl).trans hy⟩
   ·exact⟨_,underlying3,by kernel_rfl,rfl,(kj 1 _ rfl).trans hy⟩
   ·exact⟨_,underlying2,by kernel_rfl,rfl,(kj 2 _ rfl).trans hy⟩
   ·exact⟨_,underlying3,by kernel_rfl,rfl,(kj 3 _ rfl).trans hy⟩
   ·exact⟨_,underlying3,by kernel_rfl,rfl,(kj 4 _ rfl).trans hy⟩
   ·exact⟨_,underlying3,by kernel_rfl,rfl,(kj 5 _ rfl).trans hy⟩
   ·exact⟨_,underlying3,by kernel_rfl,rfl,(kj 6 _ rfl).trans hy⟩
   ·exact⟨_,underlying3,by kernel_rfl,rfl,(kj 7 _ rfl).trans hy⟩
   ·exact⟨_,underlying3,by kernel_rfl,rfl,(kj 8 _ rfl).trans hy⟩
   ·exact⟨_,underlying3,by kernel_rfl,rfl,(kj 9 _ rfl).trans hy⟩
  obtain⟨f,t1,t2,t4,t3⟩:=ca;rw[t4,t2]at t3;obtain⟨z,hz,_,_⟩:=DataW.trod_int t1 t3;refine⟨z,?_⟩;have h9:(((Value.agg cs).cells.toList.drop k).take 1)[0]?=some (.int .i64 z):=by rw[hz];rfl
  rw[getElem?_take,al (by decide),getElem?_drop]at h9;simpa [Value.cells] using h9
 obtain⟨uO,dN,c2,c7,fP,dg,kQ,l5,my,rE,rfl⟩:∃ uO dN c2 c7 fP dg kQ l5 my rE,cs=#[uO,dN,c2,c7,fP,dg,kQ,l5,my,rE]:=by
  match cs,aC with
  | ⟨[uO,dN,c2,c7,fP,dg,kQ,l5,my,rE]⟩,_=>exact⟨uO,dN,c2,c7,fP,dg,kQ,l5,my,rE,rfl⟩
 obtain⟨z0,q0⟩:=hi 0 (by decide);obtain⟨z1,q1⟩:=hi 1 (by decide);obtain⟨z2,q2⟩:=hi 2 (by decide);obtain⟨z3,xU⟩:=hi 3 (by decide);obtain⟨z4,xV⟩:=hi 4 (by decide);obtain⟨z5,Af⟩:=hi 5 (by decide);obtain⟨EI,FQ⟩:=hi 6 (by decide);obtain⟨Ap,FR⟩:=hi 7 (by decide);obtain⟨Kt,abq⟩:=hi 8 (by decide);obtain⟨z9,abr⟩:=hi 9 (by decide);obtain rfl:uO=_:=Option.some.inj q0;obtain rfl:dN=_:=Option.some.inj q1;obtain rfl:c2=_:=Option.some.inj q2;obtain rfl:c7=_:=Option.some.inj xU;obtain rfl:fP=_:=Option.some.inj xV;obtain rfl:dg=_:=Option.some.inj Af;obtain rfl:kQ=_:=Option.some.inj FQ;obtain rfl:l5=_:=Option.some.inj FR;obtain rfl:my=_:=Option.some.inj abq;obtain rfl:rE=_:=Option.some.inj abr;exact⟨⟨z0,z1,z2,z3,z4,z5,EI,Ap,Kt,z9⟩,rfl⟩
section
variable {W w:World}{L:List SP}{n cP cT:Nat}{adP adT:Option Addr}{p:Pr}{tb:List UInt8}{cf:Cf}
theorem oI {x lo hi:Int}(I:U W w L):Calls prog 67 #[.int .i64 x,.int .i64 lo,.int .i64 hi] w λe V=>∃ r:Bool,e=.returned (.bool r)∧(r=true↔dE x lo hi)∧U W V L:=by
 refine EN func67 ntmps67 rfl rfl λa E=>?_;refine BY 7 E I (λbF a E=>?_) λbF a E=>?_
 ·
  refine RT 5 E I ?_;exact⟨_,rfl,⟨λh=>⟨bF,of_decide_eq_true h⟩,λh=>dq h.2⟩,I⟩
 refine RT 5 E I ?_;exact⟨_,rfl,⟨λh=>(by cases h),λh=>by have:=h.1;omega⟩,I⟩
theorem abt (I:U W w L):Calls prog 47 #[.agg (br cf).toArray] w λe V=>∃ r:Bool,e=.returned (.bool r)∧(r=true↔eO cf)∧U W V L:=by
 refine EN func47 ntmps47 rfl rfl λa E=>?_;refine BX 1 E I λb1 a w E I=>?_;change U W w (aa b1 28 (br cf)::_) at I;refine aR 5 E I (oI I) λr1 a w E ⟨ep,I⟩=>?_;refine BY 2 E I (λda a E=>?_) λda a E=>?_
 ·
  refine RT 55 E I ?_;exact⟨_,rfl,⟨λh=>(by cases h),λh=>by have:=ep.2 h.1.1;rw[da]at this;cases this⟩,I.sub⟩
 have qA:=ep.1 da;refine RN 4 E I λa E=>?_;refine SK (bC E (cI E rfl (s:=7)) (wV E) rfl ?_);clear E a;intro a E;have lQ:IntKind.i64.wrap (cf.n-1)=cf.n-1:=gi (by have:=qA.1;omega) (by have:=qA.2;omega);rw[lQ]at E;refine aR 0 E I (oI I) λr2 a w E ⟨ee,I⟩=>?_;refine BY 3 E I (λkv a E=>?_) λkv a E=>?_
 ·
  refine RT 46 E I ?_;exact⟨_,rfl,⟨λh=>(by cases h),λh=>by have:=ee.2 h.1.2.1;rw[kv]at this;cases this⟩,I.sub⟩
 refine BY 5 E I (λoZ a E=>?_) λoZ a E=>?_
 ·
  refine RT 41 E I ?_;exact⟨_,rfl,⟨λh=>(by cases h),λh=>by have:=h.1.2.2.1;omega⟩,I.sub⟩
 refine BY 5 E I (λkn a E=>?_) λkn a E=>?_
 ·
  refine RT 36 E I ?_;exact⟨_,rfl,⟨λh=>(by cases h),λh=>by have:=h.1.2.2.2;omega⟩,I.sub⟩
 refine aR 2 E I (oI I) λr3 a w E ⟨gT,I⟩=>?_;refine BY 3 E I (λBv a E=>?_) λBv a E=>?_
 ·
  refine RT 30 E I ?_;exact⟨_,rfl,⟨λh=>(by cases h),λh=>by have:=gT.2 h.2.1.1;rw[Bv]at this;cases this⟩,I.sub⟩
 refine aR 2 E I (oI I) λJH a w E ⟨mW,I⟩=>?_;refine BY 3 E I (λvR a E=>?_) λvR a E=>?_
 ·
  refine RT 24 E I ?_;exact⟨_,rfl,⟨λh=>(by cases h),λh=>by have:=mW.2 h.2.1.2.1;rw[vR]at this;cases this⟩,I.sub⟩
 refine aR 2 E I (oI I) λXB a w E ⟨om,I⟩=>?_;refine BY 3 E I (λBw a E=>?_) λBw a E=>?_
 ·
  refine RT 18 E I ?_;exact⟨_,rfl,⟨λh=>(by cases h),λh=>by have:=om.2 h.2.1.2.2.1;rw[Bw]at this;cases this⟩,I.sub⟩
 refine aR 2 E I (oI I) λr6 a w E ⟨ri,I⟩=>?_;refine BY 3 E I (λBy a E=>?_) λBy a E=>?_
 ·
  refine RT 12 E I ?_;exact⟨_,rfl,⟨λh=>(by cases h),λh=>by have:=ri.2 h.2.1.2.2.2;rw[By]at this;cases this⟩,I.sub⟩
 refine BY 4 E I (λabu a E=>?_) λabu a E=>?_
 ·
  refine IF 5 E I (λaj a E=>?_) λaj a E=>?_
  ·
   refine RT 2 E I ?_;exact⟨_,rfl,⟨λh=>(by cases h),λh=>by have:=h.2.2.1;omega⟩,I.sub⟩
  refine RN 1 E I λa E=>?_;have uq:cf.order=0∨cf.aX=2:=by omega
  have hA:(dE cf.n 2 8∧dE cf.me 0 (cf.n-1)∧dE cf.id 0 1099511627776)∧(dE cf.aE 0 8∧dE cf.bm 1 16∧dE cf.aX 1 3∧dE cf.order 0 3):=⟨⟨qA,ee.1 kv,oZ,kn⟩,gT.1 Bv,mW.1 vR,om.1 Bw,ri.1 By⟩;refine aR 2 E I (oI I) λs1 a w E ⟨kF,I⟩=>?_;refine BY 1 E I (λbF a E=>?_) λbF a E=>?_
  ·
   refine aR 2 E I (oI I) λs2 a w E ⟨c6,I⟩=>?_;refine BY 2 E I (λeh a E=>?_) λeh a E=>?_
   ·
    refine aR 2 E I (oI I) λs3 a w E ⟨nu,I⟩=>?_;refine RT 2 E I ?_;exact⟨_,rfl,⟨λh=>⟨hA.1,hA.2,uq,kF.1 bF,c6.1 eh,nu.1 h⟩,λh=>nu.2 h.2.2.2.2.2⟩,I.sub⟩
   refine RT 5 E I ?_;exact⟨_,rfl,⟨λh=>(by cases h),λh=>by have:=c6.2 h.2.2.2.2.1;rw[eh]at this;cases this⟩,I.sub⟩
  refine RT 10 E I ?_;exact⟨_,rfl,⟨λh=>(by cases h),λh=>by have:=kF.2 h.2.2.2.1;rw[bF]at this;cases this⟩,I.sub⟩
 refine RN 7 E I λa E=>?_;have uq:cf.order=0∨cf.aX=2:=by omega
 have hA:(dE cf.n 2 8∧dE cf.me 0 (cf.n-1)∧dE cf.id 0 1099511627776)∧(dE cf.aE 0 8∧dE cf.bm 1 16∧dE cf.aX 1 3∧dE cf.order 0 3):=⟨⟨qA,ee.1 kv,oZ,kn⟩,gT.1 Bv,mW.1 vR,om.1 Bw,ri.1 By⟩;refine aR 2 E I (oI I) λs1 a w E ⟨kF,I⟩=>?_;refine BY 1 E I (λbF a E=>?_) λbF a E=>?_
 ·
  refine aR 2 E I (oI I) λs2 a w E ⟨c6,I⟩=>?_;refine BY 2 E I (λeh a E=>?_) λeh a E=>?_
  ·
   refine aR 2 E I (oI I) λs3 a w E ⟨nu,I⟩=>?_;refine RT 2 E I ?_;exact⟨_,rfl,⟨λh=>⟨hA.1,hA.2,uq,kF.1 bF,c6.1 eh,nu.1 h⟩,λh=>nu.2 h.2.2.2.2.2⟩,I.sub⟩
  refine RT 5 E I ?_;exact⟨_,rfl,⟨λh=>(by cases h),λh=>by have:=c6.2 h.2.2.2.2.1;rw[eh]at this;cases this⟩,I.sub⟩
 refine RT 10 E I ?_;exact⟨_,rfl,⟨λh=>(by cases h),λh=>by have:=kF.2 h.2.2.2.1;rw[bF]at this;cases this⟩,I.sub⟩
def j3 (cf:Cf)(p:Pr)(tb:List UInt8):Prop:=eO cf∧db p∧cY ⟨cf.aX,cf.order,tb⟩
theorem abv (I:U W w (ay W p adP cP::L))(aC:p.title.size≤1000000000)(cS:p.ops.length≤1000000000)(hn:tb.length=n) :
   Calls prog 31 #[.agg (br cf).toArray,.agg (bw p adP cP).toArray,.slice adT n cT] w λe V=>∃ r:Bool,e=.returned (.bool r)∧(r=true↔j3 cf p tb)∧U W V (ay W p adP cP::L):=by
 subst hn;refine EN func31 ntmps31 rfl rfl λa E=>?_;refine BX 1 E I λb3 a w E I=>?_;change U W w (aa b3 28 (br cf)::_) at I;refine BX 0 E I λb4 a w E I=>?_;change U W w (aa b4 45 (bw p adP cP)::_) at I;refine aR 3 E I (abt I) λr1 a w E ⟨ep,I⟩=>?_;refine BY 1 E I (λbA a E=>?_) λbA a E=>?_
 ·
  refine aR 1 E I (JJ (I.pick (ay W p adP cP)) aC cS) λr2 a w E ⟨ee,I⟩=>?_;refine BY 3 E I (λiB a E=>?_) λiB a E=>?_
  ·
   refine aR 6 E I (AQ (b:=⟨cf.aX,cf.order,tb⟩) I) λr3 a w E ⟨gT,I⟩=>?_;refine RT 2 E I ?_;exact⟨_,rfl,⟨λh=>⟨ep.1 bA,ee.1 iB,gT.1 h⟩,λh=>gT.2 h.2.2⟩,I.sub⟩
  refine RT 9 E I ?_;refine⟨_,rfl,⟨λh=>(by cases h),λh=>?_⟩,I.sub⟩;have:=ee.2 h.2.1;simp_all
 refine RT 14 E I ?_;refine⟨_,rfl,⟨λh=>(by cases h),λh=>?_⟩,I.sub⟩;have:=ep.2 h.1;simp_all
theorem Nl (I:U W w (ay W p adP cP::L))(hn:tb.length=n)(aC:p.title.size≤1000000000)(cS:p.ops.length≤1000000000)(de:tb.length≤1099511627776)(hT:∀ V,U W V (ay W p adP cP::L)→aQ V adT tb.length tb) :
   Calls prog 60 #[.agg (br cf).toArray,.agg (bw p adP cP).toArray,.slice adT n cT] w λr V=>(j3 cf p tb∧∃ B:iT,r=.returned (.tuple #[pt B.pb,.int .i64 0])∧B.gs=⟨cf.aX,cf.order,tb⟩∧U W V (aO W B p (eD p cf)::ay W p adP cP::L)) ∨
    (¬ j3 cf p tb∧r=.returned (.tuple #[.pointer none,.int .i64 1])∧U W V (ay W p adP cP::L)):=by
 subst hn;by_cases h1:eO cf
 ·obtain⟨n,me,aE,bm,cw⟩:=FD h1;generalize hg:cf.aX=aX at cw;generalize ho:cf.order=order at cw;by_cases h2:db p∧cY ⟨aX,order,tb⟩
  ·have eb:j3 cf p tb:=⟨h1,h2.1,by rw[hg,ho];exact h2.2⟩;rw[cw]at h1 eb ⊢;exact (L3 (adT:=adT) (cT:=cT) I h1 h2.1 h2.2 aC cS de hT).mono λr V ⟨B,h3,h4,h5⟩=>.inl ⟨eb,B,h3,h4,h5⟩
  ·have eb:¬ j3 cf p tb:=λh=>h2 ⟨h.2.1,by have:=h.2.2;rw[hg,ho]at this;exact this⟩;rw[cw]at h1 eb ⊢;exact (L2 (adT:=adT) (cT:=cT) I h1 h2 aC cS de hT).mono λr V ⟨h3,h4⟩=>.inr ⟨eb,h3,h4⟩
 ·exact (L1 (adT:=adT) (cT:=cT) I h1 de hT).mono λr V ⟨h3,h4⟩=>.inr ⟨λh=>h1 h.1,h3,h4⟩
end
end
section
def fj (W:World)(M:jm)(p:Pr)(cf:Cf)(i:Nat)(s:Pl):SP:=λh=>∃ m:Mu,(m.s=s∧MI p M (20*i+1) m∧fg s.k=cf)∧aH W M p m h
section
variable {W w:World}{L:List SP}{n c i N cP cT:Nat}{adP adT:Option Addr}{M:jm}{x:UInt8}{p:Pr}{s:Pl}{m:Mu}{bs tb:List UInt8}{cf:Cf}{y:Int}
theorem fj.open (I:U W w (fj W M p cf i s::L)):∃ m:Mu,(m.s=s∧MI p M (20*i+1) m∧fg s.k=cf)∧U W w (aH W M p m::L):=I.jt λ_ h=>h
theorem fj.close (I:U W w (aH W M p m::L))(h:MI p M N m)(hN:N≤20*i+1)(hm:m.s=s)(hc:fg s.k=cf):U W w (fj W M p cf i s::L) :=
 U.shut (M:=yv W M p m) (aH.open I) λ_ q=>⟨m,⟨hm,h.more hN,hc⟩,q⟩
theorem abw (a7:db p)(aC:p.title.size≤1000000000):Bm W 78 ⟨M.mb,0,none⟩ 267 269 270 268 266 264 265 101 p M.B.gs (fj W M p cf) where
 Ga:=λad w=>by kernel_rfl
 cP:=(by kernel_rfl)
 Gb:=λad w=>by kernel_rfl
 Gc:=(by kernel_rfl)
 Ge:=λad w=>by kernel_rfl
 cT:=(by kernel_rfl)
 Gf:=λad w=>by kernel_rfl
 Gg:=(by kernel_rfl)
 Gh:=λad w=>by kernel_rfl
 cE:=(by kernel_rfl)
 Bn:=λad w=>by kernel_rfl
 Bo:=(by kernel_rfl)
 Gi:=λad w=>by kernel_rfl
 Gj:=(by kernel_rfl)
 Gk:=λad w=>by kernel_rfl
 Gl:=(by kernel_rfl)
 ak:=λw L i s x hi hw I=>by
  replace I:=fj.open I;obtain⟨m,⟨rfl,hI,hc⟩,I⟩:=I;exact (aab (x:=x) I hI a7 aC (by omega)).mono λr V ⟨m',h1,⟨h2,h3,_⟩,I⟩=>⟨h1,fj.close I h3 (by omega) h2 ((lA.ak hI.wf x).cf.trans hc)⟩
 recv:=λw L i s bs a c hi hw hb hc hp I=>by
  replace I:=fj.open I;obtain⟨m,⟨rfl,hI,cw⟩,I⟩:=I;exact (aac I hI a7 aC (by omega) hb hc hp).mono λr V ⟨m',h1,⟨h2,h3⟩,I⟩=>⟨h1,fj.close I h3 (by omega) h2 ((lA.recv hI.wf bs).cf.trans cw)⟩
 tick:=λw L i s hi hw hn I=>by
  replace I:=fj.open I;obtain⟨m,⟨rfl,hI,hc⟩,I⟩:=I;exact (aad I hI hn).mono λr V ⟨a,c,h1,h2,I⟩=>⟨a,c,h1,(fj.close (I.perm (List.Perm.swap _ _ _)) h2 (by omega) rfl ((FT _).trans hc)).perm (List.Perm.swap _ _ _)⟩
 lu:=λw L i s hi hw I=>by
  replace I:=fj.open I;obtain⟨m,⟨rfl,hI,hc⟩,I⟩:=I;exact (aae I hI).mono λr V ⟨a,c,h1,h2,I⟩=>⟨a,c,h1,(fj.close (I.perm (List.Perm.swap _ _ _)) h2 (by omega) rfl ((FU _).trans hc)).perm (List.Perm.swap _ _ _)⟩
 events:=λw L i s hi hw I=>by
  replace I:=fj.open I;obtain⟨m,⟨rfl,hI,hc⟩,I⟩:=I;exact (aaf I hI).mono λr V ⟨a,c,h1,h2,I⟩=>⟨a,c,h1,(fj.close (I.perm (List.Perm.swap _ _ _)) h2 (by omega) rfl hc).perm (List.Perm.swap _ _ _)⟩
 Bp:=λw L i s hi hw I=>by
  replace I:=fj.open I;obtain⟨m,⟨rfl,hI,hc⟩,I⟩:=I;exact (aag I hI).mono λr V ⟨a,c,h1,I⟩=>⟨a,c,h1,(fj.close (I.perm (List.Perm.swap _ _ _)) hI (bk _) rfl hc).perm (List.Perm.swap _ _ _)⟩
 Gm:=λw L i s hi hw I=>by
  replace I:=fj.open I;obtain⟨m,⟨rfl,hI,hc⟩,I⟩:=I;exact (abh I hI a7 aC).mono λr V ⟨a,c,h1,I⟩=>⟨a,c,h1,(fj.close (I.perm (List.Perm.swap _ _ _)) hI (bk _) rfl hc).perm (List.Perm.swap _ _ _)⟩
 closed:=λw L i s hi hw I=>by
  replace I:=fj.open I;obtain⟨m,⟨rfl,hI,hc⟩,I⟩:=I;exact (yw I).mono λr V ⟨h1,I⟩=>⟨h1,fj.close I hI (bk _) rfl hc⟩
theorem abx (I:U W w (fj W M p cf i s::L))(a7:db p)(aC:p.title.size≤1000000000)(hi:i≤1000000) :
   Calls prog 62 #[pt M.mb,.int .i64 y] w λe V=>∃ z:Bool,e=.returned (.bool z)∧(z=true→s.k.cl=false∧0≤y∧y<s.k.workers)∧U W V (fj W M p cf (i+1) s::L):=by
 replace I:=fj.open I;obtain⟨m,⟨rfl,hI,hc⟩,I⟩:=I;have h4:=hI.ks;by_cases hn:m.s.k.cl=true∨y<0∨(m.ks.length:Int)≤y
 ·exact (aah I hn h4).mono λe V ⟨h1,I⟩=>⟨false,h1,λh=>(by cases h),fj.close I hI (by omega) rfl hc⟩
 ·have b9 : m.s.k.cl = false := by
   cases h:m.s.k.cl with
   | false=>rfl
   | true=>exact absurd (.inl h) hn
  have hy:0≤y∧y<(m.ks.length:Int):=⟨by
   rcases Int.lt_or_le y 0 with h | h
   ·exact absurd (.inr (.inl h)) hn
   ·exact h,by
   rcases Int.lt_or_le y (m.ks.length:Int) with h | h
   ·exact h
   ·exact absurd (.inr (.inr h)) hn⟩
  obtain⟨j,rfl⟩:=Int.eq_ofNat_of_zero_le hy.1;obtain⟨⟨k,wb⟩,hk⟩:∃ z,m.ks[j]?=some z:=⟨_,aF (by omega)⟩;exact (aai I hI b9 hk a7 aC (by omega)).mono λe V ⟨z,A',T',J',k',h1,⟨_,h2⟩,I⟩=>⟨z,h1,λ_=>⟨b9,hy.1,by rw[hI.workers];exact hy.2⟩,fj.close I h2 (by omega) rfl hc⟩
theorem aby (h:eO cf):∃ n me aE bm nb nw rm:Nat,cf=⟨n,me,cf.id,aE,bm,cf.aX,cf.order,nb,nw,rm⟩:=by
 obtain⟨n,me,id,aE,bm,aX,order,cm,workers,room⟩:=cf;simp only[eO,dE]at h;obtain⟨⟨h1,h2,h3⟩,⟨h4,h5,h6,h7⟩,h8,h9,fF,mQ⟩:=h;exact⟨n.toNat,me.toNat,aE.toNat,bm.toNat,cm.toNat,workers.toNat,room.toNat,by
  simp only[Cf.mk.injEq];refine⟨?_,?_,?_,?_,?_,?_,?_,?_,?_,?_⟩ <;> first | trivial | omega⟩
theorem abz (h:eO cf):fg (eD p cf).k=cf:=by
 obtain⟨ps,ev,mr,hk⟩:∃ ps ev mr,(eD p cf).k={ fh cf with ps:=ps,ev:=ev,mr:=mr }:=(wa (p:=p) (c:=cf) h).eC.2.2;rw[hk];exact (WC.new h).2.2
theorem abA (eb:j3 cf p tb)(I:U W w (ay W p adP cP::L))(hn:tb.length=n)(aC:p.title.size≤1000000000)(cS:p.ops.length≤1000000000)(de:tb.length≤1099511627776)(hT:∀ V,U W V (ay W p adP cP::L)→aQ V adT tb.length tb) :
   Calls prog 59 #[.agg (br cf).toArray,.agg (bw p adP cP).toArray,.slice adT n cT] w λr V=>∃ M:jm,r=.returned (.tuple #[pt M.mb,.int .i64 0])∧M.B.gs=⟨cf.aX,cf.order,tb⟩∧U W V (fj W M p cf 0 (eD p cf)::ay W p adP cP::L):=by
 subst hn;obtain⟨h1,h2,h3⟩:=eb;have Nm:=abz (p:=p) h1;obtain⟨n,me,aE,bm,nb,nw,rm,cw⟩:=aby h1;generalize cf.aX=aX at cw h3 ⊢;generalize cf.order=order at cw h3 ⊢;generalize cf.id=id at cw;rw[cw]at h1 Nm ⊢;exact (abn (adT:=adT) (cT:=cT) I h1 h2 h3 aC cS de hT).mono λr V ⟨M,m,h4,⟨h5,h6,h7,_⟩,I⟩=>⟨M,h4,h5,fj.close I h7 (by omega) h6 Nm⟩
theorem abB (hm:eO cf)(I:U W w (ay W p adP cP::L))(hn:tb.length=n)(a7:db p)(aC:p.title.size≤1000000000) :
   Calls prog 46 #[.agg (br cf).toArray,.agg (bw p adP cP).toArray,.slice adT n cT] w λr V=>∃ B:fU,r=.returned (pt B.pb)∧(B.gs=⟨cf.aX,cf.order,tb⟩∧B.adT=adT)∧U W V (bZ W B p (eD p cf)::L):=by
 subst hn;obtain⟨n,me,aE,bm,cw⟩:=FD hm;generalize cf.aX=aX at cw ⊢;generalize cf.order=order at cw ⊢;rw[cw]at hm ⊢;exact aaQ I hm a7 aC
theorem abC (eb:¬ j3 cf p tb)(I:U W w (ay W p adP cP::L))(hn:tb.length=n)(aC:p.title.size≤1000000000)(cS:p.ops.length≤1000000000)(de:tb.length≤1099511627776)(hT:∀ V,U W V (ay W p adP cP::L)→aQ V adT tb.length tb) :
   Calls prog 59 #[.agg (br cf).toArray,.agg (bw p adP cP).toArray,.slice adT n cT] w λr V=>r=.returned (.tuple #[.pointer none,.int .i64 1])∧U W V (ay W p adP cP::L):=by
 subst hn;by_cases h1:eO cf
 ·obtain⟨n,me,aE,bm,cw⟩:=FD h1;generalize hg:cf.aX=aX at cw;generalize ho:cf.order=order at cw;have h2:¬ (db p∧cY ⟨aX,order,tb⟩):=λh=>eb ⟨h1,h.1,by rw[hg,ho];exact h.2⟩;rw[cw]at h1 ⊢;exact abm (adT:=adT) (cT:=cT) I h1 h2 aC cS de hT
 ·exact abl (adT:=adT) (cT:=cT) I h1 de hT
end
end
section
theorem Sn.abD (A:Sn):A.used≤A.room:=by
 have:=List.countP_le_length (p:=λp=>decide (0<cR A.au p)) (l:=List.range A.room);rw[length_range]at this;exact this
theorem Nn {p:Nat}:∀ (l:List aD),(∀ x∈l,∀ k,k<4→x.p k≠p)→cR l p=0
 | [],_=>rfl
 | x::l,h=>by
  rw[sf,CQ (h x (mem_cons_self ..)),Nn l λy hy=>h y (gM _ hy)]
theorem No {A:Sn}{p:Nat}(h:∀ x∈A.au,∀ k,k<4→x.p k<A.room)(hp:A.room≤p):cR A.au p=0 :=
 Nn _ λx hx k hk e=>by have:=h x hx k hk;omega
def uP (l:List aD)(m:Nat):Nat:=(List.range m).countP λp=>decide (0<cR l p)
theorem Np (l:List aD)(m:Nat):uP l (m+1)=uP l m+if 0<cR l m then 1 else 0:=by
 rw[uP,range_succ,List.countP_append,List.countP_singleton,uP];by_cases h:0<cR l m <;> simp[h]
theorem abE (l:List aD)(m:Nat):uP l m≤m:=by
 have:=List.countP_le_length (p:=λp=>decide (0<cR l p)) (l:=List.range m);rw[length_range]at this;exact this
theorem abF {A:Sn}(h:∀ x∈A.au,∀ k,k<4→x.p k<A.room){m:Nat}(hm:A.room≤m):uP A.au m=A.used:=by
 induction m with
 | zero=>rw[Sn.used,show A.room=0 from by omega];rfl
 | succ m ih =>
  rcases Nat.lt_or_ge m A.room with h1 | h1
  ·rw[Sn.used,show A.room=m+1 from by omega];rfl
  ·rw[Np,ih h1,No h h1];rfl
def pI (l:List aD)(j:Nat):Int:=if j=0 then 0 else (cR l (j-1):Nat)
def nI (l:List aD)(x:aD)(k j:Nat):Int:=if j=0 then 0 else ((cR l (j-1)+iN x (j-1) k:Nat):Int)
theorem abG:pI []=λ_=>0:=by
 funext j;unfold pI;split <;> rfl
theorem abH (l:List aD)(x:aD):nI l x 0=pI l:=by
 funext j;unfold nI pI;simp[zp]
theorem abI {l:List aD}{i:Nat}{x:aD}(h:l[i]?=some x):nI (l.take i) x 4=pI (l.take (i+1)):=by
 obtain⟨hi,rfl⟩:=a8.1 h
 funext j
 unfold nI pI;rw[iZ hi,xf,sf,CR];rfl
theorem abJ (l:List aD)(x:aD)(k:Nat):(λj=>if j=x.p k+1 then nI l x k (x.p k+1)+1 else nI l x k j)=nI l x (k+1):=by
 funext j
 by_cases h:j=x.p k+1
 ·subst h;rw[al rfl];simp only[nI,ag (Nat.succ_ne_zero _),Nat.add_sub_cancel];rw[kL,al rfl];omega
 ·rw[ag h];unfold nI;split
  ·rfl
  ·rw[kL,ag (by omega)];simp
theorem abK (l:List aD)(x:aD)(k j:Nat)(hk:k≤4):0≤nI l x k j∧nI l x k j≤4*l.length+4:=by
 unfold nI;have h1:=CT l (j-1);have h2:=sd x (j-1) hk;have h3:=Io x (j-1);have h4:iN x (j-1) 4=g7 x (j-1):=rfl;split <;> omega
theorem abL (l:List aD)(p:Nat):pI l (p+1)=(cR l p:Nat):=by simp[pI]
section
variable {W w:World}{L:List SP}{q b i r:Nat}{ps:List Pg}{A:Sn}
theorem abM (I:U W w (Room q b ps::L))(hn:∀ h:i<ps.length,ps[i].refs=0)(hi:i<1000) :
   Calls prog 122 #[pt q,.int .i64 ((i:Int)+1)] w λe V=>e=.returned (.pointer none)∧U W V (Room q b ps::L):=by
 obtain⟨hp,I⟩:=Room.open I;by_cases aG:i<ps.length
 ·have hr:=hn aG;refine EN func122 ntmps122 rfl rfl λa E=>?_;refine RN 7 E I λa E=>?_;replace E:=E.aK 7;refine RN 4 E I λa E=>?_;rw[bq (by omega)]at E;refine RN 9 E I λa E=>?_;rw[bq (by omega)]at E;refine RN 6 E I λa E=>?_;rw[show (i:Int)+1-1=(i:Int) from by omega]at E;refine RN 2 E I λa E=>?_;refine bC E (cI E rfl (s:=20)) (ae E (I.bz (r8 aG))) rfl λa E=>?_;refine RN 2 E I λa E=>?_;rw[dq (by omega)]at E;refine RT 3 E I ?_;exact⟨rfl,(Room.close (n:=_) I rfl hp)⟩
 ·
   refine EN func122 ntmps122 rfl rfl λa E=>?_;refine RN 7 E I λa E=>?_;replace E:=E.aK 7;refine RN 4 E I λa E=>?_;rw[bq (by omega)]at E;refine RN 9 E I λa E=>?_;rw[dq (by omega)]at E;refine RT 14 E I ?_;exact⟨rfl,(Room.close (n:=_) I rfl hp)⟩
theorem abN (I:U W w (Room q b ps::L))(hn:∀ h:i<ps.length,ps[i].refs=0)(hi:i<1000) :
   Calls prog 86 #[pt q,.int .i64 ((i:Int)+1)] w λe V=>e=.returned (.int .i64 0)∧U W V (Room q b ps::L):=by
 refine EN func86 ntmps86 rfl rfl λa E=>?_;refine CL 5 E I (abM I hn hi) λa w E I=>?_;refine RN 5 E I λa E=>?_;replace E:=E.dX 10;refine RT 3 E I ?_;exact⟨rfl,I⟩
theorem abO (I:U W w (ax q r A::L))(hi:i<1000) :
   Calls prog 86 #[pt r,.int .i64 ((i:Int)+1)] w λe V=>e=.returned (.int .i64 (cR A.au i))∧U W V (ax q r A::L):=by
 have hf:=(ax.facts I).2;obtain⟨b,m,ps,xs,h1,hw,hr,I⟩:=ax.open I;by_cases hl:∃ h:i<ps.length,0<ps[i].refs
 ·obtain⟨h3,h4⟩:=hl;refine (zh (I.pick (Room r b ps)) h3 h4).mono λe V ⟨h2,I⟩=>?_;rw[hr.refs _ _ (aF h3)]at h2;exact⟨h2,ax.close (b:=b) (m:=m) (ps:=ps) I h1 hw hr⟩
 ·have hn : ∀ h : i < ps.length, ps[i].refs = 0 := fun h => by
   rcases Nat.eq_zero_or_pos ps[i].refs with h2 | h2
   ·exact h2
   ·exact absurd ⟨h,h2⟩ hl
  have h0:cR A.au i=0:=by
   by_cases h:i<ps.length
   ·rw[← hr.refs _ _ (aF h)];exact hn h
   ·exact No hf (by rw[← hr.len];omega)
  refine (abN (I.pick (Room r b ps)) hn hi).mono λe V ⟨h2,I⟩=>?_;rw[h0];exact⟨h2,ax.close (b:=b) (m:=m) (ps:=ps) I h1 hw hr⟩
end
end
section
theorem abP (k:IntKind)(m:Nat)(x:Int):List.replicate m (Value.int k x)=ints k m (λ_=>x):=by
 rw[ints,fn];exact (ext_getElem (by simp) (by simp))
section
variable {W w:World}{L:List SP}{N:Nat}{M:jm}{p:Pr}{m:Mu}{cf:Cf}{x:Int}
set_option maxHeartbeats 4000000 in
theorem abQ (I:U W w (aH W M p m::L))(h:MI p M N m)(cw:fg m.s.k=cf) :
   Calls prog 56 #[pt M.mb,.agg (br cf).toArray] w λe V=>e=.returned (.bool true)∧U W V (aH W M p m::L):=by
 have Fm:cf.cm=(m.T.most:Int):=by rw[← cw];exact h.most
 have sR:cf.workers=(m.ks.length:Int):=by rw[← cw];exact h.workers
 have qX:(m.A.room:Int)=4*cf.room:=by rw[← cw];exact h.room.1
 have og:=h.ks;obtain⟨t,hI⟩:=h.inv;have hlen:=hI.len;have ML:(jf (m.ks.map (·.1))).length≤m.ks.length:=by
  have h1:=length_filter_le (λk:Wk=>k.busy) (m.ks.map (·.1));rw[bg]at h1;rw[jf,bg];exact h1
 clear cw;replace I:=aH.open I;have kV:=(Tree.wt (I.tree M.tq)).most;have Bz:=ax.facts (I.store M.sq);have qL:=ax.vi (I.store M.sq);have hur:=Sn.abD m.A;have ly:=Bz.1.room;obtain⟨s,A,T,J,ks,base,front⟩:=m;dsimp only at Fm sR qX og hlen ML kV Bz qL hur ly I;have hO:=abF Bz.2 (m:=200) ly;refine EN func56 ntmps56 rfl rfl λa E=>?_;refine BX 1 E I λb3 a w E I=>?_;change U W w (aa b3 28 (br cf)::_) at I;refine RN 3 E I λa E=>?_;replace I:=aH.fold I M p ⟨s,A,T,J,ks,base,front⟩;refine CL 0 E I (Zy I) λa w E I=>?_;refine RN 3 E I λa E=>?_;replace I:=aH.open I;dsimp only at I;refine a6 0 E I (Uf (I.store M.sq)) λec yI a w E I=>?_;refine aY 3 (λw0 V=>Rd V b3 0 (br cf)) [5,25,26] [0,1,2,4,3003,1005,6,7,8,9,10,11,12,13,14,17,18,19,1015,1016,20,21,22,23,24,27,3028,29,1025,1026,30,31] E I λa w E I hH=>?_;have hC:=hH.at w (I.ai (b:=b3));refine RH 4 E I hH hC λa E=>?_;refine QH E (λw hc=>ae E (hc 7 _ rfl)) hC λa E=>?_;refine RH 0 E I hH hC λa E=>?_;refine SS E (ae E (hC 8 _ rfl)) λa E=>?_;refine RH 4 E I hH hC λa E=>?_;rw[bq (by omega)]at E;refine RH 4 E I hH hC λa E=>?_;rw[dq (by omega)]at E;refine RH 4 E I hH hC λa E=>?_;refine CL 0 E I (zy (I.store M.sq)) λa w E I=>?_;refine CL 0 E I (CZ (I.store M.sq)) λa w E I=>?_;refine RN 4 E I λa E=>?_;rw[bq (by omega)]at E;refine RN 2 E I λa E=>?_;replace hC:Rd w b3 0 (br cf):=I.ai (b:=b3);refine QH E (λw hc=>ae E (hc 9 _ rfl)) hC λa E=>?_;refine CL 1 E I (zy (I.store M.sq)) λa w E I=>?_;replace hC:=hH.at w (I.ai (b:=b3));refine RH 0 E I hH hC λa E=>?_;refine CL 0 E I (CZ (I.store M.sq)) λa w E I=>?_;replace hC:=hH.at w (I.ai (b:=b3));refine RH 2 E I hH hC λa E=>?_;rw[bq (by omega)]at E;refine AL 2 E I λdv a w E I=>?_;rw[abP]at I;refine RN 3 E I λa E=>?_;refine aP (λμ a w=>∃ (i:Nat),(μ=A.au.length-i∧i≤A.au.length)∧Fr a 120 [(0,pt M.mb),(3,pt b3),(5,pt M.sq),(6,.slice ec A.au.length yI),(7,pt dv),(8,.int .i64 i)]∧U W w (aa dv 164 (ints .i64 201 (pI (A.au.take i)))::Sl 166 1 ec A.au.length yI (A.au.map λx=>.int .i64 x.id)::ax M.sq M.r A::aa b3 28 (br cf)::aa M.mb 177 (dU p M ks.length base front)::aO W M.B p s::ay W p M.aq M.cO::Sl 179 1 M.dy ks.length M.dF (gK ks)::ah (e5 p M.aq M.cO M.tq M.jq M.sq) ks::Tree M.tq M.sq T::bK M.jq J::L)) (A.au.length) (⟨0,⟨rfl,by omega⟩,E.ab [0,3,5,6,7,8],by rw[take_zero,abG];exact I.sub⟩) ?_;clear E I;rintro μ a w ⟨i,⟨rfl,hi⟩,E,I⟩;refine IF 6 E I (λao a E=>?_) λao a E=>?_
 ·
  obtain⟨x,hx⟩:∃ x,A.au[i]?=some x:=⟨_,aF (by omega)⟩;obtain⟨bv,Nq,rfl,Bb⟩:=(I.pick (Sl 166 1 ec A.au.length yI (A.au.map λx=>.int .i64 x.id))).bW ec (by omega);have yA:=Bb i (.int .i64 x.id) (by rw[bn,hx];rfl);have zC:=Bz.2 x (bJ hx);have bQ:=abI hx;have de:(A.au.take i).length≤200:=by rw[ez];omega
  clear Bb;refine RN 6 E I λa E=>?_;refine SS E (ae E (yA)) λa E=>?_;refine a6 0 E I (IB (I.store M.sq) hx) λc1 dR a w E I=>?_;refine RN 6 E I λa E=>?_;replace E:=E.aK 63;refine RN 3 E I λa E=>?_;refine aP (λμ a w=>∃ (k:Nat),(μ=4-k∧k≤4)∧Fr a 120 [(0,pt M.mb),(3,pt b3),(5,pt M.sq),(6,.slice (some ⟨bv,Nq,none⟩) A.au.length yI),(7,pt dv),(8,.int .i64 i),(9,.slice c1 4 dR),(10,.int .i64 k)]∧U W w (aa dv 164 (ints .i64 201 (nI (A.au.take i) x k))::Sl 3 1 c1 4 dR (ints .i64 4 (λk=>(x.p k:Int)+1))::Sl 166 1 (some ⟨bv,Nq,none⟩) A.au.length yI (A.au.map λx=>.int .i64 x.id)::ax M.sq M.r A::aa b3 28 (br cf)::aa M.mb 177 (dU p M ks.length base front)::aO W M.B p s::ay W p M.aq M.cO::Sl 179 1 M.dy ks.length M.dF (gK ks)::ah (e5 p M.aq M.cO M.tq M.jq M.sq) ks::Tree M.tq M.sq T::bK M.jq J::L)) (4) (⟨0,⟨rfl,by omega⟩,E.ab [0,3,5,6,7,8,9,10],by rw[abH];exact I.sub⟩) ?_;clear E I;rintro μ a w ⟨k,⟨rfl,hk⟩,E,I⟩;refine IF 4 E I (λbh a E=>?_) λbh a E=>?_
  ·
   obtain⟨bp,op,rfl,fe⟩:=(I.pick (Sl 3 1 c1 4 dR (ints .i64 4 (λk=>(x.p k:Int)+1)))).bW c1 (by omega);have uv:=fe k _ (fO _ (by omega));have eF:=zC k (by omega);have LG:=abK (A.au.take i) x k (x.p k+1) (by omega);clear fe;refine RN 6 E I λa E=>?_;refine SS E (ae E (uv)) λa E=>?_;refine RN 2 E I λa E=>?_;rw[bq (by omega)]at E;refine RN 3 E I λa E=>?_;refine bC E (cI E rfl (s:=73)) (ae E (uv)) rfl λa E=>?_;refine RN 2 E I λa E=>?_;rw[bq (by omega)]at E;refine RN 4 E I λa E=>?_;refine SS E (ae E (uv)) λa E=>?_;rw[show ((x.p k:Nat):Int)+1=((x.p k+1:Nat):Int) from rfl]at E;refine RN 1 E I λa E=>?_;refine SS E (ae E (I.bz (fO _ (by omega)))) λa E=>?_;refine ST 2 E I (λa w E I=>?_) (hlt:=(by rw[dm];omega));rw[ints_set,abJ]at I;refine RN 3 E I λa E=>?_;exact⟨4-(k+1),by omega,k+1,⟨rfl,by omega⟩,E.ab [0,3,5,6,7,8,9,10],I.sub⟩
  refine RN 3 E I λa E=>?_;obtain rfl:k=4:=by omega
  rw[bQ]at I;exact⟨A.au.length-(i+1),by omega,i+1,⟨rfl,by omega⟩,E.ab [0,3,5,6,7,8],I.sub⟩
 obtain rfl:i=A.au.length:=by omega
 rw[take_length]at I;refine RN 5 E I λa E=>?_;refine aP (λμ a w=>∃ (q:Nat),(μ=200-q∧q≤200)∧Fr a 120 [(0,pt M.mb),(3,pt b3),(5,pt M.sq),(7,pt dv),(11,.int .i64 (uP A.au q:Nat)),(12,.int .i64 ((q:Int)+1))]∧U W w (ax M.sq M.r A::aa dv 164 (ints .i64 201 (pI A.au))::aa b3 28 (br cf)::aa M.mb 177 (dU p M ks.length base front)::aO W M.B p s::ay W p M.aq M.cO::Sl 179 1 M.dy ks.length M.dF (gK ks)::ah (e5 p M.aq M.cO M.tq M.jq M.sq) ks::Tree M.tq M.sq T::bK M.jq J::L)) (200) (⟨0,⟨rfl,by omega⟩,by have h9:=E.ab [0,3,5,7,11,12];exact h9,I.sub⟩) ?_;clear E I;rintro μ a w ⟨q,⟨rfl,hq⟩,E,I⟩;refine IF 4 E I (λeT a E=>?_) λeT a E=>?_
 ·
  have Nr:=abL A.au q;have gz:=Np A.au q;have eF:=abE A.au q;have b9:=CT A.au q;have lK:q<200:=by omega
  refine aY 3 (λw0 V=>V.cell? ⟨dv,q+1,none⟩=some (.int .i64 (pI A.au (q+1)))) [1,3] [0,2,4,5,3006,1001,1003,7] E I λa w E I hH=>?_;have hC:=hH.at w (I.bz (b:=dv) (fO _ (by omega)));refine RH 3 E I hH hC λa E=>?_;rw[show ((q:Nat):Int)+1=((q+1:Nat):Int) from rfl]at E;refine RH 1 E I hH hC λa E=>?_;refine QH E (λw hc=>ae E (hc)) hC λa E=>?_;refine RH 0 E I hH hC λa E=>?_;refine CL 0 E I (zy I) λa w E I=>?_;replace hC:=hH.at w (I.bz (b:=dv) (fO _ (by omega)));refine RH 0 E I hH hC λa E=>?_;refine CL 0 E I (abO I (by omega)) λa w E I=>?_;replace hC:=hH.at w (I.bz (b:=dv) (fO _ (by omega)));refine RH 1 E I hH hC λa E=>?_;rw[Nr,show decide ((cR A.au q:Nat)≠((cR A.au q:Nat):Int))=false from by simp]at E;replace E:=E.aK 99;refine RN 4 E I λa E=>?_;refine SS E (ae E (I.bz (b:=dv) (fO _ (by omega)))) λa E=>?_;rw[Nr]at E;refine IF 1 E I (λml a E=>?_) λml a E=>?_
  ·
   refine RN 6 E I λa E=>?_;exact⟨200-(q+1),by omega,q+1,⟨rfl,by omega⟩,by rw[gz,al (by omega)];exact E.ab [0,3,5,7,11,12],I.sub⟩
  refine RN 3 E I λa E=>?_;exact⟨200-(q+1),by omega,q+1,⟨rfl,by omega⟩,by rw[gz,ag (by omega)];exact E.ab [0,3,5,7,11,12],I.sub⟩
 obtain rfl:q=200:=by omega
 rw[hO]at E;refine aY 1 (λw0 V=>Rd V b3 0 (br cf)) [7,8,9] [0,1,1002,1003,4,5,6,10,3011,1007,1008,1009,12,13,14] E I λa w E I hH=>?_;have hC:=hH.at w (I.ai (b:=b3));refine RH 2 E I hH hC λa E=>?_;refine CL 0 E I (zy I) λa w E I=>?_;refine CL 0 E I (CZ I) λa w E I=>?_;refine RN 2 E I λa E=>?_;rw[dq (by omega)]at E;refine RN 2 E I λa E=>?_;replace hC:Rd w b3 0 (br cf):=I.ai (b:=b3);refine QH E (λw hc=>ae E (hc 7 _ rfl)) hC λa E=>?_;replace I:=aH.fold I M p ⟨s,A,T,J,ks,base,front⟩;refine CL 0 E I (Zz I) λa w E I=>?_;replace hC:=hH.at w (I.ai (b:=b3));replace I:=aH.open I;dsimp only at I;refine RH 0 E I hH hC λa E=>?_;refine a6 0 E I (zB (I.tree M.tq)) λs6 qs a w E I=>?_;replace hC:=hH.at w (I.ai (b:=b3));refine RH 4 E I hH hC λa E=>?_;refine RT 0 E I ?_;exact⟨by rw[dq (by omega)],(aH.fold I.tail M p ⟨s,A,T,J,ks,base,front⟩).sub⟩
end
end
section
section
variable {W w:World}{L:List SP}{c i cP cT:Nat}{p:Pr}{s:Pl}{B:iT}
theorem abR (a7:db p)(aC:p.title.size≤1000000000)(fA:cY B.gs):Bm W 139 ⟨B.pb,0,none⟩ 282 284 285 283 281 273 276 141 p B.gs (λ_ s=>aO W B p s) where
 Ga:=λad w=>by kernel_rfl
 cP:=(by kernel_rfl)
 Gb:=λad w=>by kernel_rfl
 Gc:=(by kernel_rfl)
 Ge:=λad w=>by kernel_rfl
 cT:=(by kernel_rfl)
 Gf:=λad w=>by kernel_rfl
 Gg:=(by kernel_rfl)
 Gh:=λad w=>by kernel_rfl
 cE:=(by kernel_rfl)
 Bn:=λad w=>by kernel_rfl
 Bo:=(by kernel_rfl)
 Gi:=λad w=>by kernel_rfl
 Gj:=(by kernel_rfl)
 Gk:=λad w=>by kernel_rfl
 Gl:=(by kernel_rfl)
 ak:=λw L i s x _ hw I=>LR I hw a7 aC
 recv:=λw L i s bs a c _ hw hb hc hp I=>LS I hw a7 aC hb hc hp
 tick:=λw L i s _ hw hn I=>LU I hw hn
 lu:=λw L i s _ hw I=>LV I hw
 events:=λw L i s _ hw I=>LW I
 Bp:=λw L i s _ hw I=>LY I hw
 Gm:=λw L i s _ hw I=>LZ I hw a7 aC fA
 closed:=λw L i s _ hw I=>LX I
end
end
section
inductive fK where
 | mu (M:jm)
 | pl (B:iT)
structure fB where
 cf:Cf
 z:fK
def fK.t:fK→TypeId
 | .mu _=>78
 | .pl _=>139
def fK.ad:fK→Addr
 | .mu M=>⟨M.mb,0,none⟩
 | .pl B=>⟨B.pb,0,none⟩
def fK.gs:fK→Gs
 | .mu M=>M.B.gs
 | .pl B=>B.gs
def fK.f (a b:FuncId):fK→FuncId
 | .mu _=>a
 | .pl _=>b
def fB.J (W:World)(p:Pr)(x:fB)(i:Nat)(s:Pl):SP:=match x.z with
 | .mu M=>fj W M p x.cf i s
 | .pl B=>aO W B p s
def uD (z:fK):=z.f 267 282
def uE (z:fK):=z.f 269 284
def uF (z:fK):=z.f 270 285
def uG (z:fK):=z.f 268 283
def uH (z:fK):=z.f 266 281
def uI (z:fK):=z.f 264 273
def uJ (z:fK):=z.f 265 276
def uK (z:fK):=z.f 101 141
abbrev cC (x:fB×Pl):Value:=.iface x.1.z.t (.pointer (some x.1.z.ad))
def cA (W:World)(p:Pr)(c:Nat)(x:fB×Pl):SP:=x.1.J W p c x.2
abbrev j4:=Option Addr×Nat×List jZ
abbrev bx (x:j4):Value:=.slice x.1 x.2.2.length x.2.1
def eE (x:j4):SP:=Sl 135 1 x.1 x.2.2.length x.2.1 (x.2.2.map cz)
structure jr where
 mb:Nat
 q:Nat
 fu:List fB
structure nJ where
 adL:Option Addr
 cL:Nat
 adE:Option Addr
 cE:Nat
 xs:List (fB×Pl)
 es:List j4
def cU (m:Ml):oH:=((m.1:Int),(m.2.1:Int),m.2.2)
abbrev jC (B:jr)(A:nJ):List Value:=[.slice A.adL A.xs.length A.cL,pt B.q,.slice A.adE A.es.length A.cE]
structure nJ.Ok (A:nJ)(B:jr)(v:Wd):Prop where
 fu:A.xs.map (·.1)=B.fu
 ps:A.xs.map (·.2)=v.ps
 ev:A.es.map (·.2.2)=v.ev
def aU (W:World)(B:jr)(p:Pr)(c:Nat)(v:Wd):SP:=λh=>∃ A:nJ,A.Ok B v ∧
 cn [aa B.mb 107 (jC B A),Sl 81 1 A.adL A.xs.length A.cL (A.xs.map cC),ah (cA W p c) A.xs,bM B.q (v.net.map cU),Sl 90 1 A.adE A.es.length A.cE (A.es.map bx),ah eE A.es] h
section
variable {W w:World}{L R:List SP}{n c i:Nat}{ad adE:Option Addr}{p:Pr}{B:jr}{A:nJ}{v:Wd}{x:fB}{s:Pl}{y:Int}
theorem fB.ql (x:fB)(a7:db p)(aC:p.title.size≤1000000000)(fA:cY x.z.gs):Bm W x.z.t x.z.ad (uD x.z) (uE x.z) (uF x.z) (uG x.z) (uH x.z) (uI x.z) (uJ x.z) (uK x.z) p x.z.gs (x.J W p):=by
 obtain⟨cf,z⟩:=x;cases z with
 | mu M=>exact abw a7 aC
 | pl B=>exact abR a7 aC fA
theorem fB.more {j:Nat}(x:fB)(h:i≤j):∀ hp,x.J W p i s hp→x.J W p j s hp:=by
 obtain⟨cf,z⟩:=x;cases z with
 | mu M=>exact λhp ⟨m,⟨h1,h2,h3⟩,h4⟩=>⟨m,⟨h1,h2.more (by omega),h3⟩,h4⟩
 | pl B=>exact λhp h=>h
theorem Ns {α:Type}{f g:α→SP}(k:∀ x h,f x h→g x h):∀ {l:List α} {h:Hp},cn (l.map f) h→cn (l.map g) h
 | [],_,h=>h
 | _::l,_,⟨h1,h2,d,a,b,p,q⟩=>⟨h1,h2,d,a,b,k _ _ p,Ns k q⟩
theorem U.abS {A A':SP}(I:U W w (A::L))(k:∀ h,A h→A' h):U W w (A'::L):=⟨I.below,let ⟨h,p,h1,h2,d,a,b,x,y⟩:=I.sat;⟨h,p,h1,h2,d,a,b,k _ x,y⟩⟩
theorem U.rG {xs:List (fB×Pl)}{d:Nat}(I:U W w (ah (cA W p c) xs::L))(h:c≤d):U W w (ah (cA W p d) xs::L) :=
 I.abS λ_ h1=>Ns (λx h2 h3=>x.1.more h h2 h3) h1
theorem aU.open (I:U W w (aU W B p c v::L)):∃ A:nJ,A.Ok B v∧U W w (aa B.mb 107 (jC B A)::Sl 81 1 A.adL A.xs.length A.cL (A.xs.map cC)::ah (cA W p c) A.xs::bM B.q (v.net.map cU)::Sl 90 1 A.adE A.es.length A.cE (A.es.map bx)::ah eE A.es::L):=by
 obtain⟨A,h1,I⟩:=I.jt (ι:=nJ) (p:=λA=>A.Ok B v) (B:=λA h=>cn [aa B.mb 107 (jC B A),Sl 81 1 A.adL A.xs.length A.cL (A.xs.map cC),ah (cA W p c) A.xs,bM B.q (v.net.map cU),Sl 90 1 A.adE A.es.length A.cE (A.es.map bx),ah eE A.es] h) λ_ h=>h;exact⟨A,h1,I.open (M:=[_,_,_,_,_,_]) λ_ h=>h⟩
theorem aU.fold (I:U W w L)(B:jr)(p:Pr)(c:Nat)(v:Wd)(A:nJ)(h:A.Ok B v)[kk:fE L [aa B.mb 107 (jC B A),Sl 81 1 A.adL A.xs.length A.cL (A.xs.map cC),ah (cA W p c) A.xs,bM B.q (v.net.map cU),Sl 90 1 A.adE A.es.length A.cE (A.es.map bx),ah eE A.es] R]:U W w (aU W B p c v::R) :=
 U.shut (M:=[_,_,_,_,_,_]) (I.perm kk.perm) λ_ h1=>⟨A,h,h1⟩
theorem abT {P:Program}{t:TypeId} {ms}(ht:P.underlying t=some (.interface ms))(k:Nat):(Op.equalIn (k+1) t .nilIface .nilIface).run P w=.ok true w:=by
 simp[Op.equalIn,eP ht]
theorem abU {P:Program}{a:Act}{l:List (Nat×Value)} {x t ms u dst ty ps af g}(E:Fr a n l)(ht:P.underlying t=some (.interface ms))[e:Ev l x .nilIface] :
   (execOp a.eval ⟨dst,.binOp .eql t x (.const .nilIface) u,ty,ps,af,g⟩).run P w=.ok (.value (.bool true)) w:=by
 have hc:a.eval (.const .nilIface)=.nilIface:=rfl;have h2:(Op.equal t .nilIface .nilIface).run P w=.ok true w:=abT ht 9999;simp only[execOp,e.ev a n E,hc,Sem.run_bind];simp[eqGuard,binOp,h2]
theorem Nt {P:Program}{a:Act}{l:List (Nat×Value)} {x t u ok dst ty ps af g}{z z2:Value}(E:Fr a n l)(h:(Instr.typeAssert z t u ok).run P w=.ok z2 w)[e:Ev l x z] :
   (execOp a.eval ⟨dst,.typeAssert x t u ok,ty,ps,af,g⟩).run P w=.ok (.value z2) w:=by
 simp[execOp,e.ev a n E,h]
end
end
section
def fK.mul:fK→Value
 | .mu M=>pt M.mb
 | .pl _=>.pointer none
section
variable {W w:World}{L:List SP}{n cL mb i:Nat}{ad:Option Addr}{B:jr}{y:Int}{x2 x3:Value}{xs:List (fB×Pl)}
theorem abV (I:U W w (aa mb 107 [.slice ad n cL,x2,x3]::L))(hy:y<0∨(n:Int)≤y):Calls prog 28 #[pt mb,.int .i64 y] w λe V=>e=.returned .nilIface∧U W V (aa mb 107 [.slice ad n cL,x2,x3]::L):=by
 refine EN func28 ntmps28 rfl rfl λa E=>?_;refine RN 7 E I λa E=>?_;replace E:=E.aK 7;refine BY 4 E I (λjQ a E=>?_) λjQ a E=>?_
 ·
  refine RT 11 E I ?_;exact⟨rfl,I⟩
 refine RN 8 E I λa E=>?_;rw[dq (by omega)]at E;refine RT 3 E I ?_;exact⟨rfl,I⟩
theorem rH (I:U W w (aa mb 107 [.slice ad xs.length cL,x2,x3]::Sl 81 1 ad xs.length cL (xs.map cC)::L))(hi:i<xs.length):Calls prog 28 #[pt mb,.int .i64 i] w λe V=>e=.returned (cC xs[i])∧U W V (aa mb 107 [.slice ad xs.length cL,x2,x3]::Sl 81 1 ad xs.length cL (xs.map cC)::L):=by
 refine EN func28 ntmps28 rfl rfl λa E=>?_;refine RN 7 E I λa E=>?_;replace E:=E.aK 7;refine RN 4 E I λa E=>?_;rw[bq (by omega)]at E;refine RN 8 E I λa E=>?_;rw[bq (by omega)]at E;refine RN 2 E I λa E=>?_;obtain⟨b,o,rfl,hr⟩:=(I.pick (Sl 81 1 ad xs.length cL (xs.map cC))).bW ad (by omega);have ep:=hr i (cC xs[i]) (by rw[bn,aF hi];rfl);refine RN 6 E I λa E=>?_;refine SS E (ae E (ep)) λa E=>?_;refine RT 1 E I ?_;exact⟨rfl,I.sub⟩
theorem fK.assert (z:fK)(w:World):(Instr.typeAssert (.iface z.t (.pointer (some z.ad))) 81 78 true).run prog w=.ok (.tuple #[z.mul,.bool (match z with | .mu _=>true | .pl _=>false)]) w:=by
 cases z with
 | mu M=>kernel_rfl
 | pl B=>kernel_rfl
theorem Gx (I:U W w (aa mb 107 [.slice ad xs.length cL,x2,x3]::Sl 81 1 ad xs.length cL (xs.map cC)::L))(hi:i<xs.length):Calls prog 27 #[pt mb,.int .i64 i] w λe V=>e=.returned xs[i].1.z.mul∧U W V (aa mb 107 [.slice ad xs.length cL,x2,x3]::Sl 81 1 ad xs.length cL (xs.map cC)::L):=by
 have has:=xs[i].1.z.assert;cases hz:xs[i].1.z with
 | mu M =>
  rw[hz]at has;refine EN func27 ntmps27 rfl rfl λa E=>?_;refine CL 5 E I (rH I hi) λa w E I=>?_;rw[show cC xs[i]=.iface (fK.mu M).t (.pointer (some (fK.mu M).ad)) from by rw[← hz]]at E;refine RN 0 E I λa E=>?_;refine SK (bC E rfl (Nt E (has w)) rfl ?_);clear E a;intro a E;refine RN 9 E I λa E=>?_;replace E:=E.aK 15;refine RT 4 E I ?_;exact⟨rfl,I⟩
 | pl B =>
  rw[hz]at has;refine EN func27 ntmps27 rfl rfl λa E=>?_;refine CL 5 E I (rH I hi) λa w E I=>?_;rw[show cC xs[i]=.iface (fK.pl B).t (.pointer (some (fK.pl B).ad)) from by rw[← hz]]at E;refine RN 0 E I λa E=>?_;refine SK (bC E rfl (Nt E (has w)) rfl ?_);clear E a;intro a E;refine RN 9 E I λa E=>?_;replace E:=E.dX 15;refine RT 3 E I ?_;exact⟨rfl,I⟩
theorem BA (I:U W w (aa mb 107 [x2,pt i,x3]::L)):Calls prog 22 #[pt mb] w λe V=>e=.returned (pt i)∧U W V (aa mb 107 [x2,pt i,x3]::L):=by
 refine EN func22 ntmps22 rfl rfl λa E=>?_;refine RN 6 E I λa E=>?_;replace E:=E.aK 4;refine RT 7 E I ?_;exact⟨rfl,I⟩
end
end
section
section
variable {W w:World}{L:List SP}{n c mb i q:Nat}{ad:Option Addr}{v:Wd}{x1 x3:Value}{xs:List (fB×Pl)}{l net:List Ml}{e:List jZ}
theorem U.wG {α:Type}{f:α→SP}{l:List α}{i:Nat}(h:i<l.length)(I:U W w (f l[i]::ah f (l.eraseIdx i)::L)):U W w (ah f l::L):=by
 have h1:=U.kG h I
 rwa [set_getElem_self]at h1
theorem Nu (l:List jZ):∀ v∈l.map cz,v.oneCell'=true:=by
 intro v hv;obtain⟨e,_,rfl⟩:=c0.1 hv;exact E2 e
theorem Nv (I:U W w (Sl 135 1 ad e.length c (e.map cz)::L))(hl:e.length≤1000000000):Calls prog 57 #[.slice ad e.length c] w λr V=>∃ av c',r=.returned (.slice av e.length c')∧U W V (Sl 135 1 av e.length c' (e.map cz)::Sl 135 1 ad e.length c (e.map cz)::L):=by
 cases o4:ad with
 | none =>
  subst o4;have h0:e=[]:=by
   rcases Nat.eq_zero_or_pos e.length with h0 | h0
   ·exact g5 h0
   ·obtain⟨b,o,h1,_⟩:=I.bW none h0;cases h1
  subst h0;refine EN func57 ntmps57 rfl rfl λa E=>?_;refine RN 6 E I λa E=>?_;replace E:=E.dX 4;refine RT 3 E I ?_;exact⟨_,_,rfl,I.bO _ _ _⟩
 | some a =>
  rw[← o4];refine EN func57 ntmps57 rfl rfl λa E=>?_;refine RN 6 E I λa E=>?_;rw[show ad.isNone=false from by rw[o4];rfl]at E;replace E:=E.aK 4;refine RN 2 E I λa E=>?_;refine tu E rfl I underlying90 Ty.t135 rfl λb5 a w E I ho=>?_;clear ho;replace I:U W w (Sl 135 1 (some ⟨b5,0,none⟩) 0 0 []::Sl 135 1 ad e.length c (e.map cz)::L):=I.tail.bO _ _ _;refine RN 1 E I λa E=>?_;refine gU E rfl I underlying90 Ty.t135 rfl rfl (by decide) (λh0=>I.tail.bW ad h0) (by rw[bg,Nat.mul_one]) (Nu _) (by omega) λr5 l5 a w E I=>?_;rw[nil_append,Nat.zero_add]at I;rw[Nat.zero_add]at E;refine RT 1 E I ?_;exact⟨_,_,rfl,I⟩
theorem abW {m:Ml}(h:m.2.2.length≤1000):(if pH (net.map cU) m.2.2.length then net.map cU++[cU m] else net.map cU)=(oG net m).map cU:=by
 have h1:pH (net.map cU) m.2.2.length=decide (net.length<300):=by
  rw[pH,bg,dq h,Bool.and_true]
 rw[h1,oG];by_cases h2:net.length<300
 ·rw[dq h2,al rfl,al h2,cX];rfl
 ·rw[bq h2,ag (by decide),ag h2]
theorem Nw (I:U W w (ct 124 ad n c l::bM q (net.map cU)::aa mb 107 [x1,pt q,x3]::L))(hn:n≤1000)(hl:∀ m∈l,m.2.2.length≤1000) :
   Calls prog 61 #[pt mb,.slice ad n c] w λe V=>e=.returned (.int .i64 0)∧U W V (bM q ((eo net l).map cU)::aa mb 107 [x1,pt q,x3]::L):=by
 obtain⟨xs,eG,b0,I⟩:=ct.open I;have bd:xs.length=n:=by rw[← b0,← eG,bg]
 subst bd;refine EN func61 ntmps61 rfl rfl λa E=>?_;refine RN 7 E I λa E=>?_;refine aP (λμ a w=>∃ (i:Nat),(μ=xs.length-i∧i≤xs.length)∧Fr a 20 [(0,pt mb),(7,.slice ad xs.length c),(8,.int .i64 xs.length),(9,.int .i64 i)]∧U W w (bM q ((eo net (l.take i)).map cU)::Sl 124 3 ad xs.length c (rows b6 xs)::ah b7 xs::aa mb 107 [x1,pt q,x3]::L)) (xs.length) (⟨0,⟨rfl,by omega⟩,E.ab [0,7,8,9],(show U W w (Sl 124 3 ad xs.length c (rows b6 xs)::ah b7 xs::bM q ((eo net (l.take 0)).map cU)::_) from I).sub⟩) ?_;clear E I;rintro μ a w ⟨i,⟨rfl,hi⟩,E,I⟩;refine IF 3 E I (λaj a E=>?_) λaj a E=>?_
 ·
  have aG:i<xs.length:=by omega
  have yJ:i<l.length:=by omega
  refine RN 2 E I λa E=>?_;obtain⟨bi,oi,rfl,pc⟩:=(I.pick (Sl 124 3 ad xs.length c (rows b6 xs))).bW ad (by omega);have fe:=jk oz pc (aF aG);obtain⟨m,hm⟩:∃ m,m=l[i]:=⟨_,rfl⟩;obtain⟨xa,Nx,hx⟩:∃ a c,xs[i]=(a,c,m):=⟨xs[i].1,xs[i].2.1,by
   have h1:(xs.map (·.2.2))[i]?=l[i]?:=by rw[eG]
   rw[bn,aF aG,aF yJ]at h1;have h2:xs[i].2.2=l[i]:=by simpa using h1
   rw[hm,← h2]⟩
  have l4:=hl m (by rw[hm];exact getElem_mem _);rw[hx]at fe;refine RN 1 E I λa E=>?_;refine SS E (bR E underlying124 rfl Ty.t124 (fe)) λa E=>?_;refine AL 0 E I λcG a w E I=>?_;refine SA 0 E I λa w E I=>?_;refine bS 0 [4] [0,1,2,3003,1004,1005] E I λa w E I hH hC=>?_;refine RH 5 E I hH hC λa E=>?_;refine CL 0 E I (aa8 (bs:=m.2.2) (I.pick (bM q ((eo net (l.take i)).map cU))) (λV cJ=>by
   have h1:=(cJ.pick (ah b7 xs)).fv aG;rw[hx]at h1;exact U.cu (L:=b7 (xa,Nx,m)::_) h1 _ _ (k:=(fL.head:fL (Sl 5 1 xa m.2.2.length Nx (bc m.2.2)::_) xa _ _ _ _ _ _)) rfl rfl)) λa w E I=>?_
  refine RN 0 E I λa E=>?_;rw[show ((m.1:Int),(m.2.1:Int),m.2.2)=cU m from rfl,abW l4,hm,← MY net yJ]at I;refine RN 2 E I λa E=>?_;exact⟨xs.length-(i+1),by omega,i+1,⟨rfl,by omega⟩,E.ab [0,7,8,9],I.sub⟩
 refine RT 2 E I ?_;obtain rfl:i=xs.length:=by omega
 rw[fY (by omega)]at I;exact⟨rfl,I.sub⟩
end
end
section
abbrev dV (s:ft):List Value:=[.int .i64 s.fn,.int .i64 s.a,.int .i64 s.b,.int .i64 s.n]
section
variable {W w:World}{L:List SP}{c d cL mb i q:Nat}{ad adE:Option Addr}{p:Pr}{B:jr}{A:nJ}{v:Wd}{x:fB}{s wu s':Pl}{t:ft}{y:Int}{net:List Ml}{cf:Cf}
theorem nJ.Ok.at (h:A.Ok B v)(hi:i<v.ps.length):∃ x,A.xs[i]?=some (x,an v i)∧i<A.xs.length∧B.fu[i]?=some x:=by
 have hl:A.xs.length=v.ps.length:=by rw[← h.ps,bg]
 have dJ:i<A.xs.length:=by omega
 refine⟨A.xs[i].1,?_,dJ,by rw[← h.fu,bn,aF dJ];rfl⟩;rw[aF dJ,an,bl,← h.ps,bn,aF dJ];rfl
theorem aU.out (I:U W w (ah (cA W p c) A.xs::L))(hx:A.xs[i]?=some (x,s)):U W w (x.J W p c s::ah (cA W p c) (A.xs.eraseIdx i)::L):=by
 obtain⟨hi,h1⟩:=a8.1 hx;have h2:=I.fv hi;rw[h1]at h2;exact h2
theorem aU.put (hA:A.Ok B v)(hx:A.xs[i]?=some (x,wu))(DA:c≤d)(net:List Ml)
   (I:U W w (x.J W p d s'::ah (cA W p c) (A.xs.eraseIdx i)::aa B.mb 107 (jC B A)::Sl 81 1 A.adL A.xs.length A.cL (A.xs.map cC)::bM B.q (net.map cU)::Sl 90 1 A.adE A.es.length A.cE (A.es.map bx)::ah eE A.es::L)) :
   U W w (aU W B p d { v with ps:=v.ps.set i s',net:=net }::L):=by
 obtain⟨hi,h1⟩:=a8.1 hx;have h2:=(I.pick (ah (cA W p c) (A.xs.eraseIdx i))).rG DA;have h3:=U.kG (f:=cA W p d) (x:=(x,s')) hi (h2.pick (x.J W p d s'));have e1:(A.xs.set i (x,s')).map cC=A.xs.map cC:=by
  rw[List.map_set,show cC (x,s')=(A.xs.map cC)[i]'(by rw[bg];exact hi) from by rw[getElem_map,h1],set_getElem_self]
 have e2:(A.xs.set i (x,s')).length=A.xs.length:=bu ..;have hA':nJ.Ok { A with xs:=A.xs.set i (x,s') } B { v with ps:=v.ps.set i s',net:=net }:=by
  refine⟨?_,?_,hA.ev⟩
  ·show (A.xs.set i (x,s')).map (·.1)=_;rw[List.map_set,← hA.fu];show (A.xs.map (·.1)).set i x=_;rw[show x=(A.xs.map (·.1))[i]'(by rw[bg];exact hi) from by rw[getElem_map,h1],set_getElem_self]
  ·show (A.xs.set i (x,s')).map (·.2)=v.ps.set i s';rw[List.map_set,hA.ps]
 have h4:U W w (ah (cA W p d) (A.xs.set i (x,s'))::aa B.mb 107 (jC B { A with xs:=A.xs.set i (x,s') })::Sl 81 1 A.adL (A.xs.set i (x,s')).length A.cL ((A.xs.set i (x,s')).map cC)::bM B.q (net.map cU)::Sl 90 1 A.adE A.es.length A.cE (A.es.map bx)::ah eE A.es::L):=by
  simp only[jC,e1,e2];exact h3.sub
 exact (aU.fold h4 B p d { v with ps:=v.ps.set i s',net:=net } { A with xs:=A.xs.set i (x,s') } hA').sub
theorem ft.u8 (b:Int):IntKind.u8.wrap b=((fV b).toNat:Int):=by rw[wrap_u8,aaY]
structure jr.Ok (B:jr)(p:Pr)(c:Nat):Prop where
 pr:db p
 sz:p.title.size≤1000000000
 gs:∀ x∈B.fu,cY x.z.gs
 c:c≤1000000
theorem abX (I:U W w L):Calls prog 62 #[.pointer none,.int .i64 y] w λe V=>e=.returned (.bool false)∧U W V L:=by
 refine EN func62 ntmps62 rfl rfl λa E=>?_;refine RN 7 E I λa E=>?_;replace E:=E.dX 7;refine RT 19 E I ?_;exact⟨rfl,I⟩
theorem abY (I:U W w (ah (cA W p c) A.xs::L))(hx:A.xs[i]?=some (x,s))(a7:db p)(aC:p.title.size≤1000000000)(hc:c≤1000000) :
   Calls prog 62 #[x.z.mul,.int .i64 y] w λe V=>∃ z:Bool,e=.returned (.bool z)∧(z=true→0≤y∧y<s.k.workers∧∃ M,x.z=.mu M)∧U W V (ah (cA W p (c+1)) A.xs::L):=by
 obtain⟨hi,h1⟩:=a8.1 hx;have h2:=aU.out I hx;obtain⟨cf,z⟩:=x;cases z with
 | pl B=>exact (abX I).mono λe V ⟨h,I⟩=>⟨false,h,(λh=>by cases h),I.rG (Nat.le_succ c)⟩
 | mu M =>
  refine (abx h2 a7 aC hc).mono λe V ⟨z,h,h3,I⟩=>⟨z,h,λhz=>⟨(h3 hz).2.1,(h3 hz).2.2,M,rfl⟩,?_⟩;have h4:=(I.pick (ah (cA W p c) (A.xs.eraseIdx i))).rG (Nat.le_succ c);refine U.wG hi ?_;rw[h1];exact h4.pick (fj W M p cf (c+1) s)
theorem BB {t:ft}(h:t.fn=1)(fX:t.a=i)(hi:i<v.ps.length):fW p t v=((dH p (fV t.b) (an v i)).1,{ v with ps:=v.ps.set i (dH p (fV t.b) (an v i)).2 }):=by
 rw[fW,ag (by omega),al h,fX,Int.toNat_natCast]
theorem wH {t:ft}(h:t.fn=2)(fX:t.a=i)(hi:i<v.ps.length):fW p t v=(0,{ v with ps:=v.ps.set i ⟨(bo (an v i).k).2,(an v i).g⟩,net:=eo v.net (bo (an v i).k).1 }):=by
 rw[fW,ag (by omega),ag (by omega),al h,fX,Int.toNat_natCast]
theorem yK {t:ft}(h:t.fn=8)(fX:t.a=i)(hi:i<v.ps.length):fW p t v=(0,{ v with ps:=v.ps.set i ⟨(bG (an v i).k).2,(an v i).g⟩,net:=eo v.net (bG (an v i).k).1 }):=by
 rw[fW,ag (by omega),ag (by omega),ag (by omega),al h,fX,Int.toNat_natCast]
theorem yL {t:ft}(h:t.fn=7)(fX:t.a=i)(hi:i<v.ps.length):fW p t v=(0,v):=by
 rw[fW,ag (by omega),ag (by omega),ag (by omega),ag (by omega)]
theorem abZ (I:U W w (aU W B p c v::L))(Zs:t.a<0∨(v.ps.length:Int)≤t.a) :
   Calls prog 44 #[pt B.mb,.agg (dV t).toArray] w λe V=>e=.returned (.int .i64 7)∧U W V (aU W B p c v::L):=by
 replace I:=aU.open I;obtain⟨A,hA,I⟩:=I;have hl:A.xs.length=v.ps.length:=by rw[← hA.ps,bg]
 refine EN func44 ntmps44 rfl rfl λa E=>?_;refine BX 1 E I λb3 a w E I=>?_;change U W w (aa b3 58 (dV t)::_) at I;refine CL 5 E I (abV (I.pick (aa B.mb 107 (jC B A))) (by omega)) λa w E I=>?_;refine RN 4 E I λa E=>?_;refine SK (bC E rfl (abU E underlying81) rfl ?_);clear E a;intro a E;refine RN 0 E I λa E=>?_;replace E:=E.dX 11;refine RT 3 E I ?_;exact⟨rfl,(aU.fold I B p c v A hA).sub⟩
set_option maxHeartbeats 1000000 in
theorem ab0 (I:U W w (aU W B p c v::L))(hB:B.Ok p c)(hv:bB p cf c v)(hi:i<v.ps.length)(hf:t.fn=1∨t.fn=2∨t.fn=8∨t.fn=7)(fX:t.a=i) :
   Calls prog 44 #[pt B.mb,.agg (dV t).toArray] w λe V=>∃ z:Int,e=.returned (.int .i64 z)∧(t.fn≠7→z=(fW p t v).1) ∧
    (t.fn=7→z=7∨(z=0∧0≤t.b∧t.b<(an v i).k.workers∧∃ x M,B.fu[i]?=some x∧x.z=.mu M))∧U W V (aU W B p (c+1) (fW p t v).2::L):=by
 replace I:=aU.open I;obtain⟨A,hA,I⟩:=I;obtain⟨x,hx,BC,oJ⟩:=hA.at hi;obtain⟨_,gQ⟩:=a8.1 hx;have hM:=x.ql (W:=W) (p:=p) hB.pr hB.sz (hB.gs x (bJ oJ));obtain⟨hw,cw,wI⟩:=hv.pl i hi;have mo:=hB.c;have yM:cC A.xs[i]=.iface x.z.t (.pointer (some x.z.ad)):=by rw[gQ]
 refine EN func44 ntmps44 rfl rfl λa E=>?_;refine BX 1 E I λb3 a w E I=>?_;change U W w (aa b3 58 (dV t)::_) at I;refine RN 5 E I λa E=>?_;rw[fX]at E;refine CL 0 E I (rH ((I.pick (Sl 81 1 A.adL A.xs.length A.cL (A.xs.map cC))).pick (aa B.mb 107 (jC B A))) BC) λa w E I=>?_;refine RN 1 E I λa E=>?_;rw[yM]at E;refine RN 4 E I λa E=>?_;replace E:=E.aK 11;refine IF 8 E I (λao a E=>?_) λao a E=>?_
 ·
  refine RN 1 E I λa E=>?_;replace I:=aU.out (I.pick (ah (cA W p c) A.xs)) hx;refine RN 3 E I λa E=>?_;refine SS E (gj E underlying3 underlying5) λa E=>?_;rw[ft.u8]at E;refine RN 0 E I λa E=>?_;refine jv E rfl hM.Ga hM.cP rfl (hM.ak _ _ c (an v i) (fV t.b) mo hw (I.pick (x.J W p c (an v i)))) (by rfl) ?_;clear E I;rintro e w ⟨rfl,I⟩;refine⟨_,rfl,λa E=>?_⟩;refine RT 1 E I ?_;exact⟨_,rfl,λ_=>by rw[BB (by assumption) fX hi],λh=>by omega,by
   have h1:=aU.put hA hx (Nat.le_succ c) v.net (I.sub (M:=x.J W p (c+1) (dH p (fV t.b) (an v i)).2::ah (cA W p c) (A.xs.eraseIdx i)::aa B.mb 107 (jC B A)::Sl 81 1 A.adL A.xs.length A.cL (A.xs.map cC)::bM B.q (v.net.map cU)::Sl 90 1 A.adE A.es.length A.cE (A.es.map bx)::ah eE A.es::L));rw[BB (by assumption) fX hi];exact h1⟩
 refine IF 3 E I (λaz a E=>?_) λaz a E=>?_
 ·
  refine RN 1 E I λa E=>?_;replace I:=aU.out (I.pick (ah (cA W p c) A.xs)) hx;refine RN 2 E I λa E=>?_;refine jv E rfl hM.Ge hM.cT rfl (hM.tick _ _ c (an v i) mo hw (by omega) (I.pick (x.J W p c (an v i)))) (by rfl) ?_;clear E I;rintro e w ⟨am,js,rfl,I⟩;refine⟨_,rfl,λa E=>?_⟩;refine CL 0 E I (Nw (((I.pick (aa B.mb 107 (jC B A))).pick (bM B.q (v.net.map cU))).pick (ct 124 am (bo (an v i).k).1.length js (bo (an v i).k).1)) (MW hw.wc) (λm hm=>(MZ hw.wc m hm).2)) λa w E I=>?_;refine RT 1 E I ?_;exact⟨_,rfl,λ_=>by rw[wH (by assumption) fX hi],λh=>by omega,by
   have h1:=aU.put hA hx (Nat.le_succ c) (eo v.net (bo (an v i).k).1) (I.sub (M:=x.J W p (c+1) ⟨(bo (an v i).k).2,(an v i).g⟩::ah (cA W p c) (A.xs.eraseIdx i)::aa B.mb 107 (jC B A)::Sl 81 1 A.adL A.xs.length A.cL (A.xs.map cC)::bM B.q ((eo v.net (bo (an v i).k).1).map cU)::Sl 90 1 A.adE A.es.length A.cE (A.es.map bx)::ah eE A.es::L));rw[wH (by assumption) fX hi];exact h1⟩
 refine IF 3 E I (λbh a E=>?_) λbh a E=>?_
 ·
  refine RN 1 E I λa E=>?_;replace I:=aU.out (I.pick (ah (cA W p c) A.xs)) hx;refine RN 2 E I λa E=>?_;refine jv E rfl hM.Gf hM.Gg rfl (hM.lu _ _ c (an v i) mo hw (I.pick (x.J W p c (an v i)))) (by rfl) ?_;clear E I;rintro e w ⟨am,js,rfl,I⟩;refine⟨_,rfl,λa E=>?_⟩;refine CL 0 E I (Nw (((I.pick (aa B.mb 107 (jC B A))).pick (bM B.q (v.net.map cU))).pick (ct 124 am (bG (an v i).k).1.length js (bG (an v i).k).1)) (MX hw.wc) (λm hm=>(M0 hw.wc m hm).2)) λa w E I=>?_;refine RT 1 E I ?_;exact⟨_,rfl,λ_=>by rw[yK (by assumption) fX hi],λh=>by omega,by
   have h1:=aU.put hA hx (Nat.le_succ c) (eo v.net (bG (an v i).k).1) (I.sub (M:=x.J W p (c+1) ⟨(bG (an v i).k).2,(an v i).g⟩::ah (cA W p c) (A.xs.eraseIdx i)::aa B.mb 107 (jC B A)::Sl 81 1 A.adL A.xs.length A.cL (A.xs.map cC)::bM B.q ((eo v.net (bG (an v i).k).1).map cU)::Sl 90 1 A.adE A.es.length A.cE (A.es.map bx)::ah eE A.es::L));rw[yK (by assumption) fX hi];exact h1⟩
 refine aY 2 (λw0 V=>Rd V b3 0 (dV t)) [3,5] [0,1,4,3002,3005,1003,1006,7] E I λa w E I hH=>?_;have hC:=hH.at w (I.ai (b:=b3));refine RH 3 E I hH hC λa E=>?_;refine QH E (λw hc=>ae E (hc 1 _ rfl)) hC λa E=>?_;rw[fX]at E;refine RH 0 E I hH hC λa E=>?_;refine QH E (λw hc=>ae E (hc 2 _ rfl)) hC λa E=>?_;refine RH 0 E I hH hC λa E=>?_;refine CL 0 E I (Gx ((I.pick (Sl 81 1 A.adL A.xs.length A.cL (A.xs.map cC))).pick (aa B.mb 107 (jC B A))) BC) λa w E I=>?_;replace hC:=hH.at w (I.ai (b:=b3));rw[show A.xs[i].1.z.mul=x.z.mul from by rw[gQ]]at E;refine RH 0 E I hH hC λa E=>?_;refine aR 0 E I (abY (x:=x) (y:=t.b) (I.pick (ah (cA W p c) A.xs)) hx hB.pr hB.sz mo) λz a w E ⟨hz,I⟩=>?_;refine RN 1 E I λa E=>?_;refine IF 0 E I (λbQ a E=>?_) λbQ a E=>?_
 ·
  have kr:z=false:=by cases z <;> simp_all
  refine RT 2 E I ?_;exact⟨7,rfl,λh=>absurd (by omega) h,λ_=>.inl rfl,by
   rw[yL (by omega) fX hi];exact (aU.fold I B p (c+1) v A hA).sub⟩
 have kr:z=true:=by cases z <;> simp_all
 refine RT 2 E I ?_;exact⟨0,rfl,λh=>absurd (by omega) h,λ_=>.inr ⟨rfl,(hz kr).1,(hz kr).2.1,x,(hz kr).2.2.choose,oJ,(hz kr).2.2.choose_spec⟩,by
  rw[yL (by omega) fX hi];exact (aU.fold I B p (c+1) v A hA).sub⟩
end
end
section
section
variable {W w:World}{L:List SP}{n c cL mb j q:Nat}{ad adE:Option Addr}{p:Pr}{B:jr}{A:nJ}{v:Wd}{x:fB}{t:ft}{y:Int}{net:List Ml}{m:Ml}{cf:Cf}{z:UInt8}
theorem Gy (h:net[j]?=some m):∃ h2:j<(net.map cU).length,(net.map cU)[j]=cU m:=by
 obtain⟨h1,h2⟩:=a8.1 h;exact⟨by rw[bg];exact h1,by rw[getElem_map,h2]⟩
theorem Gz (I:U W w (bM q (net.map cU)::L))(h:net[j]?=some m):Calls prog 52 #[pt q,.int .i64 j] w λe V=>∃ ad c,e=.returned (.tuple #[.agg #[.int .i64 m.1,.int .i64 m.2.1,.slice ad m.2.2.length c],.bool true])∧U W V (Sl 5 1 ad m.2.2.length c (bc m.2.2)::bM q (net.map cU)::L):=by
 obtain⟨h1,h2⟩:=Gy h;have h3:=aba I h1;rw[h2]at h3;exact h3
theorem Ny (I:U W w (bM q (net.map cU)::L))(h:y<0∨(net.length:Int)≤y):Calls prog 52 #[pt q,.int .i64 y] w λe V=>e=.returned (.tuple #[.agg #[.int .i64 0,.int .i64 0,.slice none 0 0],.bool false])∧U W V (bM q (net.map cU)::L) :=
 aa9 I (by rw[bg];simp;omega)
theorem Nz (I:U W w (bM q (net.map cU)::L))(h:net[j]?=some m):Calls prog 63 #[pt q,.int .i64 j] w λe V=>e=.returned (.bool true)∧U W V (bM q ((net.eraseIdx j).map cU)::L):=by
 obtain⟨h1,h2⟩:=Gy h;have h3:=abc I h1;rw[show (net.map cU).eraseIdx j=(net.eraseIdx j).map cU from by simp only[eraseIdx_eq_take_drop_succ,cX,map_take,map_drop]]at h3;exact h3
theorem ab1 (I:U W w (bM q (net.map cU)::L))(h:net[j]?=some m):Calls prog 64 #[pt q,.int .i64 j,.int .i64 y,.int .u8 (z.toNat:Int)] w λe V =>
   e=.returned (.bool (decide (0≤y)&&decide (y<m.2.2.length)))∧U W V (bM q ((if y<0∨(m.2.2.length:Int)≤y then net else net.set j (m.1,m.2.1,m.2.2.set y.toNat (m.2.2.getD y.toNat 0 ^^^ z))).map cU)::L):=by
 obtain⟨h1,h2⟩:=Gy h;have h3:=abd (aV:=y) (x:=z) I h1;rw[h2]at h3;refine h3.mono λe V ⟨h4,h5⟩=>⟨h4,?_⟩;by_cases h6:y<0∨(m.2.2.length:Int)≤y
 ·rw[al h6];rw[ag (by show ¬ (decide (0≤y)&&decide (y<(m.2.2.length:Int)))=true;simp;omega)]at h5;exact h5
 ·rw[ag h6,List.map_set];rw[al (by show (decide (0≤y)&&decide (y<(m.2.2.length:Int)))=true;simp;omega)]at h5;exact h5
theorem NA {t:ft}(h:t.n<0∨(v.net.length:Int)≤t.n):gg p t v=(3,v):=by rw[gg,al h]
theorem BD (h:v.net[j]?=some m):v.net.getD j (0,0,[])=m:=by rw[bl,h];rfl
theorem GA {t:ft}(h:t.fn=4)(gD:t.n=j)(hm:v.net[j]?=some m):gg p t v=(0,{ v with net:=v.net.eraseIdx j }):=by
 have h1:=(a8.1 hm).1;rw[gg,ag (by omega),ag (by omega),al h,gD,Int.toNat_natCast]
theorem uQ {t:ft}(h:t.fn=6)(gD:t.n=j)(hm:v.net[j]?=some m):gg p t v=if t.a<0∨(m.2.2.length:Int)≤t.a then (3,v) else (0,{ v with net:=v.net.set j (m.1,m.2.1,m.2.2.set t.a.toNat (m.2.2.getD t.a.toNat 0 ^^^ fV t.b)) }):=by
 have h1:=(a8.1 hm).1;rw[gg,ag (by omega),al h,gD,Int.toNat_natCast,BD hm]
theorem BE {t:ft}(h:t.fn≠4)(h':t.fn≠6)(gD:t.n=j)(hm:v.net[j]?=some m):gg p t v=((dI p m.2.2 (an v m.2.1)).1,{ v with ps:=v.ps.set m.2.1 (dI p m.2.2 (an v m.2.1)).2,net:=if t.fn=5 then v.net else v.net.eraseIdx j }):=by
 have h1:=(a8.1 hm).1;rw[gg,ag (by omega),ag h',ag h,gD,Int.toNat_natCast,BD hm]
theorem ab2 (I:U W w (aU W B p c v::L))(qA:t.n<0∨(v.net.length:Int)≤t.n) :
   Calls prog 45 #[pt B.mb,.agg (dV t).toArray] w λe V=>e=.returned (.int .i64 3)∧U W V (aU W B p c v::L):=by
 replace I:=aU.open I;obtain⟨A,hA,I⟩:=I;refine EN func45 ntmps45 rfl rfl λa E=>?_;refine BX 1 E I λb3 a w E I=>?_;change U W w (aa b3 58 (dV t)::_) at I;refine RN 1 E I λa E=>?_;refine cc (M:=λa w=>∃ b5:Nat,Fr a 61 [(0,pt B.mb),(3,pt b3),(5,pt b5),(6,.bool false)]∧U W w (aa b5 124 [.int .i64 0,.int .i64 0,.slice none 0 0]::aa b3 58 (dV t)::aa B.mb 107 (jC B A)::Sl 81 1 A.adL A.xs.length A.cL (A.xs.map cC)::ah (cA W p c) A.xs::bM B.q (v.net.map cU)::Sl 90 1 A.adE A.es.length A.cE (A.es.map bx)::ah eE A.es::L)) ?_ ?_
 ·
  refine aY 0 (λw0 V=>Rd V B.mb 0 (jC B A)∧Rd V b3 0 (dV t)) [5,10] [0,1,2,4,3003,3005,2006,7,8,9,1010,1011,12] E I λa w E I hH=>?_;have hC:=hH.at w ⟨I.ai (b:=B.mb),I.ai (b:=b3)⟩;refine RH 4 E I hH hC λa E=>?_;refine QH E (λw hc=>ae E (hc.1 1 _ rfl)) hC λa E=>?_;refine QH E (λw hc=>ae E (hc.2 3 _ rfl)) hC λa E=>?_;refine RH 0 E I hH hC λa E=>?_;refine DN [(6,[7,8,9,1010,1011,12]),(10,[1006,7,8,9,1011,12])] (by kernel_rfl) rfl ⟨⟨_,rfl,?_⟩,⟨_,rfl,?_⟩,trivial⟩
  ·
   refine RH 0 E I hH hC λa E=>?_;refine CL 0 E I (Ny (I.pick (bM B.q (v.net.map cU))) qA) λa w E I=>?_;refine RN 3 E I λa E=>?_;refine eW E rfl I Ty.t124 rfl λb5 a w E I ho=>?_;clear ho;replace hC:=hH.at w ⟨I.ai (b:=B.mb),I.ai (b:=b3)⟩;refine RH 0 E I hH hC λa E=>?_;refine SA 0 E I λa w E I=>?_;refine RN 1 E I λa E=>?_;exact⟨b5,E.ab [0,3,5,6],I.sub⟩
  refine RH 0 E I hH hC λa E=>?_;refine eW E rfl I Ty.t124 rfl λb5 a w E I ho=>?_;clear ho;replace hC:=hH.at w ⟨I.ai (b:=B.mb),I.ai (b:=b3)⟩;refine RH 0 E I hH hC λa E=>?_;refine CL 0 E I (Ny (I.pick (bM B.q (v.net.map cU))) qA) λa w E I=>?_;refine SA 3 E I λa w E I=>?_;refine RN 1 E I λa E=>?_;exact⟨b5,E.ab [0,3,5,6],I.sub⟩
 clear E;(try clear I);rintro a w ⟨b5,E,I⟩;refine RN 4 E I λa E=>?_;replace E:=E.dX 18;refine RT 3 E I ?_;exact⟨rfl,(aU.fold I B p c v A hA).sub⟩
set_option maxHeartbeats 1000000 in
theorem ab3 (I:U W w (aU W B p c v::L))(hB:B.Ok p c)(hv:bB p cf c v)(hf:t.fn=3∨t.fn=4∨t.fn=5∨t.fn=6)(gD:t.n=j)(hm:v.net[j]?=some m) :
   Calls prog 45 #[pt B.mb,.agg (dV t).toArray] w λe V=>e=.returned (.int .i64 (gg p t v).1)∧U W V (aU W B p (c+1) (gg p t v).2::L):=by
 replace I:=aU.open I;obtain⟨A,hA,I⟩:=I;have eH:=(a8.1 hm).1;have eb:=hv.Gp eH;rw[BD hm]at eb;obtain⟨x,hx,BC,oJ⟩:=hA.at eb.1;obtain⟨_,gQ⟩:=a8.1 hx;have hM:=x.ql (W:=W) (p:=p) hB.pr hB.sz (hB.gs x (bJ oJ));obtain⟨hw,cw,wI⟩:=hv.pl m.2.1 eb.1;have mo:=hB.c;have yM:cC A.xs[m.2.1]=.iface x.z.t (.pointer (some x.z.ad)):=by rw[gQ]
 refine EN func45 ntmps45 rfl rfl λa E=>?_;refine BX 1 E I λb3 a w E I=>?_;change U W w (aa b3 58 (dV t)::_) at I;refine RN 1 E I λa E=>?_;refine cc (M:=λa w=>∃ (b5:Nat) (am:Option Addr) (js:Nat),Fr a 61 [(0,pt B.mb),(3,pt b3),(5,pt b5),(6,.bool true)]∧U W w (aa b5 124 [.int .i64 m.1,.int .i64 m.2.1,.slice am m.2.2.length js]::Sl 5 1 am m.2.2.length js (bc m.2.2)::aa b3 58 (dV t)::aa B.mb 107 (jC B A)::Sl 81 1 A.adL A.xs.length A.cL (A.xs.map cC)::ah (cA W p c) A.xs::bM B.q (v.net.map cU)::Sl 90 1 A.adE A.es.length A.cE (A.es.map bx)::ah eE A.es::L)) ?_ ?_
 ·
  refine aY 0 (λw0 V=>Rd V B.mb 0 (jC B A)∧Rd V b3 0 (dV t)) [5,10] [0,1,2,4,3003,3005,2006,7,8,9,1010,1011,12] E I λa w E I hH=>?_;have hC:=hH.at w ⟨I.ai (b:=B.mb),I.ai (b:=b3)⟩;refine RH 4 E I hH hC λa E=>?_;refine QH E (λw hc=>ae E (hc.1 1 _ rfl)) hC λa E=>?_;refine QH E (λw hc=>ae E (hc.2 3 _ rfl)) hC λa E=>?_;rw[gD]at E;refine RH 0 E I hH hC λa E=>?_;refine DN [(6,[7,8,9,1010,1011,12]),(10,[1006,7,8,9,1011,12])] (by kernel_rfl) rfl ⟨⟨_,rfl,?_⟩,⟨_,rfl,?_⟩,trivial⟩
  ·
   refine RH 0 E I hH hC λa E=>?_;refine a6 0 E I (Gz (I.pick (bM B.q (v.net.map cU))) hm) λam js a w E I=>?_;refine RN 3 E I λa E=>?_;refine eW E rfl I Ty.t124 rfl λb5 a w E I ho=>?_;clear ho;replace hC:=hH.at w ⟨I.ai (b:=B.mb),I.ai (b:=b3)⟩;refine RH 0 E I hH hC λa E=>?_;refine SA 0 E I λa w E I=>?_;refine RN 1 E I λa E=>?_;exact⟨b5,am,js,E.ab [0,3,5,6],I.sub⟩
  refine RH 0 E I hH hC λa E=>?_;refine eW E rfl I Ty.t124 rfl λb5 a w E I ho=>?_;clear ho;replace hC:=hH.at w ⟨I.ai (b:=B.mb),I.ai (b:=b3)⟩;refine RH 0 E I hH hC λa E=>?_;refine a6 0 E I (Gz (I.pick (bM B.q (v.net.map cU))) hm) λam js a w E I=>?_;refine SA 3 E I λa w E I=>?_;refine RN 1 E I λa E=>?_;exact⟨b5,am,js,E.ab [0,3,5,6],I.sub⟩
 clear E;(try clear I);rintro a w ⟨b5,am,js,E,I⟩;refine RN 4 E I λa E=>?_;replace E:=E.aK 18;refine RN 1 E I λa E=>?_;refine cc (M:=λa w=>((t.fn≠4∧t.fn≠6)∧Fr a 61 [(0,pt B.mb),(5,pt b5)])∧U W w (aa b5 124 [.int .i64 m.1,.int .i64 m.2.1,.slice am m.2.2.length js]::Sl 5 1 am m.2.2.length js (bc m.2.2)::aa B.mb 107 (jC B A)::Sl 81 1 A.adL A.xs.length A.cL (A.xs.map cC)::ah (cA W p c) A.xs::bM B.q ((if t.fn=5 then v.net else v.net.eraseIdx j).map cU)::Sl 90 1 A.adE A.es.length A.cE (A.es.map bx)::ah eE A.es::L)) ?_ ?_
 ·
  refine IF 6 E I (λao a E=>?_) λao a E=>?_
  ·
   refine bS 1 [5] [0,1,2,4,3003,1005,1006] E I λa w E I hH hC=>?_;refine RH 6 E I hH hC λa E=>?_;rw[gD]at E;refine CL 0 E I (Nz (I.pick (bM B.q (v.net.map cU))) hm) λa w E I=>?_;refine RT 2 E I ?_;exact⟨by rw[GA (by assumption) gD hm],by
    rw[GA (by assumption) gD hm];exact (aU.fold ((I.pick (ah (cA W p c) A.xs)).rG (Nat.le_succ c)) B p (c+1) { v with net:=v.net.eraseIdx j } A ⟨hA.fu,hA.ps,hA.ev⟩).sub⟩
  refine IF 3 E I (λaz a E=>?_) λaz a E=>?_
  ·
   refine bS 2 [5,7,9,10] [0,1,2,4,6,8,3003,3005,3007,1009,1010,1011,12] E I λa w E I hH hC=>?_;refine RH 10 E I hH hC λa E=>?_;refine SS E (gj E underlying3 underlying5) λa E=>?_;rw[ft.u8,gD]at E;refine RH 0 E I hH hC λa E=>?_;refine CL 0 E I (ab1 (I.pick (bM B.q (v.net.map cU))) hm) λa w E I=>?_;refine RN 1 E I λa E=>?_;refine IF 0 E I (λbh a E=>?_) λbh a E=>?_
   ·
    have ho:t.a<0∨(m.2.2.length:Int)≤t.a:=by
     by_cases h1:t.a<0
     ·exact .inl h1
     ·by_cases h2:(m.2.2.length:Int)≤t.a
      ·exact .inr h2
      ·simp at bh;omega
    refine RT 2 E I ?_;exact⟨by rw[uQ (by assumption) gD hm,al ho],by
     rw[uQ (by assumption) gD hm,al ho];rw[al ho]at I;exact (aU.fold ((I.pick (ah (cA W p c) A.xs)).rG (Nat.le_succ c)) B p (c+1) v A hA).sub⟩
   have ho:¬ (t.a<0∨(m.2.2.length:Int)≤t.a):=by
    simp at bh;omega
   refine RT 2 E I ?_;exact⟨by rw[uQ (by assumption) gD hm,ag ho],by
    rw[uQ (by assumption) gD hm,ag ho];rw[ag ho]at I;exact (aU.fold ((I.pick (ah (cA W p c) A.xs)).rG (Nat.le_succ c)) B p (c+1) { v with net:=v.net.set j (m.1,m.2.1,m.2.2.set t.a.toNat (m.2.2.getD t.a.toNat 0 ^^^ fV t.b)) } A ⟨hA.fu,hA.ps,hA.ev⟩).sub⟩
  refine IF 3 E I (λbQ a E=>?_) λbQ a E=>?_
  ·
   refine bS 0 [5] [0,1,2,4,3003,1005,1006] E I λa w E I hH hC=>?_;refine RH 6 E I hH hC λa E=>?_;rw[gD]at E;refine CL 0 E I (Nz (I.pick (bM B.q (v.net.map cU))) hm) λa w E I=>?_;refine RN 0 E I λa E=>?_;rw[ag (by omega)];exact⟨⟨⟨by omega,by omega⟩,E.ab [0,5]⟩,I.sub⟩
  refine RN 0 E I λa E=>?_;rw[al (by omega)];exact⟨⟨⟨by omega,by omega⟩,E.ab [0,5]⟩,I.sub⟩
 clear E;(try clear I);rintro a w ⟨⟨ju,E⟩,I⟩;refine aY 1 (λw0 V=>Rd V b5 0 [.int .i64 m.1,.int .i64 m.2.1,.slice am m.2.2.length js]) [3,5] [0,1,4,3002,3005,1003,1006,7] E I λa w E I hH=>?_;have hC:=hH.at w (I.ai (b:=b5));refine RH 3 E I hH hC λa E=>?_;refine QH E (λw hc=>ae E (hc 1 _ rfl)) hC λa E=>?_;refine QH E (λw hc=>ae E (hc 2 _ rfl)) hC λa E=>?_;refine RH 0 E I hH hC λa E=>?_;refine CL 0 E I (rH ((I.pick (Sl 81 1 A.adL A.xs.length A.cL (A.xs.map cC))).pick (aa B.mb 107 (jC B A))) BC) λa w E I=>?_;replace hC:=hH.at w (I.ai (b:=b5));rw[yM]at E;replace I:=aU.out (I.pick (ah (cA W p c) A.xs)) hx;refine RH 0 E I hH hC λa E=>?_;refine jv E rfl hM.Gb hM.Gc rfl (hM.recv _ _ c (an v m.2.1) m.2.2 am js mo hw (by omega) (I.sl am).2 (λV cJ=>(cJ.pick (Sl 5 1 am m.2.2.length js (bc m.2.2))).cu am _ rfl rfl) (I.pick (x.J W p c (an v m.2.1)))) (by rfl) ?_;clear E I;rintro e w ⟨rfl,I⟩;refine⟨_,rfl,λa E=>?_⟩;refine RN 1 E I λa E=>?_;refine RT 0 E I ?_;exact⟨by rw[BE ju.1 ju.2 gD hm],by
  rw[BE ju.1 ju.2 gD hm];exact aU.put hA hx (Nat.le_succ c) (if t.fn=5 then v.net else v.net.eraseIdx j) I.sub⟩
end
end
section
section
variable {W w:World}{L:List SP}{n c d cL cE mb i j q:Nat}{ad adL adE:Option Addr}{p:Pr}{B:jr}{A:nJ}{v u:Wd}{x:fB}{s s':Pl}{t:ft}{net:List Ml}{cf:Cf}{xs:List (fB×Pl)}{es:List j4}
theorem jr.Ok.less (h:B.Ok p d)(hc:c≤d):B.Ok p c:=⟨h.pr,h.sz,h.gs,gF hc h.c⟩
theorem aU.more (I:U W w (aU W B p c v::L))(h:c≤d):U W w (aU W B p d v::L):=by
 replace I:=aU.open I;obtain⟨A,hA,I⟩:=I;exact (aU.fold ((I.pick (ah (cA W p c) A.xs)).rG h) B p d v A hA).sub
theorem aU.wJ (I:U W w (aU W B p c v::L)):∃ (adL:Option Addr) (cL:Nat) (adE:Option Addr) (cE:Nat) (xs:List (fB×Pl)) (es:List j4),(xs.map (·.1)=B.fu∧xs.map (·.2)=v.ps∧es.map (·.2.2)=v.ev) ∧
   U W w (aa B.mb 107 [.slice adL xs.length cL,pt B.q,.slice adE es.length cE]::Sl 81 1 adL xs.length cL (xs.map cC)::ah (cA W p c) xs::bM B.q (v.net.map cU)::Sl 90 1 adE es.length cE (es.map bx)::ah eE es::L):=by
 replace I:=aU.open I;obtain⟨⟨adL,cL,adE,cE,xs,es⟩,hA,I⟩:=I;exact⟨adL,cL,adE,cE,xs,es,⟨hA.fu,hA.ps,hA.ev⟩,I⟩
theorem aU.uR (I:U W w (aa B.mb 107 [.slice adL xs.length cL,pt B.q,.slice adE es.length cE]::Sl 81 1 adL xs.length cL (xs.map cC)::ah (cA W p c) xs::bM B.q (v.net.map cU)::Sl 90 1 adE es.length cE (es.map bx)::ah eE es::L))
   (h1:xs.map (·.1)=B.fu) (h2:xs.map (·.2)=v.ps) (h3:es.map (·.2.2)=v.ev):U W w (aU W B p c v::L) :=
 U.shut (M:=[_,_,_,_,_,_]) I λ_ h=>⟨⟨adL,cL,adE,cE,xs,es⟩,⟨h1,h2,h3⟩,h⟩
theorem GC {ps:List Pl}{fu:List fB}(h1:xs.map (·.1)=fu)(h2:xs.map (·.2)=ps)(hi:i<xs.length):∃ x,xs[i]?=some (x,ps.getD i Bq)∧fu[i]?=some x:=by
 refine⟨xs[i].1,?_,by rw[← h1,bn,aF hi];rfl⟩;rw[aF hi,bl,← h2,bn,aF hi];rfl
theorem BF (I:U W w (ah (cA W p c) xs::L))(hx:xs[i]?=some (x,s)):U W w (x.J W p c s::ah (cA W p c) (xs.eraseIdx i)::L):=by
 obtain⟨hi,h1⟩:=a8.1 hx;have h2:=I.fv hi;rw[h1]at h2;exact h2
theorem ab4 (I:U W w (x.J W p d s'::ah (cA W p c) (xs.eraseIdx i)::L))(hx:xs[i]?=some (x,s))(h:c≤d):U W w (ah (cA W p d) (xs.set i (x,s'))::L):=by
 obtain⟨hi,h1⟩:=a8.1 hx;exact U.kG (f:=cA W p d) (x:=(x,s')) hi (((I.pick (ah (cA W p c) (xs.eraseIdx i))).rG h).pick (x.J W p d s'))
theorem NB (hx:xs[i]?=some (x,s)):(xs.set i (x,s')).map cC=xs.map cC∧(xs.set i (x,s')).map (·.1)=xs.map (·.1):=by
 obtain⟨hi,h1⟩:=a8.1 hx;constructor
 ·rw[List.map_set,show cC (x,s')=(xs.map cC)[i]'(by rw[bg];exact hi) from by rw[getElem_map,h1],set_getElem_self]
 ·rw[List.map_set];show (xs.map (·.1)).set i x=_;rw[show x=(xs.map (·.1))[i]'(by rw[bg];exact hi) from by rw[getElem_map,h1],set_getElem_self]
def BG (B:jr)(t:ft)(v:Wd)(z:Int):Prop:=z=7∨(z=0∧(0≤t.a∧t.a<v.ps.length)∧0≤t.b∧t.b<(an v t.a.toNat).k.workers∧∃ x M,B.fu[t.a.toNat]?=some x∧x.z=.mu M)
theorem BH (I:U W w (aU W B p c v::L))(hB:B.Ok p c)(hv:bB p cf c v)(hf:t.fn=1∨t.fn=2∨t.fn=8∨t.fn=7) :
   Calls prog 44 #[pt B.mb,.agg (dV t).toArray] w λe V=>∃ z:Int,e=.returned (.int .i64 z)∧(t.fn≠7→z=(fW p t v).1)∧(t.fn=7→BG B t v z)∧U W V (aU W B p (c+1) (fW p t v).2::L):=by
 by_cases h0:t.a<0∨(v.ps.length:Int)≤t.a
 ·refine (abZ I h0).mono λe V ⟨h,I⟩=>⟨7,h,λ_=>?_,λ_=>.inl rfl,?_⟩
  ·rw[fW,al h0]
  ·rw[fW,al h0];exact aU.more I (Nat.le_succ c)
 ·refine (ab0 (i:=t.a.toNat) I hB hv (by omega) hf (by omega)).mono λe V ⟨z,h,h1,h2,I⟩=>⟨z,h,h1,λh7=>?_,I⟩;rcases h2 h7 with h3 | ⟨h3,h4,h5,h6⟩
  ·exact .inl h3
  ·exact .inr ⟨h3,by omega,h4,h5,h6⟩
theorem BI (I:U W w (aU W B p c v::L))(hB:B.Ok p c)(hv:bB p cf c v)(hf:t.fn=3∨t.fn=4∨t.fn=5∨t.fn=6) :
   Calls prog 45 #[pt B.mb,.agg (dV t).toArray] w λe V=>e=.returned (.int .i64 (gg p t v).1)∧U W V (aU W B p (c+1) (gg p t v).2::L):=by
 by_cases h0:t.n<0∨(v.net.length:Int)≤t.n
 ·rw[NA h0];exact (ab2 I h0).mono λe V ⟨h,I⟩=>⟨h,aU.more I (Nat.le_succ c)⟩
 ·exact ab3 (j:=t.n.toNat) I hB hv hf (by omega) (aF (by omega))
set_option maxHeartbeats 2000000 in
theorem NC (I:U W w (aU W B p c v::L))(hB:B.Ok p (c+10))(hv:bB p cf c v)(jR:9*c+100≤1000000000) :
   Calls prog 29 #[pt B.mb,.agg (dV t).toArray] w λe V=>∃ z:Int,e=.returned (.int .i64 z)∧(t.fn≠7→z=(bt p t v).1)∧(t.fn=7→BG B t v z)∧U W V (aU W B p (c+10) (kA (bt p t v).2)::L):=by
 have hu:=hv.step (s:=t);refine EN func29 ntmps29 rfl rfl λa E=>?_;refine BX 1 E I λb3 a w E I=>?_;change U W w (aa b3 58 (dV t)::_) at I;refine RN 5 E I λa E=>?_;replace E:=E.aK 9;refine RN 3 E I λa E=>?_;refine cc (M:=λa w=>(∃ z:Int,((t.fn≠7→z=(bt p t v).1)∧(t.fn=7→BG B t v z))∧Fr a 56 [(0,pt B.mb),(5,.int .i64 z)])∧U W w (aU W B p (c+1) (bt p t v).2::L)) ?_ ?_
 ·
  refine IF 7 E I (λao a E=>?_) λao a E=>?_
  ·
   refine aR 3 E I (BH (I.pick (aU W B p c v)) (hB.less (by omega)) hv (by omega)) λz a w E ⟨cW,eQ,I⟩=>?_;refine RN 1 E I λa E=>?_
   first
    | (have aT : bt p t v = fW p t v := by rw [bt, ag (by omega), ag (by omega)]
       rw[aT];exact⟨⟨z,⟨cW,eQ⟩,E.ab [0,5]⟩,I.sub⟩)
    | (have aT : bt p t v = gg p t v := by rw [bt, ag (by omega), al (by omega)]
       rw[aT];exact⟨⟨_,⟨λ_=>rfl,λh=>by omega⟩,E.ab [0,5]⟩,I.sub⟩)
    | (have aT : bt p t v = (1, v) := by rw [bt, al (by omega)]
       rw[aT];exact⟨⟨1,⟨λ_=>rfl,λh=>by omega⟩,E.ab [0,5]⟩,(aU.more (I.pick (aU W B p c v)) (Nat.le_succ c)).sub⟩)
  refine IF 3 E I (λaz a E=>?_) λaz a E=>?_
  ·
   refine aR 3 E I (BH (I.pick (aU W B p c v)) (hB.less (by omega)) hv (by omega)) λz a w E ⟨cW,eQ,I⟩=>?_;refine RN 1 E I λa E=>?_
   first
    | (have aT : bt p t v = fW p t v := by rw [bt, ag (by omega), ag (by omega)]
       rw[aT];exact⟨⟨z,⟨cW,eQ⟩,E.ab [0,5]⟩,I.sub⟩)
    | (have aT : bt p t v = gg p t v := by rw [bt, ag (by omega), al (by omega)]
       rw[aT];exact⟨⟨_,⟨λ_=>rfl,λh=>by omega⟩,E.ab [0,5]⟩,I.sub⟩)
    | (have aT : bt p t v = (1, v) := by rw [bt, al (by omega)]
       rw[aT];exact⟨⟨1,⟨λ_=>rfl,λh=>by omega⟩,E.ab [0,5]⟩,(aU.more (I.pick (aU W B p c v)) (Nat.le_succ c)).sub⟩)
  refine IF 3 E I (λbh a E=>?_) λbh a E=>?_
  ·
   refine aR 3 E I (BH (I.pick (aU W B p c v)) (hB.less (by omega)) hv (by omega)) λz a w E ⟨cW,eQ,I⟩=>?_;refine RN 1 E I λa E=>?_
   first
    | (have aT : bt p t v = fW p t v := by rw [bt, ag (by omega), ag (by omega)]
       rw[aT];exact⟨⟨z,⟨cW,eQ⟩,E.ab [0,5]⟩,I.sub⟩)
    | (have aT : bt p t v = gg p t v := by rw [bt, ag (by omega), al (by omega)]
       rw[aT];exact⟨⟨_,⟨λ_=>rfl,λh=>by omega⟩,E.ab [0,5]⟩,I.sub⟩)
    | (have aT : bt p t v = (1, v) := by rw [bt, al (by omega)]
       rw[aT];exact⟨⟨1,⟨λ_=>rfl,λh=>by omega⟩,E.ab [0,5]⟩,(aU.more (I.pick (aU W B p c v)) (Nat.le_succ c)).sub⟩)
  refine IF 2 E I (λbQ a E=>?_) λbQ a E=>?_
  ·
   refine aR 2 E I (BH (I.pick (aU W B p c v)) (hB.less (by omega)) hv (by omega)) λz a w E ⟨cW,eQ,I⟩=>?_;refine RN 1 E I λa E=>?_
   first
    | (have aT : bt p t v = fW p t v := by rw [bt, ag (by omega), ag (by omega)]
       rw[aT];exact⟨⟨z,⟨cW,eQ⟩,E.ab [0,5]⟩,I.sub⟩)
    | (have aT : bt p t v = gg p t v := by rw [bt, ag (by omega), al (by omega)]
       rw[aT];exact⟨⟨_,⟨λ_=>rfl,λh=>by omega⟩,E.ab [0,5]⟩,I.sub⟩)
    | (have aT : bt p t v = (1, v) := by rw [bt, al (by omega)]
       rw[aT];exact⟨⟨1,⟨λ_=>rfl,λh=>by omega⟩,E.ab [0,5]⟩,(aU.more (I.pick (aU W B p c v)) (Nat.le_succ c)).sub⟩)
  refine IF 4 E I (λeT a E=>?_) λeT a E=>?_
  ·
   refine CL 3 E I (BI (I.pick (aU W B p c v)) (hB.less (by omega)) hv (by omega)) λa w E I=>?_;refine RN 1 E I λa E=>?_
   first
    | (have aT : bt p t v = fW p t v := by rw [bt, ag (by omega), ag (by omega)]
       rw[aT];exact⟨⟨z,⟨cW,eQ⟩,E.ab [0,5]⟩,I.sub⟩)
    | (have aT : bt p t v = gg p t v := by rw [bt, ag (by omega), al (by omega)]
       rw[aT];exact⟨⟨_,⟨λ_=>rfl,λh=>by omega⟩,E.ab [0,5]⟩,I.sub⟩)
    | (have aT : bt p t v = (1, v) := by rw [bt, al (by omega)]
       rw[aT];exact⟨⟨1,⟨λ_=>rfl,λh=>by omega⟩,E.ab [0,5]⟩,(aU.more (I.pick (aU W B p c v)) (Nat.le_succ c)).sub⟩)
  refine IF 3 E I (λmU a E=>?_) λmU a E=>?_
  ·
   refine CL 3 E I (BI (I.pick (aU W B p c v)) (hB.less (by omega)) hv (by omega)) λa w E I=>?_;refine RN 1 E I λa E=>?_
   first
    | (have aT : bt p t v = fW p t v := by rw [bt, ag (by omega), ag (by omega)]
       rw[aT];exact⟨⟨z,⟨cW,eQ⟩,E.ab [0,5]⟩,I.sub⟩)
    | (have aT : bt p t v = gg p t v := by rw [bt, ag (by omega), al (by omega)]
       rw[aT];exact⟨⟨_,⟨λ_=>rfl,λh=>by omega⟩,E.ab [0,5]⟩,I.sub⟩)
    | (have aT : bt p t v = (1, v) := by rw [bt, al (by omega)]
       rw[aT];exact⟨⟨1,⟨λ_=>rfl,λh=>by omega⟩,E.ab [0,5]⟩,(aU.more (I.pick (aU W B p c v)) (Nat.le_succ c)).sub⟩)
  refine IF 3 E I (λml a E=>?_) λml a E=>?_
  ·
   refine CL 3 E I (BI (I.pick (aU W B p c v)) (hB.less (by omega)) hv (by omega)) λa w E I=>?_;refine RN 1 E I λa E=>?_
   first
    | (have aT : bt p t v = fW p t v := by rw [bt, ag (by omega), ag (by omega)]
       rw[aT];exact⟨⟨z,⟨cW,eQ⟩,E.ab [0,5]⟩,I.sub⟩)
    | (have aT : bt p t v = gg p t v := by rw [bt, ag (by omega), al (by omega)]
       rw[aT];exact⟨⟨_,⟨λ_=>rfl,λh=>by omega⟩,E.ab [0,5]⟩,I.sub⟩)
    | (have aT : bt p t v = (1, v) := by rw [bt, al (by omega)]
       rw[aT];exact⟨⟨1,⟨λ_=>rfl,λh=>by omega⟩,E.ab [0,5]⟩,(aU.more (I.pick (aU W B p c v)) (Nat.le_succ c)).sub⟩)
  refine IF 2 E I (λmm a E=>?_) λmm a E=>?_
  ·
   refine CL 2 E I (BI (I.pick (aU W B p c v)) (hB.less (by omega)) hv (by omega)) λa w E I=>?_;refine RN 1 E I λa E=>?_
   first
    | (have aT : bt p t v = fW p t v := by rw [bt, ag (by omega), ag (by omega)]
       rw[aT];exact⟨⟨z,⟨cW,eQ⟩,E.ab [0,5]⟩,I.sub⟩)
    | (have aT : bt p t v = gg p t v := by rw [bt, ag (by omega), al (by omega)]
       rw[aT];exact⟨⟨_,⟨λ_=>rfl,λh=>by omega⟩,E.ab [0,5]⟩,I.sub⟩)
    | (have aT : bt p t v = (1, v) := by rw [bt, al (by omega)]
       rw[aT];exact⟨⟨1,⟨λ_=>rfl,λh=>by omega⟩,E.ab [0,5]⟩,(aU.more (I.pick (aU W B p c v)) (Nat.le_succ c)).sub⟩)
  refine RN 0 E I λa E=>?_
  first
   | (have aT : bt p t v = fW p t v := by rw [bt, ag (by omega), ag (by omega)]
      rw[aT];exact⟨⟨z,⟨cW,eQ⟩,E.ab [0,5]⟩,I.sub⟩)
   | (have aT : bt p t v = gg p t v := by rw [bt, ag (by omega), al (by omega)]
      rw[aT];exact⟨⟨_,⟨λ_=>rfl,λh=>by omega⟩,E.ab [0,5]⟩,I.sub⟩)
   | (have aT : bt p t v = (1, v) := by rw [bt, al (by omega)]
      rw[aT];exact⟨⟨1,⟨λ_=>rfl,λh=>by omega⟩,E.ab [0,5]⟩,(aU.more (I.pick (aU W B p c v)) (Nat.le_succ c)).sub⟩)
 clear E;(try clear I);rintro a w ⟨⟨z,hz,E⟩,I⟩;refine RN 2 E I λa E=>?_;generalize (bt p t v).2=u at I hu ⊢;replace I:=aU.wJ I;obtain⟨adL,cL,adE,cE,yN,yO,⟨eL,dp,eN⟩,I⟩:=I;have b0:yN.length=u.ps.length:=by rw[← dp,bg]
 have rI:yO.length=u.ps.length:=by rw[← hu.ev,← eN,bg]
 have wy:=hu.len;have mo:=hB.c;refine RN 6 E I λa E=>?_;refine aP (λμ a w=>∃ (i:Nat) (xs:List (fB×Pl)) (es:List j4),(μ=u.ps.length-i∧(i≤u.ps.length∧xs.length=u.ps.length∧es.length=u.ps.length)∧xs.map (·.1)=B.fu∧xs.map (·.2)=(cj u i).ps∧es.map (·.2.2)=(cj u i).ev)∧Fr a 56 [(0,pt B.mb),(5,.int .i64 z),(31,.slice adL u.ps.length cL),(32,.int .i64 u.ps.length),(33,.int .i64 i)]∧U W w (aa B.mb 107 [.slice adL u.ps.length cL,pt B.q,.slice adE u.ps.length cE]::Sl 81 1 adL u.ps.length cL (xs.map cC)::ah (cA W p (c+1+i)) xs::bM B.q (u.net.map cU)::Sl 90 1 adE u.ps.length cE (es.map bx)::ah eE es::L)) (u.ps.length) (⟨0,yN,yO,⟨rfl,⟨by omega,b0,rI⟩,eL,dp,eN⟩,(by rw[b0]at E;exact E.ab [0,5,31,32,33]),(by rw[b0,rI]at I;exact I.sub)⟩) ?_;clear E I;rintro μ a w ⟨i,xs,es,⟨rfl,⟨hi,yP,yQ⟩,ud,sK,qj⟩,E,I⟩;refine IF 3 E I (λjR a E=>?_) λjR a E=>?_
 ·
  have aG:i<u.ps.length:=by omega
  obtain⟨x,hx,oJ⟩:∃ x,xs[i]?=some (x,an (cj u i) i)∧B.fu[i]?=some x:=GC ud sK (by omega);obtain⟨_,gQ⟩:=a8.1 hx;have hM:=x.ql (W:=W) (p:=p) hB.pr hB.sz (hB.gs x (bJ oJ));have hd:=hu.cj (i:=i) (by omega);obtain⟨hw,cw,wI⟩:=hd.pl i (by rw[(qx u i).1];exact aG);have GD:=hd.kx;obtain⟨iq,iu,l,k8⟩:∃ iq iu l,es[i]?=some (iq,iu,l):=⟨_,_,_,aF (by omega)⟩;obtain⟨_,oK⟩:=a8.1 k8;have gW:l.length≤9*(c+2):=(GD l (by rw[← qj];exact c0.2 ⟨(iq,iu,l),by rw[← oK];exact getElem_mem _,rfl⟩)).1;have yM:(xs.map cC)[i]?=some (.iface x.z.t (.pointer (some x.z.ad))):=by rw[bn,hx];rfl
  refine RN 2 E I λa E=>?_;obtain⟨mI,ol,rfl,hS⟩:=(I.pick (Sl 81 1 adL u.ps.length cL (xs.map cC))).bW adL (by omega);have fG:=hS i _ yM;refine RN 2 E I λa E=>?_;refine SS E (ae E (fG)) λa E=>?_;refine RN 2 E I λa E=>?_;obtain⟨iI,oE,rfl,_⟩:=(I.pick (Sl 90 1 adE u.ps.length cE (es.map bx))).bW adE (by omega);refine aY 0 (λw0 V=>Rd V B.mb 0 [.slice (some ⟨mI,ol,none⟩) u.ps.length cL,pt B.q,.slice (some ⟨iI,oE,none⟩) u.ps.length cE]∧Rd V iI oE (es.map bx)) [8,10,11,13,14] [0,1,2,4,5,6,7,9,12,3003,3008,3010,3011,1013,1014,15,1016] E I λa w E I hH=>?_;have hC:=hH.at w ⟨I.ai (b:=B.mb),I.cK iI oE (by omega)⟩;refine RH 9 E I hH hC λa E=>?_;refine QH E (λw hc=>ae E (hc.1 2 _ rfl)) hC λa E=>?_;refine QH E (λw hc=>ae E (hc.1 2 _ rfl)) hC λa E=>?_;refine RH 1 E I hH hC λa E=>?_;refine QH E (λw hc=>ae E (hc.2 i (.slice iq l.length iu) (by rw[bn,k8];rfl))) hC λa E=>?_;replace I:=BF (I.pick (ah (cA W p (c+1+i)) xs)) hx;refine RH 0 E I hH hC λa E=>?_;refine jv E rfl hM.Gh hM.cE rfl (hM.events _ _ (c+1+i) (an (cj u i) i) (by omega) hw (I.pick (x.J W p (c+1+i) (an (cj u i) i)))) (by rfl) ?_;clear E I;rintro e w ⟨am,js,rfl,I⟩;refine⟨_,rfl,λa E=>?_⟩;replace hC:=hH.at w ⟨I.ai (b:=B.mb),I.cK iI oE (by omega)⟩;replace I:=(I.pick (ah eE es)).fv (i:=i) (by omega);rw[oK]at I;change U W w (Sl 135 1 iq l.length iu (l.map cz)::_) at I;have ND:=hw.wc.kx;refine RH 0 E I hH hC λa E=>?_;refine gU E rfl I underlying90 Ty.t135 rfl rfl (by decide) (λh0=>(I.pick (Sl 135 1 am (an (cj u i) i).k.ev.length js ((an (cj u i) i).k.ev.map cz))).bW am h0) (by rw[bg,Nat.mul_one]) (Nu _) (by omega) λra re a w E I=>?_;replace hC:=hH.at w ⟨I.ai (b:=B.mb),I.cK iI oE (by omega)⟩;have hcE:=((I.pick (Sl 90 1 (some ⟨iI,oE,none⟩) u.ps.length cE (es.map bx))).sl (some ⟨iI,oE,none⟩)).2;obtain⟨iU,pre,post,⟨h3,h4,h5,h6⟩,gx⟩:=(I.pick (Sl 90 1 (some ⟨iI,oE,none⟩) u.ps.length cE (es.map bx))).lC (by omega);replace I:=gx;clear gx;obtain⟨rfl,rfl⟩:iI=iU∧oE=pre.length:=by simpa using h5
  refine RH 1 E I hH hC λa E=>?_;refine ST 0 E I (λa w E I=>?_) (hlt:=(by simp only[aM,bg];omega));refine RN 2 E I λa E=>?_;have qk:(cj u i).ev.getD i []=l:=by rw[← qj,bl,bn,k8];rfl
  have GF:(es.map bx).set i (.slice ra (l.length+(an (cj u i) i).k.ev.length) re)=(es.set i (ra,re,l++(an (cj u i) i).k.ev)).map bx:=by
   rw[List.map_set,bx,aM]
  have c6:=I;rw[yG (by rw[bg];omega),GF]at c6;replace c6:=U.iL (n:=u.ps.length) (c:=cE) (sz:=1) (c6.jD iI) (by rw[bg,bu];omega) h4 h6;have hj:=c6.pick (ah (cA W p (c+1+i)) (xs.eraseIdx i));have hk:=ab4 (s':=⟨{ (an (cj u i) i).k with ev:=[] },(an (cj u i) i).g⟩) (hj.pick (x.J W p (c+1+i+1) ⟨{ (an (cj u i) i).k with ev:=[] },(an (cj u i) i).g⟩)) hx (Nat.le_succ _);have pA:Sl 135 1 ra (l.length+(an (cj u i) i).k.ev.length) re (l.map cz++(an (cj u i) i).k.ev.map cz)=eE (ra,re,l++(an (cj u i) i).k.ev):=by
   rw[eE,aM,cX]
  have hq:=(hk.pick (ah eE (es.eraseIdx i))).pick (Sl 135 1 ra (l.length+(an (cj u i) i).k.ev.length) re (l.map cz++(an (cj u i) i).k.ev.map cz));rw[pA]at hq;have eQ:=U.kG (f:=eE) (i:=i) (by omega) hq;refine⟨u.ps.length-(i+1),by omega,i+1,xs.set i (x,⟨{ (an (cj u i) i).k with ev:=[] },(an (cj u i) i).g⟩),es.set i (ra,re,l++(an (cj u i) i).k.ev),⟨rfl,⟨by omega,by rw[bu];exact yP,by rw[bu];exact yQ⟩,(NB hx).2.trans ud,?_,?_⟩,E.ab [0,5,31,32,33],?_⟩
  ·rw[List.map_set,sK];rfl
  ·rw[List.map_set,qj,← qk];rfl
  ·rw[(NB hx).1];exact eQ.sub
 refine RT 3 E I ?_;obtain rfl:i=u.ps.length:=by omega
 refine⟨z,rfl,hz.1,hz.2,?_⟩;have c6:=(I.pick (ah (cA W p (c+1+u.ps.length)) xs)).rG (d:=c+10) (by omega);refine aU.uR (adL:=adL) (cL:=cL) (adE:=adE) (cE:=cE) (xs:=xs) (es:=es) ?_ ud sK qj;rw[yP,yQ,show (kA u).net=u.net from (qx u _).2.1];exact c6.sub
end
end
end Go.Proofs.YteoldcfapaiobaaGreat
