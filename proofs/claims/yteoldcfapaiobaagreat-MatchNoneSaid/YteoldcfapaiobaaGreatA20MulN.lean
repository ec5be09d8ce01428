/- Package multi: New; no player. -/
import Derived.Test.YteoldcfapaiobaaGreatA19Wd
import Derived.Test.YteoldcfapaiobaaGreatA10Wk
import Derived.Test.YteoldcfapaiobaaGreatA09Chk2
import Derived.ChangeSame
import Derived.Test.YteoldcfapaiobaaGreatA18MulA
import Derived.Test.YteoldcfapaiobaaGreatA15Fold
import Derived.Test.YteoldcfapaiobaaGreatA04Ty
import Derived.Test.YteoldcfapaiobaaGreatA17Sort
namespace Go.Proofs.YteoldcfapaiobaaGreat
open Go.RowKit
set_option linter.unusedVariables false
set_option linter.unusedSimpArgs false
set_option maxRecDepth 10000
set_option synthInstance.maxSize 4000
set_option synthInstance.maxHeartbeats 400000
section
section
variable {W w:World}{L:List SP}{n c cP cT nb nw rm me delay window:Nat}{adP adT:Option Addr}{M:MuB}{B:PlB}{x:UInt8}{p:Pr}{s:Pl}{m:Mu}{tb:List UInt8}{cf:Cf}{y id guess order branches workers room:Int}
theorem mu_new_no1 (hs:St W w (RoP W p adP cP::L))(h:¬ mayCf cf)(htl:tb.length≤1099511627776)(hT:∀ w',St W w' (RoP W p adP cP::L)→RdB w' adT tb.length tb) :
   Calls Tryz.prog 59 #[.agg (cfC cf).toArray,.agg (prV p adP cP).toArray,.slice adT tb.length cT] w λr w'=>r=.returned (.tuple #[.pointer none,.int .i64 1])∧St W w' (RoP W p adP cP::L):=by
 refine EN Tryz.func59 Tryz.ntmps59 rfl rfl λa ha=>?_
 refine BX 1 ha hs λb3 a w ha hs=>?_
 change St W w (blk b3 28 (cfC cf)::_) at hs
 refine BX 0 ha hs λb4 a w ha hs=>?_
 change St W w (blk b4 45 (prV p adP cP)::_) at hs
 refine CL 6 ha hs (plain_new_no1 (tb:=tb) (hs.pick (RoP W p adP cP)) h htl (λw' hw=>hT w' hw.sub)) λa w ha hs=>?_
 refine RN 9 ha hs λa ha=>?_
 replace ha:=ha.isT 19
 refine RT 5 ha hs ?_
 exact⟨rfl,hs.sub⟩
theorem mu_new_no2 (hs:St W w (RoP W p adP cP::L))(hm:mayCf ⟨n,me,id,delay,window,guess,order,branches,workers,room⟩)(h:¬ (prOk p∧mayGs ⟨guess,order,tb⟩))(hsz:p.title.size≤1000000000)(hol:p.ops.length≤1000000000)(htl:tb.length≤1099511627776)(hT:∀ w',St W w' (RoP W p adP cP::L)→RdB w' adT tb.length tb) :
   Calls Tryz.prog 59 #[.agg (cfC ⟨n,me,id,delay,window,guess,order,branches,workers,room⟩).toArray,.agg (prV p adP cP).toArray,.slice adT tb.length cT] w λr w'=>r=.returned (.tuple #[.pointer none,.int .i64 1])∧St W w' (RoP W p adP cP::L):=by
 obtain⟨cf,hcf⟩:∃ cf:Cf,cf=⟨n,me,id,delay,window,guess,order,branches,workers,room⟩:=⟨_,rfl⟩
 rw[← hcf]
 refine EN Tryz.func59 Tryz.ntmps59 rfl rfl λa ha=>?_
 refine BX 1 ha hs λb3 a w ha hs=>?_
 change St W w (blk b3 28 (cfC cf)::_) at hs
 refine BX 0 ha hs λb4 a w ha hs=>?_
 change St W w (blk b4 45 (prV p adP cP)::_) at hs
 refine RN 6 ha hs λa ha=>?_
 rw[hcf]at ha
 refine CL 0 ha hs (plain_new_no2 (tb:=tb) (hs.pick (RoP W p adP cP)) hm h hsz hol htl (λw' hw=>hT w' hw.sub)) λa w ha hs=>?_
 refine RN 9 ha hs λa ha=>?_
 replace ha:=ha.isT 19
 refine RT 5 ha hs ?_
 exact⟨rfl,hs.sub⟩
set_option maxHeartbeats 1000000 in
theorem mu_new (hs:St W w (RoP W p adP cP::L))(hm:mayCf ⟨n,me,id,delay,window,guess,order,nb,nw,rm⟩)(hpr:prOk p)(hgs:mayGs ⟨guess,order,tb⟩)(hsz:p.title.size≤1000000000)(hol:p.ops.length≤1000000000)(htl:tb.length≤1099511627776)(hT:∀ w',St W w' (RoP W p adP cP::L)→RdB w' adT tb.length tb) :
   Calls Tryz.prog 59 #[.agg (cfC ⟨n,me,id,delay,window,guess,order,nb,nw,rm⟩).toArray,.agg (prV p adP cP).toArray,.slice adT tb.length cT] w λr w'=>∃ (M:MuB) (m:Mu),r=.returned (.tuple #[pt M.mb,.int .i64 0]) ∧
     (M.B.gs=⟨guess,order,tb⟩∧m.s=newP p ⟨n,me,id,delay,window,guess,order,nb,nw,rm⟩∧MI p M 1 m∧m.T.l=[]∧m.J=[]∧∀ k∈m.ks,k.1=wk0)∧St W w' (MuS W M p m::RoP W p adP cP::L):=by
 obtain⟨cf,hcf⟩:∃ cf:Cf,cf=⟨n,me,id,delay,window,guess,order,nb,nw,rm⟩:=⟨_,rfl⟩
 have hin:=hm
 simp only[mayCf,inI]at hin
 obtain⟨⟨h1,h2,h3⟩,⟨h4,h5,h6,h7⟩,h8,h9,h10,h11⟩:=hin
 rw[← hcf]
 refine EN Tryz.func59 Tryz.ntmps59 rfl rfl λa ha=>?_
 refine BX 1 ha hs λb3 a w ha hs=>?_
 change St W w (blk b3 28 (cfC cf)::_) at hs
 refine BX 0 ha hs λb4 a w ha hs=>?_
 change St W w (blk b4 45 (prV p adP cP)::_) at hs
 refine RN 6 ha hs λa ha=>?_
 rw[hcf]at ha
 refine CL1 0 ha hs (plain_new (tb:=tb) (hs.pick (RoP W p adP cP)) hm hpr hgs hsz hol htl (λw' hw=>hT w' hw.sub)) λB a w ha ⟨hBg,hs⟩=>?_
 rw[← hcf]at hs
 refine RN 9 ha hs λa ha=>?_
 replace ha:=ha.isF 19
 refine RN 2 ha hs λa ha=>?_
 replace hs:=hs.sl0 114 4 none
 rw[prV]at hs
 refine RN 2 ha hs λa ha=>?_
 refine st_appendT ha rfl hs Tryz.underlying43 Ty.t114 rfl rfl (by decide) (λh0=>(hs.pick (RoP W p adP cP)).roRd adP h0) (by rw[rows_len opR_len]) (rows_one opR_one _) (by omega) λad23 c23 a w ha hs=>?_
 rw[List.nil_append,Nat.zero_add]at hs
 rw[Nat.zero_add]at ha
 refine ST 1 ha hs (λa w ha hs=>?_)
 refine RN 1 ha hs λa ha=>?_
 replace hs:=(hs.pick (Sl 114 4 ad23 p.ops.length c23 (rows opR p.ops))).roSl
 refine DWC 0 (λw0 w'=>Rd w' b3 0 (cfC cf)∧Rd w' b4 0 [.string p.title,.slice ad23 p.ops.length c23]) [3,4,5] [0,2,3001,1003,1004,1005,6,1007,8] ha hs λa w ha hs hH=>?_
 have hC:=hH.at w ⟨hs.rdAll (b:=b3),hs.rdAll (b:=b4)⟩
 refine RH 2 ha hs hH hC λa ha=>?_
 refine QH ha (λw hc=>ex_loadN ha Tryz.underlying45 rfl Ty.t45 (hc.2)) hC λa ha=>?_
 refine RH 0 ha hs hH hC λa ha=>?_
 refine SS ha (ld1 ha (hC.1 9 _ rfl)) λa ha=>?_
 rw[show cf.room=(rm:Int) from by rw[hcf]]at ha
 refine RH 0 ha hs hH hC λa ha=>?_
 refine CL2 0 ha hs (snap_new (n:=rm) hs (by omega)) λsq r a w ha hs=>?_
 replace hC:=hH.at w ⟨hs.rdAll (b:=b3),hs.rdAll (b:=b4)⟩
 refine RH 0 ha hs hH hC λa ha=>?_
 refine CL1 0 ha hs (new_spec hs) λjq a w ha hs=>?_
 replace hC:=hH.at w ⟨hs.rdAll (b:=b3),hs.rdAll (b:=b4)⟩
 refine RH 1 ha hs hH hC λa ha=>?_
 refine st_box ha rfl hs rfl λb32 a w ha hs ho=>?_
 clear ho
 change St W w (blk b32 177 [pt B.pb,.string p.title,.slice ad23 p.ops.length c23,pt sq,.pointer none,pt jq,.slice none 0 0,.int .i64 0,.int .i64 0]::_) at hs
 refine RN 1 ha hs λa ha=>?_
 refine DWC 1 (λw0 w'=>Rd w' b3 0 (cfC cf)∧w'.cell? ⟨b32,3,none⟩=some (pt sq)) [6] [0,1,2,3,5,3004,1006,1007,8,9,1010] ha hs λa w ha hs hH=>?_
 have hC:=hH.at w ⟨hs.rdAll (b:=b3),(hs.rdAll (b:=b32)) 3 _ rfl⟩
 refine RH 5 ha hs hH hC λa ha=>?_
 refine QH ha (λw hc=>ld1 ha (hc.2)) hC λa ha=>?_
 refine RH 0 ha hs hH hC λa ha=>?_
 refine SS ha (ld1 ha (hC.1 7 _ rfl)) λa ha=>?_
 rw[show cf.branches=(nb:Int) from by rw[hcf]]at ha
 refine RH 0 ha hs hH hC λa ha=>?_
 refine CL1 0 ha hs (tree_new (m:=(nb:Int)) hs) λtq a w ha hs=>?_
 rw[show (min (max (nb:Int) 0) 8).toNat=nb from by omega]at hs
 refine ST 2 ha hs (λa w ha hs=>?_)
 refine RN 3 ha hs λa ha=>?_
 refine SS ha (ld1 ha ((hs.rdAll (b:=b3)) 8 _ rfl)) λa ha=>?_
 rw[show cf.workers=(nw:Int) from by rw[hcf]]at ha
 refine RN 1 ha hs λa ha=>?_
 refine wp_loop_ghost (λμ a w=>∃ (ks:List Kx) (adw:Option Addr) (cw:Nat),(μ=nw-ks.length∧ks.length≤nw∧(∀ k∈ks,k.1=wk0))∧Fr a 93 [(3,pt b3),(8,pt B.pb),(10,pt b32),(44,.int .i64 nw),(45,.int .i64 ks.length)]∧St W w (blk b32 177 (muC p ⟨b32,B,sq,r,tq,jq,adw,cw,ad23,c23⟩ ks.length 0 0)::Sl 179 1 adw ks.length cw (ptrs ks)::All (ownK p ad23 c23 tq jq sq) ks::blk b3 28 (cfC cf)::PlainS W B p (newP p cf)::RoP W p ad23 c23::RoP W p adP cP::Tree tq sq ⟨nb,[],0,0⟩::Store sq r ⟨0,4*rm,0,[]⟩::Jobs jq []::L)) (nw) (⟨[],none,0,⟨by simp,by simp,λk hk=>by cases hk⟩,ha.keep [3,8,10,44,45],(show St W w (Sl 179 1 none ([]:List Kx).length 0 (ptrs [])::All (ownK p ad23 c23 tq jq sq) []::blk b32 177 (muC p ⟨b32,B,sq,r,tq,jq,none,0,ad23,c23⟩ ([]:List Kx).length 0 0)::_) from (hs.allNil (f:=ownK p ad23 c23 tq jq sq)).sl0 179 1 none).sub⟩) ?_
 clear ha hs
 rintro μ a w ⟨ks,adw,cw,⟨rfl,hkl,hk0⟩,ha,hs⟩
 refine IF 3 ha hs (λhc1 a ha=>?_) λhc1 a ha=>?_
 ·
  refine DWC 1 (λw0 w'=>Rd w' b32 0 (muC p ⟨b32,B,sq,r,tq,jq,adw,cw,ad23,c23⟩ ks.length 0 0)) [8,12,16,20,21,22] [0,1,2,3,5,6,7,9,10,11,13,14,15,17,18,19,3004,3008,3012,3016,1020,1021,1022,1023,24,25,1026] ha hs λa w ha hs hH=>?_
  have hC:=hH.at w (hs.rdAll (b:=b32))
  refine RH 16 ha hs hH hC λa ha=>?_
  refine QH ha (λw hc=>ld1 ha (hc 6 _ rfl)) hC λa ha=>?_
  refine QH ha (λw hc=>ex_loadN ha Tryz.underlying45 rfl Ty.t45 (muC_pr hc)) hC λa ha=>?_
  refine QH ha (λw hc=>ld1 ha (hc 4 _ rfl)) hC λa ha=>?_
  refine QH ha (λw hc=>ld1 ha (hc 5 _ rfl)) hC λa ha=>?_
  refine RH 0 ha hs hH hC λa ha=>?_
  refine SS ha (ld1 ha (hC 3 _ rfl)) λa ha=>?_
  refine RH 0 ha hs hH hC λa ha=>?_
  refine CL1 0 ha hs (worker_new hs) λwb a w ha hs=>?_
  replace hC:=hH.at w (hs.rdAll (b:=b32))
  refine RH 0 ha hs hH hC λa ha=>?_
  refine st_buildSlice ha rfl hs Tryz.underlying175 Ty.t179 rfl rfl rfl rfl (by decide) (by decide) λb69 a w ha hs ho=>?_
  clear ho
  replace hC:=hH.at w (hs.rdAll (b:=b32))
  refine RH 0 ha hs hH hC λa ha=>?_
  refine st_append ha rfl hs Tryz.underlying175 Ty.t179 rfl rfl hs.rdAll rfl (by simp[Value.oneCell']) (by decide) (by decide) (by omega) λad70 c70 a w ha hs=>?_
  refine ST 2 ha hs (λa w ha hs=>?_)
  have hs5:St W w (blk b32 177 (muC p ⟨b32,B,sq,r,tq,jq,ad70,c70,ad23,c23⟩ (ks++[(wk0,wb)]).length 0 0)::Sl 179 1 ad70 (ks++[(wk0,wb)]).length c70 (ptrs (ks++[(wk0,wb)]))::blk wb 247 (wkC p ad23 c23 tq jq sq wk0)::All (ownK p ad23 c23 tq jq sq) ks::blk b3 28 (cfC cf)::PlainS W B p (newP p cf)::RoP W p ad23 c23::RoP W p adP cP::Tree tq sq ⟨nb,[],0,0⟩::Store sq r ⟨0,4*rm,0,[]⟩::Jobs jq []::L):=by
    have e1:(ks++[(wk0,wb)]).length=ks.length+1:=by simp
    have e2:ptrs (ks++[(wk0,wb)])=ptrs ks++[pt wb]:=by simp[ptrs]
    rw[e1,e2]
    change St W w (blk b32 177 (muC p ⟨b32,B,sq,r,tq,jq,ad70,c70,ad23,c23⟩ (ks.length+1) 0 0)::Sl 179 1 ad70 (ks.length+1) c70 (ptrs ks++[pt wb])::_) at hs
    exact hs.sub
  have hs6:=St.allPush (f:=ownK p ad23 c23 tq jq sq) (x:=(wk0,wb)) (l:=ks) (hs5.sub (M:=blk wb 247 (wkC p ad23 c23 tq jq sq wk0)::All (ownK p ad23 c23 tq jq sq) ks::blk b32 177 (muC p ⟨b32,B,sq,r,tq,jq,ad70,c70,ad23,c23⟩ (ks++[(wk0,wb)]).length 0 0)::Sl 179 1 ad70 (ks++[(wk0,wb)]).length c70 (ptrs (ks++[(wk0,wb)]))::blk b3 28 (cfC cf)::PlainS W B p (newP p cf)::RoP W p ad23 c23::RoP W p adP cP::Tree tq sq ⟨nb,[],0,0⟩::Store sq r ⟨0,4*rm,0,[]⟩::Jobs jq []::L))
  replace hs:=hs6
  clear hs5 hs6
  refine RN 2 ha hs λa ha=>?_
  have hkl2:(ks++[(wk0,wb)]).length=ks.length+1:=by simp
  refine⟨nw-(ks.length+1),by omega,ks++[(wk0,wb)],ad70,c70,⟨by omega,by omega,λk hk=>?_⟩,?_,hs.sub⟩
  · rcases List.mem_append.1 hk with hk | hk
    · exact hk0 k hk
    · rw[List.mem_singleton.1 hk]
  · rw[hkl2];exact ha.keep [3,8,10,44,45]
 refine DWC 1 (λw0 w'=>Rd w' b32 0 (muC p ⟨b32,B,sq,r,tq,jq,adw,cw,ad23,c23⟩ ks.length 0 0)) [6] [0,1,2,3,5,3004,1006,1007,8,9,10,11,12,1013] ha hs λa w ha hs hH=>?_
 have hC:=hH.at w (hs.rdAll (b:=b32))
 refine RH 5 ha hs hH hC λa ha=>?_
 refine QH ha (λw hc=>ld1 ha (hc 3 _ rfl)) hC λa ha=>?_
 refine RH 0 ha hs hH hC λa ha=>?_
 refine CL 0 ha hs (plain_game (hs.pick (PlainS W B p (newP p cf)))) λa w ha hs=>?_
 replace hC:=hH.at w (hs.rdAll (b:=b32))
 refine RH 0 ha hs hH hC λa ha=>?_
 refine CL1 0 ha hs (snap_make (g:=(newP p cf).g) (hs.store sq) (by simp[Sn.used,cnt_none];omega) (by simp)) λt a w ha ⟨⟨ht1,ht2⟩,hs⟩=>?_
 refine ST 5 ha hs (λa w ha hs=>?_)
 refine RN 3 ha hs λa ha=>?_
 refine SS ha (ld1 ha ((hs.rdAll (b:=b3)) 3 _ rfl)) λa ha=>?_
 rw[show cf.delay=(delay:Int) from by rw[hcf]]at ha
 refine ST 2 ha hs (λa w ha hs=>?_)
 change St W w (blk b32 177 (muC p ⟨b32,B,sq,r,tq,jq,adw,cw,ad23,c23⟩ ks.length 1 delay)::_) at hs
 refine RT 4 ha hs ?_
 obtain rfl:ks.length=nw:=by omega
 have hs9:=MuS.fold hs ⟨b32,B,sq,r,tq,jq,adw,cw,ad23,c23⟩ p ⟨newP p cf,(⟨0,4*rm,0,[]⟩:Sn).add (newP p cf).g t,⟨nb,[],0,0⟩,[],ks,1,delay⟩
 refine⟨⟨b32,B,sq,r,tq,jq,adw,cw,ad23,c23⟩,⟨newP p cf,(⟨0,4*rm,0,[]⟩:Sn).add (newP p cf).g t,⟨nb,[],0,0⟩,[],ks,1,delay⟩,rfl,⟨hBg,rfl,?_,rfl,rfl,hk0⟩,hs9.sub⟩
 obtain⟨ps,ev,mr,hk⟩:∃ ps ev mr,(newP p cf).k={ newK cf with ps:=ps,ev:=ev,mr:=mr }:=(newP_ok (p:=p) (c:=cf) (by rw[hcf];exact hm)).playP.2.2
 have hw9:WF' p (newP p cf):=WF'.new (by rw[hcf];exact hm)
 have hfd:frontK (newP p cf).k=delay:=by
   obtain⟨l,hl1,hl2⟩:=frontL_some hw9.wc.lne
   rw[frontK,hl2]
   rw[hk]at hl1
   have hl3:l∈List.replicate cf.n.toNat (List.replicate cf.delay.toNat 0):=hl1
   rw[(List.mem_replicate.1 hl3).2,List.length_replicate,hcf];rfl
 have hid:∀ k∈ks.map (·.1),k=wk0:=λk hk=>by
   obtain⟨y,hy,rfl⟩:=List.mem_map.1 hk
   exact hk0 y hy
 exact { wf:=hw9,gs:=by rw[hBg];exact hgs,front:=hfd.symm,brs:=λy hy=>(by cases hy),J:=by simp,most:=by rw[hk,hcf];rfl,workers:=by rw[hk,hcf];rfl,ks:=by dsimp only;omega,room:=⟨by rw[hk,hcf];simp only[Sn.add,newK];omega,by simp only[Sn.add];omega⟩,n:=⟨Nat.le_refl _,Nat.zero_le _,Nat.zero_le _⟩,inv:=⟨t,by
   refine⟨?_,λx hx=>?_,λx hx _=>?_,λy hy=>(by cases hy),λk hk=>?_⟩
   · rw[heldW_none (λk hk=>by rw[hid k hk];rfl)]
     exact List.Perm.refl _
   · rw[List.mem_singleton.1 hx];exact⟨rfl,hw9.gok hpr⟩
   · rw[List.mem_singleton.1 hx];exact⟨rfl,rfl⟩
   · rw[hid k hk];exact⟨Int.le_refl _,λh=>(by cases h)⟩⟩ }
end
end
section
open Go.RowKit Go.ChangeShapes Go.WideShapes Go.ChangeAt
set_option linter.constructorNameAsVariable false
set_option maxRecDepth 100000
section
variable {W w:World}{L:List SP}{n cP cT:Nat}{adP adT:Option Addr}{p:Pr}{tb:List UInt8}{cf:Cf}
def mayAll (cf:Cf)(p:Pr)(tb:List UInt8):Prop:=mayCf cf∧prOk p∧mayGs ⟨cf.guess,cf.order,tb⟩
theorem plain_newX (hs:St W w (RoP W p adP cP::L))(hn:tb.length=n)(hsz:p.title.size≤1000000000)(hol:p.ops.length≤1000000000)(htl:tb.length≤1099511627776)(hT:∀ w',St W w' (RoP W p adP cP::L)→RdB w' adT tb.length tb) :
   Calls Tryz.prog 60 #[.agg (cfC cf).toArray,.agg (prV p adP cP).toArray,.slice adT n cT] w λr w'=>(mayAll cf p tb∧∃ B:PlB,r=.returned (.tuple #[pt B.pb,.int .i64 0])∧B.gs=⟨cf.guess,cf.order,tb⟩∧St W w' (PlainS W B p (newP p cf)::RoP W p adP cP::L)) ∨
     (¬ mayAll cf p tb∧r=.returned (.tuple #[.pointer none,.int .i64 1])∧St W w' (RoP W p adP cP::L)):=by
 subst hn
 by_cases h1:mayCf cf
 · obtain⟨n,me,delay,window,hcf⟩:=mayCf_nat h1
   generalize hg:cf.guess=guess at hcf
   generalize ho:cf.order=order at hcf
   by_cases h2:prOk p∧mayGs ⟨guess,order,tb⟩
   · have hma:mayAll cf p tb:=⟨h1,h2.1,by rw[hg,ho];exact h2.2⟩
     rw[hcf]at h1 hma ⊢
     exact (plain_new (adT:=adT) (cT:=cT) hs h1 h2.1 h2.2 hsz hol htl hT).mono λr w' ⟨B,h3,h4,h5⟩=>.inl ⟨hma,B,h3,h4,h5⟩
   · have hma:¬ mayAll cf p tb:=λh=>h2 ⟨h.2.1,by have:=h.2.2;rw[hg,ho]at this;exact this⟩
     rw[hcf]at h1 hma ⊢
     exact (plain_new_no2 (adT:=adT) (cT:=cT) hs h1 h2 hsz hol htl hT).mono λr w' ⟨h3,h4⟩=>.inr ⟨hma,h3,h4⟩
 · exact (plain_new_no1 (adT:=adT) (cT:=cT) hs h1 htl hT).mono λr w' ⟨h3,h4⟩=>.inr ⟨λh=>h1 h.1,h3,h4⟩
end
end
section
def MuJ (W:World)(M:MuB)(p:Pr)(cf:Cf)(i:Nat)(s:Pl):SP:=λh=>∃ m:Mu,(m.s=s∧MI p M (20*i+1) m∧ksCf s.k=cf)∧MuS W M p m h
section
variable {W w:World}{L:List SP}{n c i N cP cT:Nat}{adP adT:Option Addr}{M:MuB}{x:UInt8}{p:Pr}{s:Pl}{m:Mu}{bs tb:List UInt8}{cf:Cf}{y:Int}
theorem MuJ.open (hs:St W w (MuJ W M p cf i s::L)):∃ m:Mu,(m.s=s∧MI p M (20*i+1) m∧ksCf s.k=cf)∧St W w (MuS W M p m::L):=hs.exi λ_ h=>h
theorem MuJ.close (hs:St W w (MuS W M p m::L))(h:MI p M N m)(hN:N≤20*i+1)(hm:m.s=s)(hc:ksCf s.k=cf):St W w (MuJ W M p cf i s::L) :=
 St.shut (M:=MuL W M p m) (MuS.open hs) λ_ q=>⟨m,⟨hm,h.more hN,hc⟩,q⟩
theorem mu_play (hpr:prOk p)(hsz:p.title.size≤1000000000):PlayS W 78 ⟨M.mb,0,none⟩ 267 269 270 268 266 264 265 101 p M.B.gs (MuJ W M p cf) where
 mP:=λad w=>by kernel_rfl
 cP:=(by kernel_rfl)
 mR:=λad w=>by kernel_rfl
 cR:=(by kernel_rfl)
 mT:=λad w=>by kernel_rfl
 cT:=(by kernel_rfl)
 mQ:=λad w=>by kernel_rfl
 cQ:=(by kernel_rfl)
 mE:=λad w=>by kernel_rfl
 cE:=(by kernel_rfl)
 mC:=λad w=>by kernel_rfl
 cC:=(by kernel_rfl)
 mD:=λad w=>by kernel_rfl
 cD:=(by kernel_rfl)
 mX:=λad w=>by kernel_rfl
 cX:=(by kernel_rfl)
 press:=λw L i s x hi hw hs=>by
   replace hs:=MuJ.open hs
   obtain⟨m,⟨rfl,hI,hc⟩,hs⟩:=hs
   exact (mu_press (x:=x) hs hI hpr hsz (by omega)).mono λr w' ⟨m',h1,⟨h2,h3,_⟩,hs⟩=>⟨h1,MuJ.close hs h3 (by omega) h2 ((Nxt.press hI.wf x).cf.trans hc)⟩
 recv:=λw L i s bs a c hi hw hb hc hp hs=>by
   replace hs:=MuJ.open hs
   obtain⟨m,⟨rfl,hI,hcf⟩,hs⟩:=hs
   exact (mu_receive hs hI hpr hsz (by omega) hb hc hp).mono λr w' ⟨m',h1,⟨h2,h3⟩,hs⟩=>⟨h1,MuJ.close hs h3 (by omega) h2 ((Nxt.recv hI.wf bs).cf.trans hcf)⟩
 tick:=λw L i s hi hw hn hs=>by
   replace hs:=MuJ.open hs
   obtain⟨m,⟨rfl,hI,hc⟩,hs⟩:=hs
   exact (mu_tick hs hI hn).mono λr w' ⟨a,c,h1,h2,hs⟩=>⟨a,c,h1,(MuJ.close (hs.perm (List.Perm.swap _ _ _)) h2 (by omega) rfl ((tick_cf _).trans hc)).perm (List.Perm.swap _ _ _)⟩
 quit:=λw L i s hi hw hs=>by
   replace hs:=MuJ.open hs
   obtain⟨m,⟨rfl,hI,hc⟩,hs⟩:=hs
   exact (mu_quit hs hI).mono λr w' ⟨a,c,h1,h2,hs⟩=>⟨a,c,h1,(MuJ.close (hs.perm (List.Perm.swap _ _ _)) h2 (by omega) rfl ((quit_cf _).trans hc)).perm (List.Perm.swap _ _ _)⟩
 events:=λw L i s hi hw hs=>by
   replace hs:=MuJ.open hs
   obtain⟨m,⟨rfl,hI,hc⟩,hs⟩:=hs
   exact (mu_events hs hI).mono λr w' ⟨a,c,h1,h2,hs⟩=>⟨a,c,h1,(MuJ.close (hs.perm (List.Perm.swap _ _ _)) h2 (by omega) rfl hc).perm (List.Perm.swap _ _ _)⟩
 conf:=λw L i s hi hw hs=>by
   replace hs:=MuJ.open hs
   obtain⟨m,⟨rfl,hI,hc⟩,hs⟩:=hs
   exact (mu_confirmed hs hI).mono λr w' ⟨a,c,h1,hs⟩=>⟨a,c,h1,(MuJ.close (hs.perm (List.Perm.swap _ _ _)) hI (Nat.le_refl _) rfl hc).perm (List.Perm.swap _ _ _)⟩
 disp:=λw L i s hi hw hs=>by
   replace hs:=MuJ.open hs
   obtain⟨m,⟨rfl,hI,hc⟩,hs⟩:=hs
   exact (mu_display hs hI hpr hsz).mono λr w' ⟨a,c,h1,hs⟩=>⟨a,c,h1,(MuJ.close (hs.perm (List.Perm.swap _ _ _)) hI (Nat.le_refl _) rfl hc).perm (List.Perm.swap _ _ _)⟩
 closed:=λw L i s hi hw hs=>by
   replace hs:=MuJ.open hs
   obtain⟨m,⟨rfl,hI,hc⟩,hs⟩:=hs
   exact (mu_closed hs).mono λr w' ⟨h1,hs⟩=>⟨h1,MuJ.close hs hI (Nat.le_refl _) rfl hc⟩
theorem mu_workJ (hs:St W w (MuJ W M p cf i s::L))(hpr:prOk p)(hsz:p.title.size≤1000000000)(hi:i≤1000000) :
   Calls Tryz.prog 62 #[pt M.mb,.int .i64 y] w λe w'=>∃ z:Bool,e=.returned (.bool z)∧(z=true→s.k.cl=false∧0≤y∧y<s.k.workers)∧St W w' (MuJ W M p cf (i+1) s::L):=by
 replace hs:=MuJ.open hs
 obtain⟨m,⟨rfl,hI,hc⟩,hs⟩:=hs
 have h4:=hI.ks
 by_cases hn:m.s.k.cl=true∨y<0∨(m.ks.length:Int)≤y
 · exact (mu_work_no hs hn h4).mono λe w' ⟨h1,hs⟩=>⟨false,h1,λh=>(by cases h),MuJ.close hs hI (by omega) rfl hc⟩
 · have hcl : m.s.k.cl = false := by
     cases h:m.s.k.cl with
     | false=>rfl
     | true=>exact absurd (.inl h) hn
   have hy:0≤y∧y<(m.ks.length:Int):=⟨by
     rcases Int.lt_or_le y 0 with h | h
     · exact absurd (.inr (.inl h)) hn
     · exact h,by
     rcases Int.lt_or_le y (m.ks.length:Int) with h | h
     · exact h
     · exact absurd (.inr (.inr h)) hn⟩
   obtain⟨j,rfl⟩:=Int.eq_ofNat_of_zero_le hy.1
   obtain⟨⟨k,wb⟩,hk⟩:∃ z,m.ks[j]?=some z:=⟨_,List.getElem?_eq_getElem (by omega)⟩
   exact (mu_work hs hI hcl hk hpr hsz (by omega)).mono λe w' ⟨z,A',T',J',k',h1,⟨_,h2⟩,hs⟩=>⟨z,h1,λ_=>⟨hcl,hy.1,by rw[hI.workers];exact hy.2⟩,MuJ.close hs h2 (by omega) rfl hc⟩
theorem mayCf_nat3 (h:mayCf cf):∃ n me delay window nb nw rm:Nat,cf=⟨n,me,cf.id,delay,window,cf.guess,cf.order,nb,nw,rm⟩:=by
 obtain⟨n,me,id,delay,window,guess,order,branches,workers,room⟩:=cf
 simp only[mayCf,inI]at h
 obtain⟨⟨h1,h2,h3⟩,⟨h4,h5,h6,h7⟩,h8,h9,h10,h11⟩:=h
 exact⟨n.toNat,me.toNat,delay.toNat,window.toNat,branches.toNat,workers.toNat,room.toNat,by
   simp only[Cf.mk.injEq];refine⟨?_,?_,?_,?_,?_,?_,?_,?_,?_,?_⟩ <;> first | trivial | omega⟩
theorem newP_cf (h:mayCf cf):ksCf (newP p cf).k=cf:=by
 obtain⟨ps,ev,mr,hk⟩:∃ ps ev mr,(newP p cf).k={ newK cf with ps:=ps,ev:=ev,mr:=mr }:=(newP_ok (p:=p) (c:=cf) h).playP.2.2
 rw[hk];exact (WC.new h).2.2
theorem mu_newY (hma:mayAll cf p tb)(hs:St W w (RoP W p adP cP::L))(hn:tb.length=n)(hsz:p.title.size≤1000000000)(hol:p.ops.length≤1000000000)(htl:tb.length≤1099511627776)(hT:∀ w',St W w' (RoP W p adP cP::L)→RdB w' adT tb.length tb) :
   Calls Tryz.prog 59 #[.agg (cfC cf).toArray,.agg (prV p adP cP).toArray,.slice adT n cT] w λr w'=>∃ M:MuB,r=.returned (.tuple #[pt M.mb,.int .i64 0])∧M.B.gs=⟨cf.guess,cf.order,tb⟩∧St W w' (MuJ W M p cf 0 (newP p cf)::RoP W p adP cP::L):=by
 subst hn
 obtain⟨h1,h2,h3⟩:=hma
 have hcf0:=newP_cf (p:=p) h1
 obtain⟨n,me,delay,window,nb,nw,rm,hcf⟩:=mayCf_nat3 h1
 generalize cf.guess=guess at hcf h3 ⊢
 generalize cf.order=order at hcf h3 ⊢
 generalize cf.id=id at hcf
 rw[hcf]at h1 hcf0 ⊢
 exact (mu_new (adT:=adT) (cT:=cT) hs h1 h2 h3 hsz hol htl hT).mono λr w' ⟨M,m,h4,⟨h5,h6,h7,_⟩,hs⟩=>⟨M,h4,h5,MuJ.close hs h7 (by omega) h6 hcf0⟩
theorem mu_newN (hma:¬ mayAll cf p tb)(hs:St W w (RoP W p adP cP::L))(hn:tb.length=n)(hsz:p.title.size≤1000000000)(hol:p.ops.length≤1000000000)(htl:tb.length≤1099511627776)(hT:∀ w',St W w' (RoP W p adP cP::L)→RdB w' adT tb.length tb) :
   Calls Tryz.prog 59 #[.agg (cfC cf).toArray,.agg (prV p adP cP).toArray,.slice adT n cT] w λr w'=>r=.returned (.tuple #[.pointer none,.int .i64 1])∧St W w' (RoP W p adP cP::L):=by
 subst hn
 by_cases h1:mayCf cf
 · obtain⟨n,me,delay,window,hcf⟩:=mayCf_nat h1
   generalize hg:cf.guess=guess at hcf
   generalize ho:cf.order=order at hcf
   have h2:¬ (prOk p∧mayGs ⟨guess,order,tb⟩):=λh=>hma ⟨h1,h.1,by rw[hg,ho];exact h.2⟩
   rw[hcf]at h1 ⊢
   exact mu_new_no2 (adT:=adT) (cT:=cT) hs h1 h2 hsz hol htl hT
 · exact mu_new_no1 (adT:=adT) (cT:=cT) hs h1 htl hT
end
end
section
def cB (l:List Pic)(j:Nat):Int:=if j=0 then 0 else (cnt l (j-1):Nat)
end
section
section
variable {W w:World}{L:List SP}{c i cP cT:Nat}{p:Pr}{s:Pl}{B:PlB}
theorem plain_play (hpr:prOk p)(hsz:p.title.size≤1000000000)(hgs:mayGs B.gs):PlayS W 139 ⟨B.pb,0,none⟩ 282 284 285 283 281 273 276 141 p B.gs (λ_ s=>PlainS W B p s) where
 mP:=λad w=>by kernel_rfl
 cP:=(by kernel_rfl)
 mR:=λad w=>by kernel_rfl
 cR:=(by kernel_rfl)
 mT:=λad w=>by kernel_rfl
 cT:=(by kernel_rfl)
 mQ:=λad w=>by kernel_rfl
 cQ:=(by kernel_rfl)
 mE:=λad w=>by kernel_rfl
 cE:=(by kernel_rfl)
 mC:=λad w=>by kernel_rfl
 cC:=(by kernel_rfl)
 mD:=λad w=>by kernel_rfl
 cD:=(by kernel_rfl)
 mX:=λad w=>by kernel_rfl
 cX:=(by kernel_rfl)
 press:=λw L i s x _ hw hs=>plain_press hs hw hpr hsz
 recv:=λw L i s bs a c _ hw hb hc hp hs=>plain_receive hs hw hpr hsz hb hc hp
 tick:=λw L i s _ hw hn hs=>plain_tick hs hw hn
 quit:=λw L i s _ hw hs=>plain_quit hs hw
 events:=λw L i s _ hw hs=>plain_events hs
 conf:=λw L i s _ hw hs=>plain_confirmed hs hw
 disp:=λw L i s _ hw hs=>plain_display hs hw hpr hsz hgs
 closed:=λw L i s _ hw hs=>plain_closed hs
end
end
section
inductive PbZ where
 | mu (M:MuB)
 | pl (B:PlB)
structure PbX where
 cf:Cf
 z:PbZ
def PbZ.t:PbZ→TypeId
 | .mu _=>78
 | .pl _=>139
def PbZ.ad:PbZ→Addr
 | .mu M=>⟨M.mb,0,none⟩
 | .pl B=>⟨B.pb,0,none⟩
def PbZ.gs:PbZ→Gs
 | .mu M=>M.B.gs
 | .pl B=>B.gs
def PbZ.f (a b:FuncId):PbZ→FuncId
 | .mu _=>a
 | .pl _=>b
def PbX.J (W:World)(p:Pr)(x:PbX)(i:Nat)(s:Pl):SP:=match x.z with
 | .mu M=>MuJ W M p x.cf i s
 | .pl B=>PlainS W B p s
def Tryz.fP (z:PbZ):=z.f 267 282
def Tryz.fR (z:PbZ):=z.f 269 284
def Tryz.fT (z:PbZ):=z.f 270 285
def Tryz.fQ (z:PbZ):=z.f 268 283
def Tryz.fE (z:PbZ):=z.f 266 281
def Tryz.fC (z:PbZ):=z.f 264 273
def Tryz.fD (z:PbZ):=z.f 265 276
def Tryz.fX (z:PbZ):=z.f 101 141
abbrev plv (x:PbX×Pl):Value:=.iface x.1.z.t (.pointer (some x.1.z.ad))
def plX (W:World)(p:Pr)(c:Nat)(x:PbX×Pl):SP:=x.1.J W p c x.2
abbrev Evx:=Option Addr×Nat×List Evt
abbrev evs (x:Evx):Value:=.slice x.1 x.2.2.length x.2.1
def evo (x:Evx):SP:=Sl 135 1 x.1 x.2.2.length x.2.1 (x.2.2.map evV)
structure MatB where
 mb:Nat
 q:Nat
 pls:List PbX
structure MatA where
 adL:Option Addr
 cL:Nat
 adE:Option Addr
 cE:Nat
 xs:List (PbX×Pl)
 es:List Evx
def nCast (m:Ml):NMm:=((m.1:Int),(m.2.1:Int),m.2.2)
abbrev matC (B:MatB)(A:MatA):List Value:=[.slice A.adL A.xs.length A.cL,pt B.q,.slice A.adE A.es.length A.cE]
structure MatA.Ok (A:MatA)(B:MatB)(v:Wd):Prop where
 pls:A.xs.map (·.1)=B.pls
 ps:A.xs.map (·.2)=v.ps
 ev:A.es.map (·.2.2)=v.ev
def MatS (W:World)(B:MatB)(p:Pr)(c:Nat)(v:Wd):SP:=λh=>∃ A:MatA,A.Ok B v ∧
 sepL [blk B.mb 107 (matC B A),Sl 81 1 A.adL A.xs.length A.cL (A.xs.map plv),All (plX W p c) A.xs,NetQ B.q (v.net.map nCast),Sl 90 1 A.adE A.es.length A.cE (A.es.map evs),All evo A.es] h
section
variable {W w:World}{L R:List SP}{n c i:Nat}{ad adE:Option Addr}{p:Pr}{B:MatB}{A:MatA}{v:Wd}{x:PbX}{s:Pl}{y:Int}
theorem PbX.play (x:PbX)(hpr:prOk p)(hsz:p.title.size≤1000000000)(hgs:mayGs x.z.gs):PlayS W x.z.t x.z.ad (Tryz.fP x.z) (Tryz.fR x.z) (Tryz.fT x.z) (Tryz.fQ x.z) (Tryz.fE x.z) (Tryz.fC x.z) (Tryz.fD x.z) (Tryz.fX x.z) p x.z.gs (x.J W p):=by
 obtain⟨cf,z⟩:=x
 cases z with
 | mu M=>exact mu_play hpr hsz
 | pl B=>exact plain_play hpr hsz hgs
theorem PbX.more {j:Nat}(x:PbX)(h:i≤j):∀ hp,x.J W p i s hp→x.J W p j s hp:=by
 obtain⟨cf,z⟩:=x
 cases z with
 | mu M=>exact λhp ⟨m,⟨h1,h2,h3⟩,h4⟩=>⟨m,⟨h1,h2.more (by omega),h3⟩,h4⟩
 | pl B=>exact λhp h=>h
theorem sepL_mono {α:Type}{f g:α→SP}(k:∀ x h,f x h→g x h):∀ {l:List α} {h:Hp},sepL (l.map f) h→sepL (l.map g) h
 | [],_,h=>h
 | _::l,_,⟨h1,h2,d,a,b,p,q⟩=>⟨h1,h2,d,a,b,k _ _ p,sepL_mono k q⟩
theorem St.imp1 {A A':SP}(hs:St W w (A::L))(k:∀ h,A h→A' h):St W w (A'::L):=⟨hs.below,let ⟨h,p,h1,h2,d,a,b,x,y⟩:=hs.sat;⟨h,p,h1,h2,d,a,b,k _ x,y⟩⟩
theorem St.plMore {xs:List (PbX×Pl)}{d:Nat}(hs:St W w (All (plX W p c) xs::L))(h:c≤d):St W w (All (plX W p d) xs::L) :=
 hs.imp1 λ_ h1=>sepL_mono (λx h2 h3=>x.1.more h h2 h3) h1
theorem MatS.open (hs:St W w (MatS W B p c v::L)):∃ A:MatA,A.Ok B v∧St W w (blk B.mb 107 (matC B A)::Sl 81 1 A.adL A.xs.length A.cL (A.xs.map plv)::All (plX W p c) A.xs::NetQ B.q (v.net.map nCast)::Sl 90 1 A.adE A.es.length A.cE (A.es.map evs)::All evo A.es::L):=by
 obtain⟨A,h1,hs⟩:=hs.exi (ι:=MatA) (p:=λA=>A.Ok B v) (B:=λA h=>sepL [blk B.mb 107 (matC B A),Sl 81 1 A.adL A.xs.length A.cL (A.xs.map plv),All (plX W p c) A.xs,NetQ B.q (v.net.map nCast),Sl 90 1 A.adE A.es.length A.cE (A.es.map evs),All evo A.es] h) λ_ h=>h
 exact⟨A,h1,hs.open (M:=[_,_,_,_,_,_]) λ_ h=>h⟩
theorem MatS.fold (hs:St W w L)(B:MatB)(p:Pr)(c:Nat)(v:Wd)(A:MatA)(h:A.Ok B v)[kk:Arr L [blk B.mb 107 (matC B A),Sl 81 1 A.adL A.xs.length A.cL (A.xs.map plv),All (plX W p c) A.xs,NetQ B.q (v.net.map nCast),Sl 90 1 A.adE A.es.length A.cE (A.es.map evs),All evo A.es] R]:St W w (MatS W B p c v::R) :=
 St.shut (M:=[_,_,_,_,_,_]) (hs.perm kk.perm) λ_ h1=>⟨A,h,h1⟩
theorem run_equalIn_N {P:Program}{t:TypeId} {ms}(ht:P.underlying t=some (.interface ms))(k:Nat):(Op.equalIn (k+1) t .nilIface .nilIface).run P w=.ok true w:=by
 simp[Op.equalIn,run_underlying ht]
theorem ex_eqnilN {P:Program}{a:Act}{l:List (Nat×Value)} {x t ms u dst ty ps af g}(ha:Fr a n l)(ht:P.underlying t=some (.interface ms))[e:Ev l x .nilIface] :
   (execOp a.eval ⟨dst,.binOp .eql t x (.const .nilIface) u,ty,ps,af,g⟩).run P w=.ok (.value (.bool true)) w:=by
 have hc:a.eval (.const .nilIface)=.nilIface:=rfl
 have h2:(Op.equal t .nilIface .nilIface).run P w=.ok true w:=run_equalIn_N ht 9999
 simp only[execOp,e.ev a n ha,hc,Sem.run_bind]
 simp[eqGuard,binOp,h2]
theorem ex_assert {P:Program}{a:Act}{l:List (Nat×Value)} {x t u ok dst ty ps af g}{z z2:Value}(ha:Fr a n l)(h:(Instr.typeAssert z t u ok).run P w=.ok z2 w)[e:Ev l x z] :
   (execOp a.eval ⟨dst,.typeAssert x t u ok,ty,ps,af,g⟩).run P w=.ok (.value z2) w:=by
 simp[execOp,e.ev a n ha,h]
end
end
section
def PbZ.mul:PbZ→Value
 | .mu M=>pt M.mb
 | .pl _=>.pointer none
section
variable {W w:World}{L:List SP}{n cL mb i:Nat}{ad:Option Addr}{B:MatB}{y:Int}{x2 x3:Value}{xs:List (PbX×Pl)}
theorem mt_player_out (hs:St W w (blk mb 107 [.slice ad n cL,x2,x3]::L))(hy:y<0∨(n:Int)≤y):Calls Tryz.prog 28 #[pt mb,.int .i64 y] w λe w'=>e=.returned .nilIface∧St W w' (blk mb 107 [.slice ad n cL,x2,x3]::L):=by
 refine EN Tryz.func28 Tryz.ntmps28 rfl rfl λa ha=>?_
 refine RN 7 ha hs λa ha=>?_
 replace ha:=ha.isF 7
 refine BY 4 ha hs (λhg6 a ha=>?_) λhg6 a ha=>?_
 ·
  refine RT 11 ha hs ?_
  exact⟨rfl,hs⟩
 refine RN 8 ha hs λa ha=>?_
 rw[decide_eq_true (by omega)]at ha
 refine RT 3 ha hs ?_
 exact⟨rfl,hs⟩
theorem mt_player_in (hs:St W w (blk mb 107 [.slice ad xs.length cL,x2,x3]::Sl 81 1 ad xs.length cL (xs.map plv)::L))(hi:i<xs.length):Calls Tryz.prog 28 #[pt mb,.int .i64 i] w λe w'=>e=.returned (plv xs[i])∧St W w' (blk mb 107 [.slice ad xs.length cL,x2,x3]::Sl 81 1 ad xs.length cL (xs.map plv)::L):=by
 refine EN Tryz.func28 Tryz.ntmps28 rfl rfl λa ha=>?_
 refine RN 7 ha hs λa ha=>?_
 replace ha:=ha.isF 7
 refine RN 4 ha hs λa ha=>?_
 rw[decide_eq_false (by omega)]at ha
 refine RN 8 ha hs λa ha=>?_
 rw[decide_eq_false (by omega)]at ha
 refine RN 2 ha hs λa ha=>?_
 obtain⟨b,o,rfl,hr⟩:=(hs.pick (Sl 81 1 ad xs.length cL (xs.map plv))).slRd ad (by omega)
 have hr1:=hr i (plv xs[i]) (by rw[List.getElem?_map,List.getElem?_eq_getElem hi];rfl)
 refine RN 6 ha hs λa ha=>?_
 refine SS ha (ld1 ha (hr1)) λa ha=>?_
 refine RT 1 ha hs ?_
 exact⟨rfl,hs.sub⟩
theorem PbZ.assert (z:PbZ)(w:World):(Instr.typeAssert (.iface z.t (.pointer (some z.ad))) 81 78 true).run Tryz.prog w=.ok (.tuple #[z.mul,.bool (match z with | .mu _=>true | .pl _=>false)]) w:=by
 cases z with
 | mu M=>kernel_rfl
 | pl B=>kernel_rfl
theorem mt_multi_in (hs:St W w (blk mb 107 [.slice ad xs.length cL,x2,x3]::Sl 81 1 ad xs.length cL (xs.map plv)::L))(hi:i<xs.length):Calls Tryz.prog 27 #[pt mb,.int .i64 i] w λe w'=>e=.returned xs[i].1.z.mul∧St W w' (blk mb 107 [.slice ad xs.length cL,x2,x3]::Sl 81 1 ad xs.length cL (xs.map plv)::L):=by
 have has:=xs[i].1.z.assert
 cases hz:xs[i].1.z with
 | mu M =>
   rw[hz]at has
   refine EN Tryz.func27 Tryz.ntmps27 rfl rfl λa ha=>?_
   refine CL 5 ha hs (mt_player_in hs hi) λa w ha hs=>?_
   rw[show plv xs[i]=.iface (PbZ.mu M).t (.pointer (some (PbZ.mu M).ad)) from by rw[← hz]]at ha
   refine RN 0 ha hs λa ha=>?_
   refine SK (st_set ha rfl (ex_assert ha (has w)) rfl ?_);clear ha a;intro a ha
   refine RN 9 ha hs λa ha=>?_
   replace ha:=ha.isF 15
   refine RT 4 ha hs ?_
   exact⟨rfl,hs⟩
 | pl B =>
   rw[hz]at has
   refine EN Tryz.func27 Tryz.ntmps27 rfl rfl λa ha=>?_
   refine CL 5 ha hs (mt_player_in hs hi) λa w ha hs=>?_
   rw[show plv xs[i]=.iface (PbZ.pl B).t (.pointer (some (PbZ.pl B).ad)) from by rw[← hz]]at ha
   refine RN 0 ha hs λa ha=>?_
   refine SK (st_set ha rfl (ex_assert ha (has w)) rfl ?_);clear ha a;intro a ha
   refine RN 9 ha hs λa ha=>?_
   replace ha:=ha.isT 15
   refine RT 3 ha hs ?_
   exact⟨rfl,hs⟩
theorem mt_net (hs:St W w (blk mb 107 [x2,pt i,x3]::L)):Calls Tryz.prog 22 #[pt mb] w λe w'=>e=.returned (pt i)∧St W w' (blk mb 107 [x2,pt i,x3]::L):=by
 refine EN Tryz.func22 Tryz.ntmps22 rfl rfl λa ha=>?_
 refine RN 6 ha hs λa ha=>?_
 replace ha:=ha.isF 4
 refine RT 7 ha hs ?_
 exact⟨rfl,hs⟩
end
end
section
section
variable {W w:World}{L:List SP}{n c mb i q:Nat}{ad:Option Addr}{v:Wd}{x1 x3:Value}{xs:List (PbX×Pl)}{l net:List Ml}{e:List Evt}
theorem St.allBack {α:Type}{f:α→SP}{l:List α}{i:Nat}(h:i<l.length)(hs:St W w (f l[i]::All f (l.eraseIdx i)::L)):St W w (All f l::L):=by
 have h1:=St.allPut h hs
 rwa [List.set_getElem_self]at h1
theorem evV_ones (l:List Evt):∀ v∈l.map evV,v.oneCell'=true:=by
 intro v hv
 obtain⟨e,_,rfl⟩:=List.mem_map.1 hv
 exact evV_one e
theorem evt_clone (hs:St W w (Sl 135 1 ad e.length c (e.map evV)::L))(hl:e.length≤1000000000):Calls Tryz.prog 57 #[.slice ad e.length c] w λr w'=>∃ ad' c',r=.returned (.slice ad' e.length c')∧St W w' (Sl 135 1 ad' e.length c' (e.map evV)::Sl 135 1 ad e.length c (e.map evV)::L):=by
 cases had:ad with
 | none =>
   subst had
   have h0:e=[]:=by
     rcases Nat.eq_zero_or_pos e.length with h0 | h0
     · exact List.eq_nil_of_length_eq_zero h0
     · obtain⟨b,o,h1,_⟩:=hs.slRd none h0
       cases h1
   subst h0
   refine EN Tryz.func57 Tryz.ntmps57 rfl rfl λa ha=>?_
   refine RN 6 ha hs λa ha=>?_
   replace ha:=ha.isT 4
   refine RT 3 ha hs ?_
   exact⟨_,_,rfl,hs.sl0 _ _ _⟩
 | some a =>
   rw[← had]
   refine EN Tryz.func57 Tryz.ntmps57 rfl rfl λa ha=>?_
   refine RN 6 ha hs λa ha=>?_
   rw[show ad.isNone=false from by rw[had];rfl]at ha
   replace ha:=ha.isF 4
   refine RN 2 ha hs λa ha=>?_
   refine st_buildSlice0 ha rfl hs Tryz.underlying90 Ty.t135 rfl λb5 a w ha hs ho=>?_
   clear ho
   replace hs:St W w (Sl 135 1 (some ⟨b5,0,none⟩) 0 0 []::Sl 135 1 ad e.length c (e.map evV)::L):=hs.tail.sl0 _ _ _
   refine RN 1 ha hs λa ha=>?_
   refine st_appendT ha rfl hs Tryz.underlying90 Ty.t135 rfl rfl (by decide) (λh0=>hs.tail.slRd ad h0) (by rw[List.length_map,Nat.mul_one]) (evV_ones _) (by omega) λad7 c7 a w ha hs=>?_
   rw[List.nil_append,Nat.zero_add]at hs;rw[Nat.zero_add]at ha
   refine RT 1 ha hs ?_
   exact⟨_,_,rfl,hs⟩
theorem nSend {m:Ml}(h:m.2.2.length≤1000):(if nt_maySend (net.map nCast) m.2.2.length then net.map nCast++[nCast m] else net.map nCast)=(sendW net m).map nCast:=by
 have h1:nt_maySend (net.map nCast) m.2.2.length=decide (net.length<300):=by
   rw[nt_maySend,List.length_map,decide_eq_true h,Bool.and_true]
 rw[h1,sendW]
 by_cases h2:net.length<300
 · rw[decide_eq_true h2,if_pos rfl,if_pos h2,List.map_append];rfl
 · rw[decide_eq_false h2,if_neg (by decide),if_neg h2]
theorem mt_goes (hs:St W w (OwnMl 124 ad n c l::NetQ q (net.map nCast)::blk mb 107 [x1,pt q,x3]::L))(hn:n≤1000)(hl:∀ m∈l,m.2.2.length≤1000) :
   Calls Tryz.prog 61 #[pt mb,.slice ad n c] w λe w'=>e=.returned (.int .i64 0)∧St W w' (NetQ q ((sendsW net l).map nCast)::blk mb 107 [x1,pt q,x3]::L):=by
 obtain⟨xs,hxm,hxl,hs⟩:=OwnMl.open hs
 have hxs:xs.length=n:=by rw[← hxl,← hxm,List.length_map]
 subst hxs
 refine EN Tryz.func61 Tryz.ntmps61 rfl rfl λa ha=>?_
 refine RN 7 ha hs λa ha=>?_
 refine wp_loop_ghost (λμ a w=>∃ (i:Nat),(μ=xs.length-i∧i≤xs.length)∧Fr a 20 [(0,pt mb),(7,.slice ad xs.length c),(8,.int .i64 xs.length),(9,.int .i64 i)]∧St W w (NetQ q ((sendsW net (l.take i)).map nCast)::Sl 124 3 ad xs.length c (rows mlC xs)::All mlo xs::blk mb 107 [x1,pt q,x3]::L)) (xs.length) (⟨0,⟨rfl,by omega⟩,ha.keep [0,7,8,9],(show St W w (Sl 124 3 ad xs.length c (rows mlC xs)::All mlo xs::NetQ q ((sendsW net (l.take 0)).map nCast)::_) from hs).sub⟩) ?_
 clear ha hs
 rintro μ a w ⟨i,⟨rfl,hi⟩,ha,hs⟩
 refine IF 3 ha hs (λhc0 a ha=>?_) λhc0 a ha=>?_
 ·
  have hil:i<xs.length:=by omega
  have hil2:i<l.length:=by omega
  refine RN 2 ha hs λa ha=>?_
  obtain⟨bi,oi,rfl,hri⟩:=(hs.pick (Sl 124 3 ad xs.length c (rows mlC xs))).slRd ad (by omega)
  have hrp:=rows_part mlC_len hri (List.getElem?_eq_getElem hil)
  obtain⟨m,hm⟩:∃ m,m=l[i]:=⟨_,rfl⟩
  obtain⟨xa,xc,hx⟩:∃ a c,xs[i]=(a,c,m):=⟨xs[i].1,xs[i].2.1,by
    have h1:(xs.map (·.2.2))[i]?=l[i]?:=by rw[hxm]
    rw[List.getElem?_map,List.getElem?_eq_getElem hil,List.getElem?_eq_getElem hil2]at h1
    have h2:xs[i].2.2=l[i]:=by simpa using h1
    rw[hm,← h2]⟩
  have hml:=hl m (by rw[hm];exact List.getElem_mem _)
  rw[hx]at hrp
  refine RN 1 ha hs λa ha=>?_
  refine SS ha (ex_loadN ha Tryz.underlying124 rfl Ty.t124 (hrp)) λa ha=>?_
  refine AL 0 ha hs λb6 a w ha hs=>?_
  refine SA 0 ha hs λa w ha hs=>?_
  refine DWO 0 [4] [0,1,2,3003,1004,1005] ha hs λa w ha hs hH hC=>?_
  refine RH 5 ha hs hH hC λa ha=>?_
  refine CL 0 ha hs (nt_send_spec (bs:=m.2.2) (hs.pick (NetQ q ((sendsW net (l.take i)).map nCast))) (λw' hw'=>by
    have h1:=(hw'.pick (All mlo xs)).allOut hil
    rw[hx]at h1
    exact St.rdB (L:=mlo (xa,xc,m)::_) h1 _ _ (k:=(PickSl.head:PickSl (Sl 5 1 xa m.2.2.length xc (bc m.2.2)::_) xa _ _ _ _ _ _)) rfl rfl)) λa w ha hs=>?_
  refine RN 0 ha hs λa ha=>?_
  rw[show ((m.1:Int),(m.2.1:Int),m.2.2)=nCast m from rfl,nSend hml,hm,← sendsW_take net hil2]at hs
  refine RN 2 ha hs λa ha=>?_
  exact⟨xs.length-(i+1),by omega,i+1,⟨rfl,by omega⟩,ha.keep [0,7,8,9],hs.sub⟩
 refine RT 2 ha hs ?_
 obtain rfl:i=xs.length:=by omega
 rw[List.take_of_length_le (by omega)]at hs
 exact⟨rfl,hs.sub⟩
end
end
section
abbrev sp4C (s:Sp4):List Value:=[.int .i64 s.fn,.int .i64 s.a,.int .i64 s.b,.int .i64 s.n]
section
variable {W w:World}{L:List SP}{c d cL mb i q:Nat}{ad adE:Option Addr}{p:Pr}{B:MatB}{A:MatA}{v:Wd}{x:PbX}{s s0 s':Pl}{t:Sp4}{y:Int}{net:List Ml}{cf:Cf}
theorem MatA.Ok.at (h:A.Ok B v)(hi:i<v.ps.length):∃ x,A.xs[i]?=some (x,plW v i)∧i<A.xs.length∧B.pls[i]?=some x:=by
 have hl:A.xs.length=v.ps.length:=by rw[← h.ps,List.length_map]
 have hi2:i<A.xs.length:=by omega
 refine⟨A.xs[i].1,?_,hi2,by rw[← h.pls,List.getElem?_map,List.getElem?_eq_getElem hi2];rfl⟩
 rw[List.getElem?_eq_getElem hi2,plW,List.getD_eq_getElem?_getD,← h.ps,List.getElem?_map,List.getElem?_eq_getElem hi2]
 rfl
theorem MatS.out (hs:St W w (All (plX W p c) A.xs::L))(hx:A.xs[i]?=some (x,s)):St W w (x.J W p c s::All (plX W p c) (A.xs.eraseIdx i)::L):=by
 obtain⟨hi,h1⟩:=List.getElem?_eq_some_iff.1 hx
 have h2:=hs.allOut hi
 rw[h1]at h2
 exact h2
theorem MatS.put (hA:A.Ok B v)(hx:A.xs[i]?=some (x,s0))(hcd:c≤d)(net:List Ml)
   (hs:St W w (x.J W p d s'::All (plX W p c) (A.xs.eraseIdx i)::blk B.mb 107 (matC B A)::Sl 81 1 A.adL A.xs.length A.cL (A.xs.map plv)::NetQ B.q (net.map nCast)::Sl 90 1 A.adE A.es.length A.cE (A.es.map evs)::All evo A.es::L)) :
   St W w (MatS W B p d { v with ps:=v.ps.set i s',net:=net }::L):=by
 obtain⟨hi,h1⟩:=List.getElem?_eq_some_iff.1 hx
 have h2:=(hs.pick (All (plX W p c) (A.xs.eraseIdx i))).plMore hcd
 have h3:=St.allPut (f:=plX W p d) (x:=(x,s')) hi (h2.pick (x.J W p d s'))
 have e1:(A.xs.set i (x,s')).map plv=A.xs.map plv:=by
   rw[List.map_set,show plv (x,s')=(A.xs.map plv)[i]'(by rw[List.length_map];exact hi) from by rw[List.getElem_map,h1],List.set_getElem_self]
 have e2:(A.xs.set i (x,s')).length=A.xs.length:=List.length_set ..
 have hA':MatA.Ok { A with xs:=A.xs.set i (x,s') } B { v with ps:=v.ps.set i s',net:=net }:=by
   refine⟨?_,?_,hA.ev⟩
   · show (A.xs.set i (x,s')).map (·.1)=_
     rw[List.map_set,← hA.pls]
     show (A.xs.map (·.1)).set i x=_
     rw[show x=(A.xs.map (·.1))[i]'(by rw[List.length_map];exact hi) from by rw[List.getElem_map,h1],List.set_getElem_self]
   · show (A.xs.set i (x,s')).map (·.2)=v.ps.set i s'
     rw[List.map_set,hA.ps]
 have h4:St W w (All (plX W p d) (A.xs.set i (x,s'))::blk B.mb 107 (matC B { A with xs:=A.xs.set i (x,s') })::Sl 81 1 A.adL (A.xs.set i (x,s')).length A.cL ((A.xs.set i (x,s')).map plv)::NetQ B.q (net.map nCast)::Sl 90 1 A.adE A.es.length A.cE (A.es.map evs)::All evo A.es::L):=by
   simp only[matC,e1,e2]
   exact h3.sub
 exact (MatS.fold h4 B p d { v with ps:=v.ps.set i s',net:=net } { A with xs:=A.xs.set i (x,s') } hA').sub
theorem Sp4.u8 (b:Int):IntKind.u8.wrap b=((bOf b).toNat:Int):=by rw[wrap_u8,bOf_int]
structure MatB.Ok (B:MatB)(p:Pr)(c:Nat):Prop where
 pr:prOk p
 sz:p.title.size≤1000000000
 gs:∀ x∈B.pls,mayGs x.z.gs
 c:c≤1000000
theorem work_nil (hs:St W w L):Calls Tryz.prog 62 #[.pointer none,.int .i64 y] w λe w'=>e=.returned (.bool false)∧St W w' L:=by
 refine EN Tryz.func62 Tryz.ntmps62 rfl rfl λa ha=>?_
 refine RN 7 ha hs λa ha=>?_
 replace ha:=ha.isT 7
 refine RT 19 ha hs ?_
 exact⟨rfl,hs⟩
theorem mt_workX (hs:St W w (All (plX W p c) A.xs::L))(hx:A.xs[i]?=some (x,s))(hpr:prOk p)(hsz:p.title.size≤1000000000)(hc:c≤1000000) :
   Calls Tryz.prog 62 #[x.z.mul,.int .i64 y] w λe w'=>∃ z:Bool,e=.returned (.bool z)∧(z=true→0≤y∧y<s.k.workers∧∃ M,x.z=.mu M)∧St W w' (All (plX W p (c+1)) A.xs::L):=by
 obtain⟨hi,h1⟩:=List.getElem?_eq_some_iff.1 hx
 have h2:=MatS.out hs hx
 obtain⟨cf,z⟩:=x
 cases z with
 | pl B=>exact (work_nil hs).mono λe w' ⟨h,hs⟩=>⟨false,h,(λh=>by cases h),hs.plMore (Nat.le_succ c)⟩
 | mu M =>
   refine (mu_workJ h2 hpr hsz hc).mono λe w' ⟨z,h,h3,hs⟩=>⟨z,h,λhz=>⟨(h3 hz).2.1,(h3 hz).2.2,M,rfl⟩,?_⟩
   have h4:=(hs.pick (All (plX W p c) (A.xs.eraseIdx i))).plMore (Nat.le_succ c)
   refine St.allBack hi ?_
   rw[h1]
   exact h4.pick (MuJ W M p cf (c+1) s)
theorem oneW_press {t:Sp4}(h:t.fn=1)(hti:t.a=i)(hi:i<v.ps.length):oneW p t v=((pressP p (bOf t.b) (plW v i)).1,{ v with ps:=v.ps.set i (pressP p (bOf t.b) (plW v i)).2 }):=by
 rw[oneW,if_neg (by omega),if_pos h,hti,Int.toNat_natCast]
theorem oneW_tick {t:Sp4}(h:t.fn=2)(hti:t.a=i)(hi:i<v.ps.length):oneW p t v=(0,{ v with ps:=v.ps.set i ⟨(tickK (plW v i).k).2,(plW v i).g⟩,net:=sendsW v.net (tickK (plW v i).k).1 }):=by
 rw[oneW,if_neg (by omega),if_neg (by omega),if_pos h,hti,Int.toNat_natCast]
theorem oneW_quit {t:Sp4}(h:t.fn=8)(hti:t.a=i)(hi:i<v.ps.length):oneW p t v=(0,{ v with ps:=v.ps.set i ⟨(quitK (plW v i).k).2,(plW v i).g⟩,net:=sendsW v.net (quitK (plW v i).k).1 }):=by
 rw[oneW,if_neg (by omega),if_neg (by omega),if_neg (by omega),if_pos h,hti,Int.toNat_natCast]
theorem oneW_work {t:Sp4}(h:t.fn=7)(hti:t.a=i)(hi:i<v.ps.length):oneW p t v=(0,v):=by
 rw[oneW,if_neg (by omega),if_neg (by omega),if_neg (by omega),if_neg (by omega)]
theorem mt_one_out (hs:St W w (MatS W B p c v::L))(ha0:t.a<0∨(v.ps.length:Int)≤t.a) :
   Calls Tryz.prog 44 #[pt B.mb,.agg (sp4C t).toArray] w λe w'=>e=.returned (.int .i64 7)∧St W w' (MatS W B p c v::L):=by
 replace hs:=MatS.open hs
 obtain⟨A,hA,hs⟩:=hs
 have hl:A.xs.length=v.ps.length:=by rw[← hA.ps,List.length_map]
 refine EN Tryz.func44 Tryz.ntmps44 rfl rfl λa ha=>?_
 refine BX 1 ha hs λb3 a w ha hs=>?_
 change St W w (blk b3 58 (sp4C t)::_) at hs
 refine CL 5 ha hs (mt_player_out (hs.pick (blk B.mb 107 (matC B A))) (by omega)) λa w ha hs=>?_
 refine RN 4 ha hs λa ha=>?_
 refine SK (st_set ha rfl (ex_eqnilN ha Tryz.underlying81) rfl ?_);clear ha a;intro a ha
 refine RN 0 ha hs λa ha=>?_
 replace ha:=ha.isT 11
 refine RT 3 ha hs ?_
 exact⟨rfl,(MatS.fold hs B p c v A hA).sub⟩
set_option maxHeartbeats 1000000 in
theorem mt_one_in (hs:St W w (MatS W B p c v::L))(hB:B.Ok p c)(hv:WdOk p cf c v)(hi:i<v.ps.length)(hf:t.fn=1∨t.fn=2∨t.fn=8∨t.fn=7)(hti:t.a=i) :
   Calls Tryz.prog 44 #[pt B.mb,.agg (sp4C t).toArray] w λe w'=>∃ z:Int,e=.returned (.int .i64 z)∧(t.fn≠7→z=(oneW p t v).1) ∧
     (t.fn=7→z=7∨(z=0∧0≤t.b∧t.b<(plW v i).k.workers∧∃ x M,B.pls[i]?=some x∧x.z=.mu M))∧St W w' (MatS W B p (c+1) (oneW p t v).2::L):=by
 replace hs:=MatS.open hs
 obtain⟨A,hA,hs⟩:=hs
 obtain⟨x,hx,hix,hxB⟩:=hA.at hi
 obtain⟨_,hxe⟩:=List.getElem?_eq_some_iff.1 hx
 have hM:=x.play (W:=W) (p:=p) hB.pr hB.sz (hB.gs x (List.mem_of_getElem? hxB))
 obtain⟨hw,hcf,hnow⟩:=hv.pl i hi
 have hcc:=hB.c
 have hpv:plv A.xs[i]=.iface x.z.t (.pointer (some x.z.ad)):=by rw[hxe]
 refine EN Tryz.func44 Tryz.ntmps44 rfl rfl λa ha=>?_
 refine BX 1 ha hs λb3 a w ha hs=>?_
 change St W w (blk b3 58 (sp4C t)::_) at hs
 refine RN 5 ha hs λa ha=>?_
 rw[hti]at ha
 refine CL 0 ha hs (mt_player_in ((hs.pick (Sl 81 1 A.adL A.xs.length A.cL (A.xs.map plv))).pick (blk B.mb 107 (matC B A))) hix) λa w ha hs=>?_
 refine RN 1 ha hs λa ha=>?_
 rw[hpv]at ha
 refine RN 4 ha hs λa ha=>?_
 replace ha:=ha.isF 11
 refine IF 8 ha hs (λhc1 a ha=>?_) λhc1 a ha=>?_
 ·
  refine RN 1 ha hs λa ha=>?_
  replace hs:=MatS.out (hs.pick (All (plX W p c) A.xs)) hx
  refine RN 3 ha hs λa ha=>?_
  refine SS ha (ex_convII ha Tryz.underlying3 Tryz.underlying5) λa ha=>?_
  rw[Sp4.u8]at ha
  refine RN 0 ha hs λa ha=>?_
  refine st_callI ha rfl hM.mP hM.cP rfl (hM.press _ _ c (plW v i) (bOf t.b) hcc hw (hs.pick (x.J W p c (plW v i)))) (by rfl) ?_
  clear ha hs
  rintro e w ⟨rfl,hs⟩
  refine⟨_,rfl,λa ha=>?_⟩
  refine RT 1 ha hs ?_
  exact⟨_,rfl,λ_=>by rw[oneW_press (by assumption) hti hi],λh=>by omega,by
    have h1:=MatS.put hA hx (Nat.le_succ c) v.net (hs.sub (M:=x.J W p (c+1) (pressP p (bOf t.b) (plW v i)).2::All (plX W p c) (A.xs.eraseIdx i)::blk B.mb 107 (matC B A)::Sl 81 1 A.adL A.xs.length A.cL (A.xs.map plv)::NetQ B.q (v.net.map nCast)::Sl 90 1 A.adE A.es.length A.cE (A.es.map evs)::All evo A.es::L))
    rw[oneW_press (by assumption) hti hi];exact h1⟩
 refine IF 3 ha hs (λhc2 a ha=>?_) λhc2 a ha=>?_
 ·
  refine RN 1 ha hs λa ha=>?_
  replace hs:=MatS.out (hs.pick (All (plX W p c) A.xs)) hx
  refine RN 2 ha hs λa ha=>?_
  refine st_callI ha rfl hM.mT hM.cT rfl (hM.tick _ _ c (plW v i) hcc hw (by omega) (hs.pick (x.J W p c (plW v i)))) (by rfl) ?_
  clear ha hs
  rintro e w ⟨am,cm,rfl,hs⟩
  refine⟨_,rfl,λa ha=>?_⟩
  refine CL 0 ha hs (mt_goes (((hs.pick (blk B.mb 107 (matC B A))).pick (NetQ B.q (v.net.map nCast))).pick (OwnMl 124 am (tickK (plW v i).k).1.length cm (tickK (plW v i).k).1)) (tick_len hw.wc) (λm hm=>(tick_mails hw.wc m hm).2)) λa w ha hs=>?_
  refine RT 1 ha hs ?_
  exact⟨_,rfl,λ_=>by rw[oneW_tick (by assumption) hti hi],λh=>by omega,by
    have h1:=MatS.put hA hx (Nat.le_succ c) (sendsW v.net (tickK (plW v i).k).1) (hs.sub (M:=x.J W p (c+1) ⟨(tickK (plW v i).k).2,(plW v i).g⟩::All (plX W p c) (A.xs.eraseIdx i)::blk B.mb 107 (matC B A)::Sl 81 1 A.adL A.xs.length A.cL (A.xs.map plv)::NetQ B.q ((sendsW v.net (tickK (plW v i).k).1).map nCast)::Sl 90 1 A.adE A.es.length A.cE (A.es.map evs)::All evo A.es::L))
    rw[oneW_tick (by assumption) hti hi];exact h1⟩
 refine IF 3 ha hs (λhc3 a ha=>?_) λhc3 a ha=>?_
 ·
  refine RN 1 ha hs λa ha=>?_
  replace hs:=MatS.out (hs.pick (All (plX W p c) A.xs)) hx
  refine RN 2 ha hs λa ha=>?_
  refine st_callI ha rfl hM.mQ hM.cQ rfl (hM.quit _ _ c (plW v i) hcc hw (hs.pick (x.J W p c (plW v i)))) (by rfl) ?_
  clear ha hs
  rintro e w ⟨am,cm,rfl,hs⟩
  refine⟨_,rfl,λa ha=>?_⟩
  refine CL 0 ha hs (mt_goes (((hs.pick (blk B.mb 107 (matC B A))).pick (NetQ B.q (v.net.map nCast))).pick (OwnMl 124 am (quitK (plW v i).k).1.length cm (quitK (plW v i).k).1)) (quit_len hw.wc) (λm hm=>(quit_mails hw.wc m hm).2)) λa w ha hs=>?_
  refine RT 1 ha hs ?_
  exact⟨_,rfl,λ_=>by rw[oneW_quit (by assumption) hti hi],λh=>by omega,by
    have h1:=MatS.put hA hx (Nat.le_succ c) (sendsW v.net (quitK (plW v i).k).1) (hs.sub (M:=x.J W p (c+1) ⟨(quitK (plW v i).k).2,(plW v i).g⟩::All (plX W p c) (A.xs.eraseIdx i)::blk B.mb 107 (matC B A)::Sl 81 1 A.adL A.xs.length A.cL (A.xs.map plv)::NetQ B.q ((sendsW v.net (quitK (plW v i).k).1).map nCast)::Sl 90 1 A.adE A.es.length A.cE (A.es.map evs)::All evo A.es::L))
    rw[oneW_quit (by assumption) hti hi];exact h1⟩
 refine DWC 2 (λw0 w'=>Rd w' b3 0 (sp4C t)) [3,5] [0,1,4,3002,3005,1003,1006,7] ha hs λa w ha hs hH=>?_
 have hC:=hH.at w (hs.rdAll (b:=b3))
 refine RH 3 ha hs hH hC λa ha=>?_
 refine QH ha (λw hc=>ld1 ha (hc 1 _ rfl)) hC λa ha=>?_
 rw[hti]at ha
 refine RH 0 ha hs hH hC λa ha=>?_
 refine QH ha (λw hc=>ld1 ha (hc 2 _ rfl)) hC λa ha=>?_
 refine RH 0 ha hs hH hC λa ha=>?_
 refine CL 0 ha hs (mt_multi_in ((hs.pick (Sl 81 1 A.adL A.xs.length A.cL (A.xs.map plv))).pick (blk B.mb 107 (matC B A))) hix) λa w ha hs=>?_
 replace hC:=hH.at w (hs.rdAll (b:=b3))
 rw[show A.xs[i].1.z.mul=x.z.mul from by rw[hxe]]at ha
 refine RH 0 ha hs hH hC λa ha=>?_
 refine CL1 0 ha hs (mt_workX (x:=x) (y:=t.b) (hs.pick (All (plX W p c) A.xs)) hx hB.pr hB.sz hcc) λz a w ha ⟨hz,hs⟩=>?_
 refine RN 1 ha hs λa ha=>?_
 refine IF 0 ha hs (λhc4 a ha=>?_) λhc4 a ha=>?_
 ·
  have hz0:z=false:=by cases z <;> simp_all
  refine RT 2 ha hs ?_
  exact⟨7,rfl,λh=>absurd (by omega) h,λ_=>.inl rfl,by
    rw[oneW_work (by omega) hti hi]
    exact (MatS.fold hs B p (c+1) v A hA).sub⟩
 have hz0:z=true:=by cases z <;> simp_all
 refine RT 2 ha hs ?_
 exact⟨0,rfl,λh=>absurd (by omega) h,λ_=>.inr ⟨rfl,(hz hz0).1,(hz hz0).2.1,x,(hz hz0).2.2.choose,hxB,(hz hz0).2.2.choose_spec⟩,by
   rw[oneW_work (by omega) hti hi]
   exact (MatS.fold hs B p (c+1) v A hA).sub⟩
end
end
end Go.Proofs.YteoldcfapaiobaaGreat
