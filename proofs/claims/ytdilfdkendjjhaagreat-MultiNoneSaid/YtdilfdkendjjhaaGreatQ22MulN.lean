/- Package multi: New; no player. -/
import Derived.Test.YtdilfdkendjjhaaGreatQ21MulT
import Derived.Test.YtdilfdkendjjhaaGreatQ11Num
import Derived.Test.YtdilfdkendjjhaaGreatQ04Ty
import Derived.Test.YtdilfdkendjjhaaGreatQ18PlainS
import Derived.ProofKit
import Derived.Deep.Slices
import Derived.Deep.Strs
import Derived.Test.YtdilfdkendjjhaaGreatQ13Wk
import Derived.Test.YtdilfdkendjjhaaGreatQ15Que
import Derived.Test.YtdilfdkendjjhaaGreatQ12Vm
import Derived.Test.YtdilfdkendjjhaaGreatQ20MulM
import Derived.Test.YtdilfdkendjjhaaGreatQ16Core
import Derived.Test.YtdilfdkendjjhaaGreatQ03Run
import Derived.ChangeSame
import Derived.Test.YtdilfdkendjjhaaGreatQ17Pred
import Derived.Test.YtdilfdkendjjhaaGreatRows
import Derived.KernelRfl
import Derived.JoinedOf
namespace Go.Proofs.YtdilfdkendjjhaaGreat
open Go.RowKit
set_option linter.unusedVariables false
set_option linter.unusedSimpArgs false
set_option maxRecDepth 10000
set_option synthInstance.maxSize 4000
set_option synthInstance.maxHeartbeats 400000
section
section
variable {W w:World}{L:List SP}{n c cP cT nb nw rm me delay window:Nat}{adP adT:Option Addr}{M:MuB}{B:PlB}{x:UInt8}{p:Pr}{s:Pl}{m:Mu}{tb:List UInt8}{cf:Cf}{y id guess order branches workers room:Int}
set_option maxHeartbeats 1000000 in
theorem mu_new (hs:St W w (RoP W p adP cP::L))(hm:mayCf ⟨n,me,id,delay,window,guess,order,nb,nw,rm⟩)(hpr:prOk p)(hgs:mayGs ⟨guess,order,tb⟩)(hsz:p.title.size≤1000000000)(hol:p.ops.length≤1000000000)(htl:tb.length≤1099511627776)(hT:∀ w',St W w' (RoP W p adP cP::L)→RdB w' adT tb.length tb) :
   Calls Tryz.prog 14 #[.agg (cfC ⟨n,me,id,delay,window,guess,order,nb,nw,rm⟩).toArray,.agg (prV p adP cP).toArray,.slice adT tb.length cT] w λr w'=>∃ (M:MuB) (m:Mu),r=.returned (.tuple #[pt M.mb,.int .i64 0]) ∧
     (M.B.gs=⟨guess,order,tb⟩∧m.s=newP p ⟨n,me,id,delay,window,guess,order,nb,nw,rm⟩∧MI p M 1 m∧m.T.l=[]∧m.J=[]∧∀ k∈m.ks,k.1=wk0)∧St W w' (MuS W M p m::RoP W p adP cP::L):=by
 obtain⟨cf,hcf⟩:∃ cf:Cf,cf=⟨n,me,id,delay,window,guess,order,nb,nw,rm⟩:=⟨_,rfl⟩
 have hin:=hm
 simp only[mayCf,inI]at hin
 obtain⟨⟨h1,h2,h3⟩,⟨h4,h5,h6,h7⟩,h8,h9,h10,h11⟩:=hin
 rw[← hcf]
 refine EN Tryz.func14 Tryz.ntmps14 rfl rfl λa ha=>?_
 refine BX 1 ha hs λb3 a w ha hs=>?_
 change St W w (blk b3 27 (cfC cf)::_) at hs
 refine BX 0 ha hs λb4 a w ha hs=>?_
 change St W w (blk b4 34 (prV p adP cP)::_) at hs
 refine RN 6 ha hs λa ha=>?_
 rw[hcf]at ha
 refine CL1 0 ha hs (plain_new (tb:=tb) (hs.pick (RoP W p adP cP)) hm hpr hgs hsz hol htl (λw' hw=>hT w' hw.sub)) λB a w ha ⟨hBg,hs⟩=>?_
 rw[← hcf]at hs
 refine RN 9 ha hs λa ha=>?_
 replace ha:=ha.isF 19
 refine RN 2 ha hs λa ha=>?_
 replace hs:=hs.sl0 119 4 none
 rw[prV]at hs
 refine RN 2 ha hs λa ha=>?_
 refine st_appendT ha rfl hs Tryz.underlying32 Ty.t119 rfl rfl (by decide) (λh0=>(hs.pick (RoP W p adP cP)).roRd adP h0) (by rw[rows_len opR_len]) (rows_one opR_one _) (by omega) λad23 c23 a w ha hs=>?_
 rw[List.nil_append,Nat.zero_add]at hs
 rw[Nat.zero_add]at ha
 refine ST 1 ha hs (λa w ha hs=>?_)
 refine RN 1 ha hs λa ha=>?_
 replace hs:=(hs.pick (Sl 119 4 ad23 p.ops.length c23 (rows opR p.ops))).roSl
 refine DWC 0 (λw0 w'=>Rd w' b3 0 (cfC cf)∧Rd w' b4 0 [.string p.title,.slice ad23 p.ops.length c23]) [3,4,5] [0,2,3001,1003,1004,1005,6,1007,8] ha hs λa w ha hs hH=>?_
 have hC:=hH.at w ⟨hs.rdAll (b:=b3),hs.rdAll (b:=b4)⟩
 refine RH 2 ha hs hH hC λa ha=>?_
 refine QH ha (λw hc=>ex_loadN ha Tryz.underlying34 rfl Ty.t34 (hc.2)) hC λa ha=>?_
 refine RH 0 ha hs hH hC λa ha=>?_
 refine SS ha (ld1 ha (hC.1 9 _ rfl)) λa ha=>?_
 rw[show cf.room=(rm:Int) from by rw[hcf]]at ha
 refine RH 0 ha hs hH hC λa ha=>?_
 refine CL2 0 ha hs (snap_new (n:=rm) hs (by omega)) λsq r a w ha hs=>?_
 replace hC:=hH.at w ⟨hs.rdAll (b:=b3),hs.rdAll (b:=b4)⟩
 refine RH 0 ha hs hH hC λa ha=>?_
 refine CL1 0 ha hs (new_spec hs) λjq a w ha hs=>?_
 replace hC:=hH.at w ⟨hs.rdAll (b:=b3),hs.rdAll (b:=b4)⟩
 refine RH 1 ha hs hH hC λa ha=>?_
 refine st_box ha rfl hs rfl λb32 a w ha hs ho=>?_
 clear ho
 change St W w (blk b32 110 [pt B.pb,.string p.title,.slice ad23 p.ops.length c23,pt sq,.pointer none,pt jq,.slice none 0 0,.int .i64 0,.int .i64 0]::_) at hs
 refine RN 1 ha hs λa ha=>?_
 refine DWC 1 (λw0 w'=>Rd w' b3 0 (cfC cf)∧w'.cell? ⟨b32,3,none⟩=some (pt sq)) [6] [0,1,2,3,5,3004,1006,1007,8,9,1010] ha hs λa w ha hs hH=>?_
 have hC:=hH.at w ⟨hs.rdAll (b:=b3),(hs.rdAll (b:=b32)) 3 _ rfl⟩
 refine RH 5 ha hs hH hC λa ha=>?_
 refine QH ha (λw hc=>ld1 ha (hc.2)) hC λa ha=>?_
 refine RH 0 ha hs hH hC λa ha=>?_
 refine SS ha (ld1 ha (hC.1 7 _ rfl)) λa ha=>?_
 rw[show cf.branches=(nb:Int) from by rw[hcf]]at ha
 refine RH 0 ha hs hH hC λa ha=>?_
 refine CL1 0 ha hs (tree_new (m:=(nb:Int)) hs) λtq a w ha hs=>?_
 rw[show (min (max (nb:Int) 0) 8).toNat=nb from by omega]at hs
 refine ST 2 ha hs (λa w ha hs=>?_)
 refine RN 3 ha hs λa ha=>?_
 refine SS ha (ld1 ha ((hs.rdAll (b:=b3)) 8 _ rfl)) λa ha=>?_
 rw[show cf.workers=(nw:Int) from by rw[hcf]]at ha
 refine RN 1 ha hs λa ha=>?_
 refine wp_loop_ghost (λμ a w=>∃ (ks:List Kx) (adw:Option Addr) (cw:Nat),(μ=nw-ks.length∧ks.length≤nw∧(∀ k∈ks,k.1=wk0))∧Fr a 93 [(3,pt b3),(8,pt B.pb),(10,pt b32),(44,.int .i64 nw),(45,.int .i64 ks.length)]∧St W w (blk b32 110 (muC p ⟨b32,B,sq,r,tq,jq,adw,cw,ad23,c23⟩ ks.length 0 0)::Sl 112 1 adw ks.length cw (ptrs ks)::All (ownK p ad23 c23 tq jq sq) ks::blk b3 27 (cfC cf)::PlainS W B p (newP p cf)::RoP W p ad23 c23::RoP W p adP cP::Tree tq sq ⟨nb,[],0,0⟩::Store sq r ⟨0,4*rm,0,[]⟩::Jobs jq []::L)) (nw) (⟨[],none,0,⟨by simp,by simp,λk hk=>by cases hk⟩,ha.keep [3,8,10,44,45],(show St W w (Sl 112 1 none ([]:List Kx).length 0 (ptrs [])::All (ownK p ad23 c23 tq jq sq) []::blk b32 110 (muC p ⟨b32,B,sq,r,tq,jq,none,0,ad23,c23⟩ ([]:List Kx).length 0 0)::_) from (hs.allNil (f:=ownK p ad23 c23 tq jq sq)).sl0 112 1 none).sub⟩) ?_
 clear ha hs
 rintro μ a w ⟨ks,adw,cw,⟨rfl,hkl,hk0⟩,ha,hs⟩
 refine IF 3 ha hs (λhc1 a ha=>?_) λhc1 a ha=>?_
 ·
  refine DWC 1 (λw0 w'=>Rd w' b32 0 (muC p ⟨b32,B,sq,r,tq,jq,adw,cw,ad23,c23⟩ ks.length 0 0)) [8,12,16,20,21,22] [0,1,2,3,5,6,7,9,10,11,13,14,15,17,18,19,3004,3008,3012,3016,1020,1021,1022,1023,24,25,1026] ha hs λa w ha hs hH=>?_
  have hC:=hH.at w (hs.rdAll (b:=b32))
  refine RH 16 ha hs hH hC λa ha=>?_
  refine QH ha (λw hc=>ld1 ha (hc 6 _ rfl)) hC λa ha=>?_
  refine QH ha (λw hc=>ex_loadN ha Tryz.underlying34 rfl Ty.t34 (muC_pr hc)) hC λa ha=>?_
  refine QH ha (λw hc=>ld1 ha (hc 4 _ rfl)) hC λa ha=>?_
  refine QH ha (λw hc=>ld1 ha (hc 5 _ rfl)) hC λa ha=>?_
  refine RH 0 ha hs hH hC λa ha=>?_
  refine SS ha (ld1 ha (hC 3 _ rfl)) λa ha=>?_
  refine RH 0 ha hs hH hC λa ha=>?_
  refine CL1 0 ha hs (worker_new hs) λwb a w ha hs=>?_
  replace hC:=hH.at w (hs.rdAll (b:=b32))
  refine RH 0 ha hs hH hC λa ha=>?_
  refine st_buildSlice ha rfl hs Tryz.underlying108 Ty.t112 rfl rfl rfl rfl (by decide) (by decide) λb69 a w ha hs ho=>?_
  clear ho
  replace hC:=hH.at w (hs.rdAll (b:=b32))
  refine RH 0 ha hs hH hC λa ha=>?_
  refine st_append ha rfl hs Tryz.underlying108 Ty.t112 rfl rfl hs.rdAll rfl (by simp[Value.oneCell']) (by decide) (by decide) (by omega) λad70 c70 a w ha hs=>?_
  refine ST 2 ha hs (λa w ha hs=>?_)
  have hs5:St W w (blk b32 110 (muC p ⟨b32,B,sq,r,tq,jq,ad70,c70,ad23,c23⟩ (ks++[(wk0,wb)]).length 0 0)::Sl 112 1 ad70 (ks++[(wk0,wb)]).length c70 (ptrs (ks++[(wk0,wb)]))::blk wb 188 (wkC p ad23 c23 tq jq sq wk0)::All (ownK p ad23 c23 tq jq sq) ks::blk b3 27 (cfC cf)::PlainS W B p (newP p cf)::RoP W p ad23 c23::RoP W p adP cP::Tree tq sq ⟨nb,[],0,0⟩::Store sq r ⟨0,4*rm,0,[]⟩::Jobs jq []::L):=by
    have e1:(ks++[(wk0,wb)]).length=ks.length+1:=by simp
    have e2:ptrs (ks++[(wk0,wb)])=ptrs ks++[pt wb]:=by simp[ptrs]
    rw[e1,e2]
    change St W w (blk b32 110 (muC p ⟨b32,B,sq,r,tq,jq,ad70,c70,ad23,c23⟩ (ks.length+1) 0 0)::Sl 112 1 ad70 (ks.length+1) c70 (ptrs ks++[pt wb])::_) at hs
    exact hs.sub
  have hs6:=St.allPush (f:=ownK p ad23 c23 tq jq sq) (x:=(wk0,wb)) (l:=ks) (hs5.sub (M:=blk wb 188 (wkC p ad23 c23 tq jq sq wk0)::All (ownK p ad23 c23 tq jq sq) ks::blk b32 110 (muC p ⟨b32,B,sq,r,tq,jq,ad70,c70,ad23,c23⟩ (ks++[(wk0,wb)]).length 0 0)::Sl 112 1 ad70 (ks++[(wk0,wb)]).length c70 (ptrs (ks++[(wk0,wb)]))::blk b3 27 (cfC cf)::PlainS W B p (newP p cf)::RoP W p ad23 c23::RoP W p adP cP::Tree tq sq ⟨nb,[],0,0⟩::Store sq r ⟨0,4*rm,0,[]⟩::Jobs jq []::L))
  replace hs:=hs6
  clear hs5 hs6
  refine RN 2 ha hs λa ha=>?_
  have hkl2:(ks++[(wk0,wb)]).length=ks.length+1:=by simp
  refine⟨nw-(ks.length+1),by omega,ks++[(wk0,wb)],ad70,c70,⟨by omega,by omega,λk hk=>?_⟩,?_,hs.sub⟩
  · rcases List.mem_append.1 hk with hk | hk
    · exact hk0 k hk
    · rw[List.mem_singleton.1 hk]
  · rw[hkl2];exact ha.keep [3,8,10,44,45]
 refine DWC 1 (λw0 w'=>Rd w' b32 0 (muC p ⟨b32,B,sq,r,tq,jq,adw,cw,ad23,c23⟩ ks.length 0 0)) [6] [0,1,2,3,5,3004,1006,1007,8,9,10,11,12,1013] ha hs λa w ha hs hH=>?_
 have hC:=hH.at w (hs.rdAll (b:=b32))
 refine RH 5 ha hs hH hC λa ha=>?_
 refine QH ha (λw hc=>ld1 ha (hc 3 _ rfl)) hC λa ha=>?_
 refine RH 0 ha hs hH hC λa ha=>?_
 refine CL 0 ha hs (plain_game (hs.pick (PlainS W B p (newP p cf)))) λa w ha hs=>?_
 replace hC:=hH.at w (hs.rdAll (b:=b32))
 refine RH 0 ha hs hH hC λa ha=>?_
 refine CL1 0 ha hs (snap_make (g:=(newP p cf).g) (hs.store sq) (by simp[Sn.used,cnt_none];omega) (by simp)) λt a w ha ⟨⟨ht1,ht2⟩,hs⟩=>?_
 refine ST 5 ha hs (λa w ha hs=>?_)
 refine RN 3 ha hs λa ha=>?_
 refine SS ha (ld1 ha ((hs.rdAll (b:=b3)) 3 _ rfl)) λa ha=>?_
 rw[show cf.delay=(delay:Int) from by rw[hcf]]at ha
 refine ST 2 ha hs (λa w ha hs=>?_)
 change St W w (blk b32 110 (muC p ⟨b32,B,sq,r,tq,jq,adw,cw,ad23,c23⟩ ks.length 1 delay)::_) at hs
 refine RT 4 ha hs ?_
 obtain rfl:ks.length=nw:=by omega
 have hs9:=MuS.fold hs ⟨b32,B,sq,r,tq,jq,adw,cw,ad23,c23⟩ p ⟨newP p cf,(⟨0,4*rm,0,[]⟩:Sn).add (newP p cf).g t,⟨nb,[],0,0⟩,[],ks,1,delay⟩
 refine⟨⟨b32,B,sq,r,tq,jq,adw,cw,ad23,c23⟩,⟨newP p cf,(⟨0,4*rm,0,[]⟩:Sn).add (newP p cf).g t,⟨nb,[],0,0⟩,[],ks,1,delay⟩,rfl,⟨hBg,rfl,?_,rfl,rfl,hk0⟩,hs9.sub⟩
 obtain⟨ps,ev,mr,hk⟩:∃ ps ev mr,(newP p cf).k={ newK cf with ps:=ps,ev:=ev,mr:=mr }:=(newP_ok (p:=p) (c:=cf) (by rw[hcf];exact hm)).playP.2.2
 have hw9:WF' p (newP p cf):=WF'.new (by rw[hcf];exact hm)
 have hfd:frontK (newP p cf).k=delay:=by
   obtain⟨l,hl1,hl2⟩:=frontL_some hw9.wc.lne
   rw[frontK,hl2]
   rw[hk]at hl1
   have hl3:l∈List.replicate cf.n.toNat (List.replicate cf.delay.toNat 0):=hl1
   rw[(List.mem_replicate.1 hl3).2,List.length_replicate,hcf];rfl
 have hid:∀ k∈ks.map (·.1),k=wk0:=λk hk=>by
   obtain⟨y,hy,rfl⟩:=List.mem_map.1 hk
   exact hk0 y hy
 exact { wf:=hw9,gs:=by rw[hBg];exact hgs,front:=hfd.symm,brs:=λy hy=>(by cases hy),J:=by simp,most:=by rw[hk,hcf];rfl,workers:=by rw[hk,hcf];rfl,ks:=by dsimp only;omega,room:=⟨by rw[hk,hcf];simp only[Sn.add,newK];omega,by simp only[Sn.add];omega⟩,n:=⟨Nat.le_refl _,Nat.zero_le _,Nat.zero_le _⟩,inv:=⟨t,by
   refine⟨?_,λx hx=>?_,λx hx _=>?_,λy hy=>(by cases hy),λk hk=>?_⟩
   · rw[heldW_none (λk hk=>by rw[hid k hk];rfl)]
     exact List.Perm.refl _
   · rw[List.mem_singleton.1 hx];exact⟨rfl,hw9.gok hpr⟩
   · rw[List.mem_singleton.1 hx];exact⟨rfl,rfl⟩
   · rw[hid k hk];exact⟨Int.le_refl _,λh=>(by cases h)⟩⟩ }
end
end
section
def sumP:Pr:=⟨⟨#[115,117,109]⟩,[⟨1,30,1,0⟩,⟨11,1,0,0⟩,⟨5,2,2,31⟩,⟨3,2,2,1⟩,⟨3,0,0,30⟩,⟨1,29,8,0⟩,⟨7,28,0,29⟩,⟨10,28,9,0⟩,⟨9,1,0,0⟩,⟨1,0,0,0⟩,⟨15,31,0,0⟩,⟨13,31,2,0⟩]⟩
theorem dec_oneAt {s:ByteArray}{i b:Nat}(hb:byteN s i=b)(h:b<128):Utf8.decode s i=(b,1):=by
 simp only[byteN]at hb
 simp[Utf8.decode,hb,h]
theorem sumP_runes:runesAt sumP.title 0=[(115,1),(117,1),(109,1)]:=by
 have h1:sumP.title.size=3:=rfl
 have h2:Utf8.decode sumP.title 0=(115,1):=dec_oneAt (b:=115) rfl (by decide)
 have h3:Utf8.decode sumP.title 1=(117,1):=dec_oneAt (b:=117) rfl (by decide)
 have h4:Utf8.decode sumP.title 2=(109,1):=dec_oneAt (b:=109) rfl (by decide)
 have r3:runesAt sumP.title 3=[]:=runesAt_out (by omega)
 have r2:runesAt sumP.title 2=[(109,1)]:=by rw[runesAt_in (by omega),adv,if_pos (by omega),h4];exact congrArg _ r3
 have r1:runesAt sumP.title 1=[(117,1),(109,1)]:=by rw[runesAt_in (by omega),adv,if_pos (by omega),h3];exact congrArg _ r2
 rw[runesAt_in (by omega),adv,if_pos (by omega),h2];exact congrArg _ r1
theorem sumP_ok:prOk sumP:=by
 refine⟨⟨?_,by decide,by decide,?_⟩,?_⟩
 · rw[tOk,sumP_runes];decide
 · intro o ho
   simp[sumP]at ho
   rcases ho with rfl | rfl | rfl | rfl | rfl | rfl | rfl | rfl | rfl | rfl | rfl | rfl <;> simp[i32O,i32P]
 · intro o ho
   simp[sumP]at ho
   rcases ho with rfl | rfl | rfl | rfl | rfl | rfl | rfl | rfl | rfl | rfl | rfl | rfl <;> simp[okOp,cellP,sumP]
section
variable {W w:World}{L:List SP}{n c:Nat}{ad:Option Addr}
theorem prog22 (hs:St W w L):Calls Tryz.prog 15 #[] w λe w'=>∃ ad,e=.returned (.agg (prV sumP ad 12).toArray)∧St W w' (RoP W sumP ad 12::L):=by
 refine EN Tryz.func15 Tryz.ntmps15 rfl rfl λa ha=>?_
 refine AL 1 ha hs λb0 a w ha hs=>?_
 refine RN 13 ha hs λa ha=>?_
 refine st_buildSlice ha rfl hs Tryz.underlying32 Ty.t119 rfl rfl rfl rfl (by decide) (by decide) λb13 a w ha hs ho=>?_
 clear ho
 refine SA 1 ha hs λa w ha hs=>?_
 refine RT 0 ha hs ?_
 refine⟨some ⟨b13,0,none⟩,rfl,?_⟩
 have h1:St W w (blk b13 119 ([]++rows opR sumP.ops++[])::_):=hs.bring b13
 have h2:=St.slShut (n:=12) (c:=12) (sz:=4) h1 rfl (Nat.le_refl _) (Nat.zero_le _)
 have h3:St W w (RoP W sumP (some ⟨b13,0,none⟩) 12::_):=h2.roSl
 exact h3.sub
set_option maxHeartbeats 2000000 in
end
def jn (P O:List UInt8)(k:Nat):List (List UInt8):=(List.range k).map (jointL [P,O])
end
section
section
variable {W w:World}{L:List SP}
theorem nil_core (hs:St W w L):Calls Tryz.prog 99 #[.pointer none] w λe w'=>e=.returned (.pointer none)∧St W w' L:=by
 refine EN Tryz.func99 Tryz.ntmps99 rfl rfl λa ha=>?_
 refine RN 6 ha hs λa ha=>?_
 replace ha:=ha.isT 4
 refine RT 3 ha hs ?_
 exact⟨rfl,hs⟩
theorem nil_conf (hs:St W w L):Calls Tryz.prog 92 #[.pointer none] w λe w'=>e=.returned (.tuple #[.slice none 0 0,.int .i64 0])∧St W w' L:=by
 refine EN Tryz.func92 Tryz.ntmps92 rfl rfl λa ha=>?_
 refine RN 7 ha hs λa ha=>?_
 replace ha:=ha.isT 5
 refine RT 4 ha hs ?_
 exact⟨rfl,hs⟩
theorem nil_ccl (hs:St W w L):Calls Tryz.prog 143 #[.pointer none] w λe w'=>e=.returned (.bool true)∧St W w' L:=by
 refine EN Tryz.func143 Tryz.ntmps143 rfl rfl λa ha=>?_
 refine RN 6 ha hs λa ha=>?_
 replace ha:=ha.isT 5
 refine RT 6 ha hs ?_
 exact⟨rfl,hs⟩
theorem nil_chead (hs:St W w L):Calls Tryz.prog 83 #[.pointer none] w λe w'=>e=.returned (.pointer none)∧St W w' L:=by
 refine EN Tryz.func83 Tryz.ntmps83 rfl rfl λa ha=>?_
 refine RN 6 ha hs λa ha=>?_
 replace ha:=ha.isT 4
 refine RT 3 ha hs ?_
 exact⟨rfl,hs⟩
theorem nil_qn (hs:St W w L):Calls Tryz.prog 149 #[.pointer none] w λe w'=>e=.returned (.int .i64 0)∧St W w' L:=by
 refine EN Tryz.func149 Tryz.ntmps149 rfl rfl λa ha=>?_
 refine RN 6 ha hs λa ha=>?_
 replace ha:=ha.isT 4
 refine RT 3 ha hs ?_
 exact⟨rfl,hs⟩
theorem nil_front (hs:St W w L):Calls Tryz.prog 84 #[.pointer none] w λe w'=>e=.returned (.int .i64 0)∧St W w' L:=by
 refine EN Tryz.func84 Tryz.ntmps84 rfl rfl λa ha=>?_
 refine CL 5 ha hs (nil_qn hs) λa w ha hs=>?_
 refine RN 1 ha hs λa ha=>?_
 replace ha:=ha.isT 8
 refine RT 3 ha hs ?_
 exact⟨rfl,hs⟩
theorem nil_cpress (hs:St W w L):Calls Tryz.prog 120 #[.pointer none,.int .u8 1] w λe w'=>e=.returned (.int .i64 6)∧St W w' L:=by
 refine EN Tryz.func120 Tryz.ntmps120 rfl rfl λa ha=>?_
 refine CL 5 ha hs (nil_ccl hs) λa w ha hs=>?_
 refine RN 1 ha hs λa ha=>?_
 replace ha:=ha.isT 5
 refine RT 3 ha hs ?_
 exact⟨rfl,hs⟩
theorem nil_crecv (hs:St W w L):Calls Tryz.prog 145 #[.pointer none,.slice none 0 0] w λe w'=>e=.returned (.int .i64 6)∧St W w' L:=by
 refine EN Tryz.func145 Tryz.ntmps145 rfl rfl λa ha=>?_
 refine CL 5 ha hs (nil_ccl hs) λa w ha hs=>?_
 refine RN 0 ha hs λa ha=>?_
 replace ha:=ha.isT 9
 refine RT 3 ha hs ?_
 exact⟨rfl,hs⟩
theorem nil_ctick (hs:St W w L):Calls Tryz.prog 141 #[.pointer none] w λe w'=>e=.returned (.slice none 0 0)∧St W w' L:=by
 refine EN Tryz.func141 Tryz.ntmps141 rfl rfl λa ha=>?_
 refine CL 5 ha hs (nil_ccl hs) λa w ha hs=>?_
 refine RN 0 ha hs λa ha=>?_
 replace ha:=ha.isT 9
 refine RT 3 ha hs ?_
 exact⟨rfl,hs⟩
theorem nil_cquit (hs:St W w L):Calls Tryz.prog 142 #[.pointer none] w λe w'=>e=.returned (.slice none 0 0)∧St W w' L:=by
 refine EN Tryz.func142 Tryz.ntmps142 rfl rfl λa ha=>?_
 refine CL 5 ha hs (nil_ccl hs) λa w ha hs=>?_
 refine RN 0 ha hs λa ha=>?_
 replace ha:=ha.isT 7
 refine RT 3 ha hs ?_
 exact⟨rfl,hs⟩
theorem nil_cev (hs:St W w L):Calls Tryz.prog 160 #[.pointer none] w λe w'=>e=.returned (.slice none 0 0)∧St W w' L:=by
 refine EN Tryz.func160 Tryz.ntmps160 rfl rfl λa ha=>?_
 refine RN 6 ha hs λa ha=>?_
 replace ha:=ha.isT 5
 refine RT 3 ha hs ?_
 exact⟨rfl,hs⟩
theorem nil_disp (hs:St W w L):Calls Tryz.prog 85 #[.pointer none] w λe w'=>e=.returned (.tuple #[.slice none 0 0,.int .i64 0])∧St W w' L:=by
 refine EN Tryz.func85 Tryz.ntmps85 rfl rfl λa ha=>?_
 refine CL 5 ha hs (nil_core hs) λa w ha hs=>?_
 refine CL 0 ha hs (nil_chead hs) λa w ha hs=>?_
 refine CL 0 ha hs (nil_front hs) λa w ha hs=>?_
 refine RN 6 ha hs λa ha=>?_
 replace ha:=ha.isT 11
 refine CL 11 ha hs (nil_conf hs) λa w ha hs=>?_
 refine RT 4 ha hs ?_
 exact⟨rfl,hs⟩
theorem nil_press (hs:St W w L):Calls Tryz.prog 55 #[.pointer none,.int .u8 1] w λe w'=>e=.returned (.int .i64 6)∧St W w' L:=by
 refine EN Tryz.func55 Tryz.ntmps55 rfl rfl λa ha=>?_
 refine CL 4 ha hs (nil_core hs) λa w ha hs=>?_
 refine CL 1 ha hs (nil_cpress hs) λa w ha hs=>?_
 refine RN 5 ha hs λa ha=>?_
 replace ha:=ha.isF 11
 refine RT 4 ha hs ?_
 exact⟨rfl,hs⟩
theorem nil_recv (hs:St W w L):Calls Tryz.prog 81 #[.pointer none,.slice none 0 0] w λe w'=>e=.returned (.int .i64 6)∧St W w' L:=by
 refine EN Tryz.func81 Tryz.ntmps81 rfl rfl λa ha=>?_
 refine CL 4 ha hs (nil_core hs) λa w ha hs=>?_
 refine CL 1 ha hs (nil_crecv hs) λa w ha hs=>?_
 refine RN 5 ha hs λa ha=>?_
 replace ha:=ha.isF 11
 refine RT 4 ha hs ?_
 exact⟨rfl,hs⟩
theorem nil_tick (hs:St W w L):Calls Tryz.prog 71 #[.pointer none] w λe w'=>e=.returned (.slice none 0 0)∧St W w' L:=by
 refine EN Tryz.func71 Tryz.ntmps71 rfl rfl λa ha=>?_
 refine CL 4 ha hs (nil_core hs) λa w ha hs=>?_
 refine CL 0 ha hs (nil_ctick hs) λa w ha hs=>?_
 refine RT 1 ha hs ?_
 exact⟨rfl,hs⟩
theorem nil_quit (hs:St W w L):Calls Tryz.prog 74 #[.pointer none] w λe w'=>e=.returned (.slice none 0 0)∧St W w' L:=by
 refine EN Tryz.func74 Tryz.ntmps74 rfl rfl λa ha=>?_
 refine CL 4 ha hs (nil_core hs) λa w ha hs=>?_
 refine CL 0 ha hs (nil_cquit hs) λa w ha hs=>?_
 refine RT 1 ha hs ?_
 exact⟨rfl,hs⟩
theorem nil_ev (hs:St W w L):Calls Tryz.prog 98 #[.pointer none] w λe w'=>e=.returned (.slice none 0 0)∧St W w' L:=by
 refine EN Tryz.func98 Tryz.ntmps98 rfl rfl λa ha=>?_
 refine CL 4 ha hs (nil_core hs) λa w ha hs=>?_
 refine CL 0 ha hs (nil_cev hs) λa w ha hs=>?_
 refine RT 1 ha hs ?_
 exact⟨rfl,hs⟩
theorem nil_cl (hs:St W w L):Calls Tryz.prog 75 #[.pointer none] w λe w'=>e=.returned (.bool true)∧St W w' L:=by
 refine EN Tryz.func75 Tryz.ntmps75 rfl rfl λa ha=>?_
 refine CL 4 ha hs (nil_core hs) λa w ha hs=>?_
 refine CL 0 ha hs (nil_ccl hs) λa w ha hs=>?_
 refine RT 1 ha hs ?_
 exact⟨rfl,hs⟩
set_option maxHeartbeats 2000000 in
end
end
section
section
variable {W w:World}{L:List SP}
theorem none_core (hs:St W w L):Calls Tryz.prog 40 #[.pointer none] w λe w'=>e=.returned (.pointer none)∧St W w' L:=by
 refine EN Tryz.func40 Tryz.ntmps40 rfl rfl λa ha=>?_
 refine CL 4 ha hs (mu_plain_nil hs) λa w ha hs=>?_
 refine CL 0 ha hs (nil_core hs) λa w ha hs=>?_
 refine RT 1 ha hs ?_
 exact⟨rfl,hs⟩
theorem none_cl (hs:St W w L):Calls Tryz.prog 31 #[.pointer none] w λe w'=>e=.returned (.bool true)∧St W w' L:=by
 refine EN Tryz.func31 Tryz.ntmps31 rfl rfl λa ha=>?_
 refine CL 4 ha hs (mu_plain_nil hs) λa w ha hs=>?_
 refine CL 0 ha hs (nil_cl hs) λa w ha hs=>?_
 refine RT 1 ha hs ?_
 exact⟨rfl,hs⟩
theorem none_ahead (hs:St W w L):Calls Tryz.prog 56 #[.pointer none] w λe w'=>e=.returned (.tuple #[])∧St W w' L:=by
 refine EN Tryz.func56 Tryz.ntmps56 rfl rfl λa ha=>?_
 refine RN 5 ha hs λa ha=>?_
 replace ha:=ha.isT 4
 refine RT 4 ha hs ?_
 exact⟨rfl,hs⟩
theorem none_press (hs:St W w L):Calls Tryz.prog 16 #[.pointer none,.int .u8 1] w λe w'=>e=.returned (.int .i64 6)∧St W w' L:=by
 refine EN Tryz.func16 Tryz.ntmps16 rfl rfl λa ha=>?_
 refine CL 4 ha hs (mu_plain_nil hs) λa w ha hs=>?_
 refine CL 1 ha hs (nil_press hs) λa w ha hs=>?_
 refine CL 3 ha hs (none_ahead hs) λa w ha hs=>?_
 refine RT 3 ha hs ?_
 exact⟨rfl,hs⟩
theorem none_recv (hs:St W w L):Calls Tryz.prog 33 #[.pointer none,.slice none 0 0] w λe w'=>e=.returned (.int .i64 6)∧St W w' L:=by
 refine EN Tryz.func33 Tryz.ntmps33 rfl rfl λa ha=>?_
 refine CL 4 ha hs (mu_plain_nil hs) λa w ha hs=>?_
 refine CL 1 ha hs (nil_recv hs) λa w ha hs=>?_
 refine CL 3 ha hs (none_ahead hs) λa w ha hs=>?_
 refine RT 3 ha hs ?_
 exact⟨rfl,hs⟩
theorem none_tick (hs:St W w L):Calls Tryz.prog 27 #[.pointer none] w λe w'=>e=.returned (.slice none 0 0)∧St W w' L:=by
 refine EN Tryz.func27 Tryz.ntmps27 rfl rfl λa ha=>?_
 refine CL 4 ha hs (mu_plain_nil hs) λa w ha hs=>?_
 refine CL 0 ha hs (nil_tick hs) λa w ha hs=>?_
 refine RT 1 ha hs ?_
 exact⟨rfl,hs⟩
theorem none_quit (hs:St W w L):Calls Tryz.prog 29 #[.pointer none] w λe w'=>e=.returned (.slice none 0 0)∧St W w' L:=by
 refine EN Tryz.func29 Tryz.ntmps29 rfl rfl λa ha=>?_
 refine CL 4 ha hs (mu_plain_nil hs) λa w ha hs=>?_
 refine CL 0 ha hs (nil_quit hs) λa w ha hs=>?_
 refine RT 1 ha hs ?_
 exact⟨rfl,hs⟩
theorem none_ev (hs:St W w L):Calls Tryz.prog 39 #[.pointer none] w λe w'=>e=.returned (.slice none 0 0)∧St W w' L:=by
 refine EN Tryz.func39 Tryz.ntmps39 rfl rfl λa ha=>?_
 refine CL 4 ha hs (mu_plain_nil hs) λa w ha hs=>?_
 refine CL 0 ha hs (nil_ev hs) λa w ha hs=>?_
 refine RT 1 ha hs ?_
 exact⟨rfl,hs⟩
theorem none_conf (hs:St W w L):Calls Tryz.prog 35 #[.pointer none] w λe w'=>e=.returned (.tuple #[.slice none 0 0,.int .i64 0])∧St W w' L:=by
 refine EN Tryz.func35 Tryz.ntmps35 rfl rfl λa ha=>?_
 refine DWO 5 [8,9,10] [0,1,2,3,4,5,7,3006,1008,1009,1010,11,12] ha hs λa w ha hs hH hC=>?_
 refine RH 3 ha hs hH hC λa ha=>?_
 replace ha:=ha.isT 6
 refine RH 10 ha hs hH hC λa ha=>?_
 refine CL 3 ha hs (mu_plain_nil hs) λa w ha hs=>?_
 refine CL 0 ha hs (nil_conf hs) λa w ha hs=>?_
 refine RT 4 ha hs ?_
 exact⟨rfl,hs⟩
theorem nil_cconf (hs:St W w L):Calls Tryz.prog 147 #[.pointer none] w λe w'=>e=.returned (.agg (cfC ⟨0,0,0,0,0,0,0,0,0,0⟩).toArray)∧St W w' L:=by
 refine EN Tryz.func147 Tryz.ntmps147 rfl rfl λa ha=>?_
 refine AL 1 ha hs λb2 a w ha hs=>?_
 refine RN 4 ha hs λa ha=>?_
 replace ha:=ha.isT 4
 refine SA 3 ha hs λa w ha hs=>?_
 refine RT 0 ha hs ?_
 exact⟨rfl,hs.sub⟩
theorem nil_qline (hs:St W w L):Calls Tryz.prog 146 #[.pointer none,.int .i64 0] w λe w'=>e=.returned (.pointer none)∧St W w' L:=by
 refine EN Tryz.func146 Tryz.ntmps146 rfl rfl λa ha=>?_
 refine RN 7 ha hs λa ha=>?_
 replace ha:=ha.isF 7
 refine CL 2 ha hs (nil_qn hs) λa w ha hs=>?_
 refine RN 2 ha hs λa ha=>?_
 replace ha:=ha.isT 12
 refine RT 3 ha hs ?_
 exact⟨rfl,hs⟩
theorem nil_llen (hs:St W w L):Calls Tryz.prog 148 #[.pointer none] w λe w'=>e=.returned (.int .i64 0)∧St W w' L:=by
 refine EN Tryz.func148 Tryz.ntmps148 rfl rfl λa ha=>?_
 refine RN 6 ha hs λa ha=>?_
 replace ha:=ha.isT 4
 refine RT 3 ha hs ?_
 exact⟨rfl,hs⟩
theorem none_disp (hs:St W w L):Calls Tryz.prog 34 #[.pointer none] w λe w'=>e=.returned (.tuple #[.slice none 0 0,.int .i64 0])∧St W w' L:=by
 have hh:∀ {w:World},St W w L→Calls Tryz.prog 82 #[.pointer none] w λe w'=>(∃ v:Int,e=.returned (.int .i64 v))∧St W w' L:=by
   intro w hs
   refine EN Tryz.func82 Tryz.ntmps82 rfl rfl λa ha=>?_
   refine CL 4 ha hs (nil_chead hs) λa w ha hs=>?_
   refine CL 1 ha hs (nil_cconf hs) λa w ha hs=>?_
   refine RN 0 ha hs λa ha=>?_
   refine SS ha (ex_field1 ha Tryz.underlying27 rfl Tryz.underlying3 rfl rfl) λa ha=>?_
   refine CL 0 ha hs (nil_qline hs) λa w ha hs=>?_
   refine CL 0 ha hs (nil_llen hs) λa w ha hs=>?_
   refine RT 1 ha hs ?_
   exact⟨⟨_,rfl⟩,hs⟩
 refine EN Tryz.func34 Tryz.ntmps34 rfl rfl λa ha=>?_
 refine CL 5 ha hs (none_core hs) λa w ha hs=>?_
 refine CLX 0 ha hs (hh hs) ?_
 clear ha hs
 rintro e w ⟨⟨v,rfl⟩,hs⟩
 refine⟨_,rfl,λa ha=>?_⟩
 refine DWO 3 [8,9,10] [0,1,2,3,4,5,7,3006,1008,1009,1010,11,12,13,14,15,16,17,1018,19,20] ha hs λa w ha hs hH hC=>?_
 refine RH 3 ha hs hH hC λa ha=>?_
 replace ha:=ha.isT 15
 refine RH 18 ha hs hH hC λa ha=>?_
 refine CL 3 ha hs (mu_plain_nil hs) λa w ha hs=>?_
 refine CL 0 ha hs (nil_disp hs) λa w ha hs=>?_
 refine RT 4 ha hs ?_
 exact⟨rfl,hs⟩
theorem none_work (hs:St W w L):Calls Tryz.prog 17 #[.pointer none,.int .i64 0] w λe w'=>e=.returned (.bool false)∧St W w' L:=by
 refine EN Tryz.func17 Tryz.ntmps17 rfl rfl λa ha=>?_
 refine RN 7 ha hs λa ha=>?_
 replace ha:=ha.isT 7
 refine RT 19 ha hs ?_
 exact⟨rfl,hs⟩
theorem none_store (hs:St W w L):Calls Tryz.prog 41 #[.pointer none] w λe w'=>e=.returned (.pointer none)∧St W w' L:=by
 refine EN Tryz.func41 Tryz.ntmps41 rfl rfl λa ha=>?_
 refine RN 6 ha hs λa ha=>?_
 replace ha:=ha.isT 4
 refine RT 3 ha hs ?_
 exact⟨rfl,hs⟩
theorem none_tree (hs:St W w L):Calls Tryz.prog 18 #[.pointer none] w λe w'=>e=.returned (.pointer none)∧St W w' L:=by
 refine EN Tryz.func18 Tryz.ntmps18 rfl rfl λa ha=>?_
 refine RN 6 ha hs λa ha=>?_
 replace ha:=ha.isT 4
 refine RT 3 ha hs ?_
 exact⟨rfl,hs⟩
theorem none_workers (hs:St W w L):Calls Tryz.prog 42 #[.pointer none] w λe w'=>e=.returned (.int .i64 0)∧St W w' L:=by
 refine EN Tryz.func42 Tryz.ntmps42 rfl rfl λa ha=>?_
 refine RN 6 ha hs λa ha=>?_
 replace ha:=ha.isT 4
 refine RT 3 ha hs ?_
 exact⟨rfl,hs⟩
end
end
section
def jb (e:Nat)(y:Br):Int×Int:=((y.id:Int),(e:Int))
theorem putJ_in {J:Js}{b e:Int}(h:b∈J.map (·.1)):putJ J b e=J:=by
 rw[putJ,if_neg]
 obtain⟨y,hy,he⟩:=List.mem_map.1 h
 simp only[mayPut,Bool.and_eq_true,Bool.not_eq_true',not_and]
 intro _ h2
 rw[List.any_eq_false]at h2
 exact h2 y hy (decide_eq_true he)
theorem putJ_new {J:Js}{b e:Int}(h:b ∉ J.map (·.1))(hl:J.length<16):putJ J b e=J++[(b,e)]:=by
 rw[putJ,if_pos]
 simp only[mayPut,Bool.and_eq_true,Bool.not_eq_true',decide_eq_true_eq,List.any_eq_false]
 exact⟨hl,λy hy he=>h (List.mem_map.2 ⟨y,hy,he⟩)⟩
def stepJ (e:Nat)(J:Js)(y:Br):Js:=if y.done<y.press.length then putJ J y.id e else J
theorem foldJ_in {e:Nat}:∀ (l:List Br)(J:Js),(∀ y∈l,(y.id:Int)∈J.map (·.1))→l.foldl (stepJ e) J=J
 | [],_,_=>rfl
 | y::l,J,h=>by
   have h1:stepJ e J y=J:=by
     unfold stepJ
     split
     · exact putJ_in (h y (List.mem_cons_self ..))
     · rfl
   rw[List.foldl_cons,h1]
   exact foldJ_in l J λz hz=>h z (List.mem_cons_of_mem _ hz)
theorem foldJ_new {e:Nat}:∀ (l:List Br)(J:Js),(∀ y∈l,y.done<y.press.length)→(∀ y∈l,(y.id:Int) ∉ J.map (·.1))→(l.map (·.id)).Nodup→J.length+l.length≤16→l.foldl (stepJ e) J=J++l.map (jb e)
 | [],J,_,_,_,_=>by simp
 | y::l,J,hd,hn,nd,hl=>by
   rw[List.length_cons]at hl
   rw[List.map_cons,List.nodup_cons]at nd
   have h1:stepJ e J y=J++[jb e y]:=by
     rw[stepJ,if_pos (hd y (List.mem_cons_self ..)),putJ_new (hn y (List.mem_cons_self ..)) (by omega)];rfl
   rw[List.foldl_cons,h1,foldJ_new l _ (λz hz=>hd z (List.mem_cons_of_mem _ hz)) ?_ nd.2 (by simp;omega)]
   · simp
   · intro z hz hm
     rw[List.map_append]at hm
     rcases List.mem_append.1 hm with hm | hm
     · exact hn z (List.mem_cons_of_mem _ hz) hm
     · simp[jb]at hm
       exact nd.1 (List.mem_map.2 ⟨z,hz,by omega⟩)
theorem WT.nd {T:Tr}(hT:WT T):(T.l.map (·.id)).Nodup:=hT.ids.imp λh=>Nat.ne_of_lt h
theorem jobs_new {T:Tr}{l0 l:List Br}(hT:WT T)(hd:∀ y∈T.l,y.done<y.press.length)(h:T.l=l0++l):jobsT T (l0.map (jb T.epoch))=T.l.map (jb T.epoch):=by
 have h1:kept (λj=>decide (j.2<(T.epoch:Int))) (l0.map (jb T.epoch))=l0.map (jb T.epoch):=by
   refine List.filter_eq_self.2 λj hj=>?_
   obtain⟨y,_,rfl⟩:=List.mem_map.1 hj
   simp[jb]
 have h2:jobsT T (l0.map (jb T.epoch))=T.l.foldl (stepJ T.epoch) (l0.map (jb T.epoch)):=by
   rw[jobsT,h1,jobsN,List.take_length];rfl
 have hnd:=hT.nd
 have h8:=hT.most
 rw[h]at hnd hd
 rw[h2,h,List.foldl_append]
 rw[List.map_append]at hnd
 have hnd2:=List.nodup_append.1 hnd
 rw[foldJ_in l0 _ (λy hy=>List.mem_map.2 ⟨_,List.mem_map.2 ⟨y,hy,rfl⟩,rfl⟩),foldJ_new l _ (λy hy=>hd y (List.mem_append_right _ hy)) ?_ hnd2.2.1 ?_,List.map_append]
 · intro y hy hm
   obtain⟨j,hj,he⟩:=List.mem_map.1 hm
   obtain⟨z,hz,rfl⟩:=List.mem_map.1 hj
   have h3:z.id=y.id:=by simp[jb]at he;omega
   exact hnd2.2.2 _ (List.mem_map.2 ⟨z,hz,rfl⟩) _ (List.mem_map.2 ⟨y,hy,rfl⟩) h3
 · have h9:T.l.length=l0.length+l.length:=by rw[h,List.length_append]
   rw[List.length_map];omega
end
section
structure RcB where
 cb:Nat
 lb:Nat
 lo:Nat
 cL:Nat
 hb:Nat
 ab:Nat
 wb:Nat
 xb:Nat
structure RcA where
 adM:Option Addr
 cM:Nat
 adE:Option Addr
 cE:Nat
end
section
structure RgB where
 pb:Nat
 core:RcB
 adO:Option Addr
 cO:Nat
 adT:Option Addr
 cT:Nat
 gs:Gs
end
section
section
variable {c:Nat}{p:Pr}{cf:Cf}
theorem newP_cf (h:mayCf cf):ksCf (newP p cf).k=cf:=by
 obtain⟨ps,ev,mr,hk⟩:∃ ps ev mr,(newP p cf).k={ newK cf with ps:=ps,ev:=ev,mr:=mr }:=(newP_ok (p:=p) (c:=cf) h).playP.2.2
 rw[hk];exact (WC.new h).2.2
end
end
section
theorem Bit.first {p:Pr}{A A':Sn}{T T':Tr}{J J':Js}{k k':Wk}{z:Bool}{y:Br}(hb:Bit p A T J k z A' T' J' k')(hk:k.busy=false)(hJ:J=[jb T.epoch y])(hT:T.l=[y])(hd:y.done<y.press.length) :
   z=true∧A'.pics.length=A.pics.length+1:=by
 cases hb with
 | idle _ h=>rw[hJ]at h;cases h
 | stale _ h h3 =>
   rw[hJ]at h;cases h
   exfalso
   rcases h3 with h3 | h3 | ⟨x,h3,h4,h5⟩
   · exact h3 rfl
   · exact h3 y (by rw[hT];exact List.mem_cons_self ..) rfl
   · rw[hT,List.mem_singleton]at h3
     subst h3;omega
 | took _ h h3 h4 h5 h6 h7 h8=>exact⟨rfl,by simp[Sn.add]⟩
 | gone h=>rw[hk]at h;cases h
 | played h=>rw[hk]at h;cases h
 | failed h=>rw[hk]at h;cases h
 | pub h=>rw[hk]at h;cases h
 | lost h=>rw[hk]at h;cases h
section
variable {W w:World}{L:List SP}
set_option maxHeartbeats 2000000 in
theorem begun26 (hs:St W w L):Calls Tryz.prog 11 #[] w λe w'=>e=.returned (.bool true)∧St W w' L:=by
 have hm0:mayCf ⟨(2:Nat),(0:Nat),0,(0:Nat),(4:Nat),1,0,(1:Nat),(1:Nat),(5:Nat)⟩:=by decide
 refine EN Tryz.func11 Tryz.ntmps11 rfl rfl λa ha=>?_
 refine CL1 4 ha hs (prog22 hs) λadP a w ha hs=>?_
 refine CL2 0 ha hs (mu_new (tb:=[]) (n:=2) (me:=0) (id:=0) (delay:=0) (window:=4) (guess:=1) (order:=0) (nb:=1) (nw:=1) (rm:=5) hs hm0 sumP_ok (by decide) (by decide) (by decide) (by decide) (λw' h=>RdB.nil)) λM m a w ha ⟨⟨hBg,hms,hI,hT,hJ,hk⟩,hs⟩=>?_
 have t0:Two sumP 4 0 [[],[]] m.s:=by rw[hms];exact Two.new (id:=0) hm0 rfl
 have hcf:ksCf m.s.k=⟨(2:Nat),(0:Nat),0,(0:Nat),(4:Nat),1,0,(1:Nat),(1:Nat),(5:Nat)⟩:=by rw[hms];exact newP_cf hm0
 simp only[ksCf,Cf.mk.injEq]at hcf
 have hmost:m.T.most=1:=by have:=hI.most;omega
 have hkl:m.ks.length=1:=by have:=hI.workers;omega
 have hgm:mayGs M.B.gs:=hI.gs
 refine RN 10 ha hs λa ha=>?_
 replace ha:=ha.isF 16
 refine RN 4 ha hs λa ha=>?_
 replace ha:=ha.isF 20
 refine CL 1 ha hs (mu_store hs) λa w ha hs=>?_
 refine RN 3 ha hs λa ha=>?_
 replace ha:=ha.isF 25
 refine CL 1 ha hs (mu_tree hs) λa w ha hs=>?_
 refine RN 3 ha hs λa ha=>?_
 replace ha:=ha.isF 30
 refine CL 1 ha hs (mu_core hs) λa w ha hs=>?_
 refine RN 2 ha hs λa ha=>?_
 replace ha:=ha.isF 34
 refine CL1 3 ha hs (mu_press (x:=7) hs hI sumP_ok (by decide) (by decide)) λm1 a w ha ⟨⟨hm1,hI1,hR⟩,hs⟩=>?_
 obtain⟨e1,t1⟩:=t0.press 7 (by decide) (by decide)
 rw[e1]at ha
 replace t1:Two sumP 4 0 [[7],[]] (pressP sumP 7 m.s).2:=t1
 obtain⟨t',hR⟩:=hR t1.cl
 have hf1:frontK (pressP sumP 7 m.s).2.k=0:=t1.front
 have hh1:headK (pressP sumP 7 m.s).2.k=1:=t1.head
 have hf0:m.front=0:=hI.front.trans t0.front
 obtain⟨q1,q2,l,q3,q4⟩:=hR.keep (by show m.front=frontK (pressP sumP 7 m.s).2.k;rw[hf0,hf1]) (λy hy=>(by rw[hT]at hy;cases hy))
 have q5:=hR.has (by show 0<m.T.most;omega) (by show frontK (pressP sumP 7 m.s).2.k<headK (pressP sumP 7 m.s).2.k;omega)
 have q6:m1.T.l=l:=by rw[q3];show m.T.l++l=l;rw[hT];rfl
 have hwt:=Tree.wt ((MuS.open hs).tree M.tq)
 have q7:m1.T.most=1:=hR.most.trans hmost
 have hl1:m1.T.l.length=1:=by
   have:=hwt.most.2
   have:=List.length_pos_iff.2 q5
   omega
 obtain⟨y,hy⟩:=List.length_eq_one_iff.1 hl1
 obtain⟨hy1,hy2,_⟩:=q4 y (by rw[← q6,hy];exact List.mem_cons_self ..)
 have hyd:y.done<y.press.length:=by rw[hy1];exact List.length_pos_iff.2 hy2
 have hJ1:m1.J=[jb m1.T.epoch y]:=by
   have h1:=jobs_new (T:=m1.T) (l0:=[]) (l:=m1.T.l) hwt (by intro z hz;rw[hy,List.mem_singleton]at hz;rw[hz];exact hyd) rfl
   rw[hR.jobs]
   show jobsT m1.T m.J=_
   rw[hJ]
   exact h1.trans (by rw[hy];rfl)
 obtain⟨⟨k0,wb⟩,hk0⟩:=List.length_eq_one_iff.1 hkl
 have hk1:m1.ks=[(k0,wb)]:=by rw[q1];exact hk0
 have hkb:k0=wk0:=hk (k0,wb) (by rw[hk0];exact List.mem_cons_self ..)
 have t1':Two sumP 4 0 [[7],[]] m1.s:=by rw[hm1];exact t1
 have hd1:(dispG sumP M.B.gs m1.s).2=1:=by
   rw[dispG,if_neg (by rw[t1'.head,t1'.front];decide)]
   exact t1'.head
 have hpl:m1.A.pics.length=2:=by
   obtain⟨t9,h9⟩:=hI1.inv
   have h8:=h9.len
   rw[hk1,hl1]at h8
   rw[h8,hkb];rfl
 refine CL 3 ha hs (mu_tree hs) λa w ha hs=>?_
 replace hs:=MuS.open hs
 refine CL2 0 ha hs (tree_all (hs.tree M.tq)) λadt ct a w ha hs=>?_
 rw[hl1]at ha
 replace hs:=(MuS.fold hs.tail M sumP m1).sub (M:=MuS W M sumP m1::L)
 refine CLX 3 ha hs (mu_work (i:=0) (k:=k0) (wb:=wb) hs hI1 t1'.cl (by rw[hk1];rfl) sumP_ok (by decide) (by decide)) ?_
 clear ha hs
 rintro e w ⟨z,A2,T2,J2,k2,rfl,⟨hbit,hI2⟩,hs⟩
 refine⟨_,rfl,λa ha=>?_⟩
 obtain⟨hz,hA2⟩:=hbit.first (y:=y) (by rw[hkb];rfl) hJ1 hy hyd
 rw[hz]at ha
 obtain⟨m2,hm2⟩:∃ m2:Mu,m2={ m1 with A:=A2,T:=T2,J:=J2,ks:=m1.ks.set 0 (k2,wb) }:=⟨_,rfl⟩
 rw[← hm2]at hs hI2
 have hs2:m2.s=m1.s:=by rw[hm2]
 have hl2:m2.ks.length=1:=by rw[hm2,hk1];rfl
 have hp2:m2.A.pics.length=3:=by rw[hm2];show A2.pics.length=3;omega
 rw[← hs2]at hd1
 clear hm2
 refine CL2 3 ha hs (mu_display hs hI2 sumP_ok (by decide)) λadD cD a w ha hs=>?_
 rw[hd1]at ha
 replace hs:=hs.tail
 refine RN 9 ha hs λa ha=>?_
 replace ha:=ha.isT 49
 refine RN 5 ha hs λa ha=>?_
 replace ha:=ha.isT 54
 refine RN 3 ha hs λa ha=>?_
 replace ha:=ha.isT 57
 refine CL 1 ha hs (mu_work_no (y:=1) hs (.inr (.inr (by omega))) (by omega)) λa w ha hs=>?_
 refine RN 3 ha hs λa ha=>?_
 replace ha:=ha.isT 62
 refine RN 4 ha hs λa ha=>?_
 replace ha:=ha.isT 66
 refine CL 1 ha hs (mu_workers hs) λa w ha hs=>?_
 rw[hl2]at ha
 refine RN 3 ha hs λa ha=>?_
 replace ha:=ha.isT 71
 refine CL 1 ha hs (mu_store hs) λa w ha hs=>?_
 replace hs:=MuS.open hs
 refine CL2 0 ha hs (snap_live (hs.store M.sq)) λadv cv a w ha hs=>?_
 rw[hp2]at ha
 refine RT 4 ha hs ?_
 exact⟨rfl,hs.sub⟩
end
set_option maxHeartbeats 4000000 in
set_option synthInstance.maxSize 40000 in
set_option synthInstance.maxHeartbeats 4000000 in
set_option maxRecDepth 100000 in
theorem multiNone_walk (W:World):Calls Tryz.prog 9 #[] W λe w'=>e=.returned (.bool true)∧Below W.heap.size W w':=by
 have hs:=St.start W
 refine EN Tryz.func9 Tryz.ntmps9 rfl rfl λa ha=>?_
 refine CL 6 ha hs (none_conf hs) λa w ha hs=>?_
 refine CL 7 ha hs (none_disp hs) λa w ha hs=>?_
 refine RN 6 ha hs λa ha=>?_
 simp only[List.append]
 refine CL 0 ha hs (begun26 hs) λa w ha hs=>?_
 refine RN 1 ha hs λa ha=>?_
 replace ha:=ha.isT 17
 refine CL 1 ha hs (none_press hs) λa w ha hs=>?_
 refine RN 3 ha hs λa ha=>?_
 replace ha:=ha.isT 22
 refine CL 1 ha hs (none_recv hs) λa w ha hs=>?_
 refine RN 3 ha hs λa ha=>?_
 replace ha:=ha.isT 27
 refine CL 1 ha hs (none_tick hs) λa w ha hs=>?_
 refine RN 4 ha hs λa ha=>?_
 replace ha:=ha.isT 33
 refine CL 1 ha hs (none_quit hs) λa w ha hs=>?_
 refine RN 4 ha hs λa ha=>?_
 replace ha:=ha.isT 39
 refine CL 1 ha hs (none_ev hs) λa w ha hs=>?_
 refine RN 4 ha hs λa ha=>?_
 replace ha:=ha.isT 45
 refine RN 5 ha hs λa ha=>?_
 replace ha:=ha.isT 50
 refine RN 4 ha hs λa ha=>?_
 replace ha:=ha.isT 54
 refine RN 5 ha hs λa ha=>?_
 replace ha:=ha.isT 59
 refine RN 4 ha hs λa ha=>?_
 replace ha:=ha.isT 63
 refine CL 1 ha hs (none_cl hs) λa w ha hs=>?_
 refine RN 2 ha hs λa ha=>?_
 replace ha:=ha.isT 67
 refine CL 1 ha hs (none_core hs) λa w ha hs=>?_
 refine RN 3 ha hs λa ha=>?_
 replace ha:=ha.isT 72
 refine CL 1 ha hs (none_work hs) λa w ha hs=>?_
 refine RN 3 ha hs λa ha=>?_
 replace ha:=ha.isT 77
 refine CL 1 ha hs (none_store hs) λa w ha hs=>?_
 refine RN 3 ha hs λa ha=>?_
 replace ha:=ha.isT 82
 refine CL 1 ha hs (none_tree hs) λa w ha hs=>?_
 refine RN 3 ha hs λa ha=>?_
 replace ha:=ha.isT 87
 refine CL 1 ha hs (none_workers hs) λa w ha hs=>?_
 refine RT 3 ha hs ?_
 exact⟨rfl,hs.below⟩
end
section
set_option maxRecDepth 100000
theorem and2 {x y:Bool}(h:x=true)(k:y=true):(x&&y)=true:=by rw[h,k];rfl
theorem joined_of {P:Program}{f:FuncId}{fn:Func}{s:ChangeSpec}{c:OpenClaim}(k1:c.wf (OpenSpec.ofChange s)=true)(k2:laidOutB P=true)(k3:mapsRowed P=true)(k4:fn.params.all (P.readableRec ·)=true)(k5:namedTie P c.named s.vars=true)
   (k6:(c.stops==[])=true) (k7:(P.stops==[])=true) (k8:(c.knobs==[])=true) (k9:(P.stopKnobs==[])=true) (k10:(c.inPlace==P.inPlace f)=true) (k11:(c.unfollowed==P.unfollowed f)=true) (k12:(c.recurses==P.recurses f)=true) (k13:(c.named==P.varsNamed f)=true)
   (k14:(c.maps==(fn.params.toList++s.plain.varTypes P).any (P.mapsRec ·))=true) (k15:(c.ifaces==(fn.params.toList++s.plain.varTypes P).any (P.ifacesRec ·))=true) (k16:(c.mapsOut==P.mapsAmong fn.resultTypes.toList)=true)
   (k17:(c.loops==(fn.params.toList++s.plain.varTypes P).any (P.loopsFrom ·))=true) (k18:(c.wideKeys==(fn.params.toList++s.plain.varTypes P++fn.resultTypes.toList).any (P.wideKeysFrom ·))=true) (k19:s.vars.all (P.varReadable ·)=true) (k20:fn.resultTypes.all (λt=>P.readableRec t&&decide (t<P.types.size))=true)
   (k21:(c.ifacesOut==fn.resultTypes.toList.any (P.ifacesRec ·))=true) (k22:(c.loopsOut==fn.resultTypes.toList.any (P.loopsFrom ·))=true) (k23:(c.plainKeys==P.plainKeys)=true) (k24:c.shortTexts.isNone=true) (k25:P.stopsHeard=true) (k26:P.mayEnter=true) (k27:(c.lifted==P.liftsFinal)=true) (k28:(P.make==some c.make)=true)
   (k29:(c.kinds==(if c.domain.isEmpty then [] else fn.params.toList.map λt=>match P.underlying t with | some (.int k)=>some k | _=>none))=true) (k30:(c.pinned==c.pinnedBy)=true) (k31:(c.veiled==(fn.params.toList++s.plain.varTypes P++fn.resultTypes.toList).any (P.veiledRec ·))=true) (k32:c.veiledFits P fn.params.toList (fn.params.toList++s.plain.varTypes P++fn.resultTypes.toList)=true):joinedFacts P f fn s c=true:=by
 unfold joinedFacts
 exact and2 (and2 (and2 (and2 (and2 (and2 (and2 (and2 (and2 (and2 (and2 (and2 (and2 (and2 (and2 (and2 (and2 (and2 (and2 (and2 (and2 (and2 (and2 (and2 (and2 (and2 (and2 (and2 (and2 (and2 (and2 k1 k2) k3) k4) k5) k6) k7) k8) k9) k10) k11) k12) k13) k14) k15) k16) k17) k18) k19) k20) k21) k22) k23) k24) k25) k26) k27) k28) k29) k30) k31) k32
theorem fLaid:laidOutB Tryz.prog=true:=by kernel_rfl
theorem fMaps:mapsRowed Tryz.prog=true:=by kernel_rfl
theorem fHeard:Tryz.prog.stopsHeard=true:=by kernel_rfl
theorem fEnter:Tryz.prog.mayEnter=true:=by kernel_rfl
theorem fKeys (c:OpenClaim)(h:c.plainKeys=Rows.multiNoneRow.plainKeys):(c.plainKeys==Tryz.prog.plainKeys)=true:=by
 rw[h];kernel_rfl
theorem fLift (c:OpenClaim)(h:c.lifted=Rows.multiNoneRow.lifted):(c.lifted==Tryz.prog.liftsFinal)=true:=by
 rw[h];kernel_rfl
theorem fMake (c:OpenClaim)(h:c.make=Rows.multiNoneRow.make):(Tryz.prog.make==some c.make)=true:=by
 rw[h];kernel_rfl
end
end Go.Proofs.YtdilfdkendjjhaaGreat
