/- quintainlaw22.Do, Shows; quintainlaw21.Packet: over any player that answers as a plain one. -/
import Derived.Test.YtdilfdkendjjhaaGreatQ15RefC
import Derived.Test.YtdilfdkendjjhaaGreatQ14MulT
import Derived.Test.YtdilfdkendjjhaaGreatQ08RefS
import Derived.Test.YtdilfdkendjjhaaGreatQ06Chk2
import Derived.ChangeSame
import Derived.Test.YtdilfdkendjjhaaGreatQ12Pred
import Derived.Test.YtdilfdkendjjhaaGreatQ07Wk
import Derived.Test.YtdilfdkendjjhaaGreatQ02Ty
import Derived.Test.YtdilfdkendjjhaaGreatQ13Sort
import Derived.Test.YtdilfdkendjjhaaGreatRows
import Derived.KernelRfl
import Derived.JoinedOf
namespace Go.Proofs.YtdilfdkendjjhaaGreat
open Go.RowKit
set_option linter.unusedVariables false
set_option linter.unusedSimpArgs false
set_option maxRecDepth 10000
set_option synthInstance.maxSize 4000
set_option synthInstance.maxHeartbeats 400000
section
structure PlayS (W:World)(t:TypeId)(ad:Addr)(fP fR fT fQ fE fC fD fX:FuncId)(p:Pr)(gs:Gs)(J:Nat→Pl→SP):Prop where
 mP : MethodT Tryz.prog t "Press" fP
 cP:callable Tryz.prog fP=true
 mR : MethodT Tryz.prog t "Receive" fR
 cR:callable Tryz.prog fR=true
 mT : MethodT Tryz.prog t "Tick" fT
 cT:callable Tryz.prog fT=true
 mQ : MethodT Tryz.prog t "Quit" fQ
 cQ:callable Tryz.prog fQ=true
 mE : MethodT Tryz.prog t "Events" fE
 cE:callable Tryz.prog fE=true
 mC : MethodT Tryz.prog t "Confirmed" fC
 cC:callable Tryz.prog fC=true
 mD : MethodT Tryz.prog t "Display" fD
 cD:callable Tryz.prog fD=true
 mX : MethodT Tryz.prog t "Closed" fX
 cX:callable Tryz.prog fX=true
 press:∀ (w:World) (L:List SP) (i:Nat) (s:Pl) (x:UInt8),i≤1000000→WF' p s→St W w (J i s::L)→Calls Tryz.prog fP (List.toArray [.pointer (some ad),.int .u8 (x.toNat:Nat)]) w λr w'=>r=.returned (.int .i64 (pressP p x s).1)∧St W w' (J (i+1) (pressP p x s).2::L)
 recv:∀ (w:World) (L:List SP) (i:Nat) (s:Pl) (bs:List UInt8) (a:Option Addr) (c:Nat),i≤1000000→WF' p s→bs.length≤65536→bs.length≤c→(∀ w',St W w' L→RdB w' a bs.length bs)→St W w (J i s::L)→Calls Tryz.prog fR (List.toArray [.pointer (some ad),.slice a bs.length c]) w λr w'=>r=.returned (.int .i64 (recvP p bs s).1)∧St W w' (J (i+1) (recvP p bs s).2::L)
 tick:∀ (w:World) (L:List SP) (i:Nat) (s:Pl),i≤1000000→WF' p s→s.k.now≤1000000→St W w (J i s::L)→Calls Tryz.prog fT (List.toArray [.pointer (some ad)]) w λr w'=>∃ a c,r=.returned (.slice a (tickK s.k).1.length c)∧St W w' (OwnMl 139 a (tickK s.k).1.length c (tickK s.k).1::J (i+1) ⟨(tickK s.k).2,s.g⟩::L)
 quit:∀ (w:World) (L:List SP) (i:Nat) (s:Pl),i≤1000000→WF' p s→St W w (J i s::L)→Calls Tryz.prog fQ (List.toArray [.pointer (some ad)]) w λr w'=>∃ a c,r=.returned (.slice a (quitK s.k).1.length c)∧St W w' (OwnMl 139 a (quitK s.k).1.length c (quitK s.k).1::J (i+1) ⟨(quitK s.k).2,s.g⟩::L)
 events:∀ (w:World) (L:List SP) (i:Nat) (s:Pl),i≤1000000→WF' p s→St W w (J i s::L)→Calls Tryz.prog fE (List.toArray [.pointer (some ad)]) w λr w'=>∃ a c,r=.returned (.slice a s.k.ev.length c)∧St W w' (Sl 256 1 a s.k.ev.length c (s.k.ev.map evV)::J (i+1) ⟨{ s.k with ev:=[] },s.g⟩::L)
 conf:∀ (w:World) (L:List SP) (i:Nat) (s:Pl),i≤1000000→WF' p s→St W w (J i s::L)→Calls Tryz.prog fC (List.toArray [.pointer (some ad)]) w λr w'=>∃ a c,r=.returned (.tuple #[.slice a 128 c,.int .i64 (confP s).2])∧St W w' (Sl 5 1 a 128 c (bc (confP s).1)::J i s::L)
 disp:∀ (w:World) (L:List SP) (i:Nat) (s:Pl),i≤1000000→WF' p s→St W w (J i s::L)→Calls Tryz.prog fD (List.toArray [.pointer (some ad)]) w λr w'=>∃ a c,r=.returned (.tuple #[.slice a 128 c,.int .i64 (dispG p gs s).2])∧St W w' (Sl 5 1 a 128 c (bc (dispG p gs s).1)::J i s::L)
 closed:∀ (w:World) (L:List SP) (i:Nat) (s:Pl),i≤1000000→WF' p s→St W w (J i s::L)→Calls Tryz.prog fX (List.toArray [.pointer (some ad)]) w λr w'=>r=.returned (.bool s.k.cl)∧St W w' (J i s::L)
section
variable {W w:World}{L:List SP}{i:Nat}{t:TypeId}{ad:Addr}{fP fR fT fQ fE fC fD fX:FuncId}{p:Pr}{gs:Gs}{J:Nat→Pl→SP}{B:RgB}{s:Pl}{b:Bool}
theorem shows_spec (M:PlayS W t ad fP fR fT fQ fE fC fD fX p gs J)(hi:i≤1000000)(hs:St W w (J i s::RefG W B p s::L))(hw:WF' p s)(hpr:prOk p)(hsz:p.title.size≤1000000000)(hgs:mayGs B.gs)(hbg:B.gs=gs)(hT:RdB W B.adT B.gs.table.length B.gs.table) :
   Calls Tryz.prog 22 #[.iface t (.pointer (some ad)),pt B.pb] w λe w'=>e=.returned (.bool true)∧St W w' (J i s::RefG W B p s::L):=by
 subst hbg
 refine EN Tryz.func22 Tryz.ntmps22 rfl rfl λa ha=>?_
 refine RN 4 ha hs λa ha=>?_
 refine st_callI ha rfl M.mC M.cC rfl (M.conf _ _ i s hi hw hs) (by rfl) ?_
 clear ha hs
 rintro e w ⟨a1,c1,rfl,hs⟩
 refine⟨_,rfl,λa ha=>?_⟩
 refine CL2 7 ha hs (refP_conf (hs.pick (RefG W B p s)) hw) λa2 c2 a w ha hs=>?_
 refine RN 7 ha hs λa ha=>?_
 refine st_callI ha rfl M.mD M.cD rfl (M.disp _ _ i s hi hw (hs.pick (J i s))) (by rfl) ?_
 clear ha hs
 rintro e w ⟨a3,c3,rfl,hs⟩
 refine⟨_,rfl,λa ha=>?_⟩
 refine CL2 7 ha hs (refP_disp (hs.pick (RefG W B p s)) hw hpr hsz hgs hT) λa4 c4 a w ha hs=>?_
 refine RN 5 ha hs λa ha=>?_
 have hcl:(confP s).1.length=128:=gameB_len _
 have hdl:(dispG p B.gs s).1.length=128:=by
   rw[dispG];split
   · exact gameB_len _
   · exact gameB_len _
 replace hs:=hs.sub (M:=Sl 5 1 a4 128 c4 (bc (dispG p B.gs s).1)::Sl 5 1 a3 128 c3 (bc (dispG p B.gs s).1)::Sl 5 1 a2 128 c2 (bc (confP s).1)::Sl 5 1 a1 128 c1 (bc (confP s).1)::RefG W B p s::J i s::L)
 obtain⟨A,hs⟩:∃ A,St W w (Sl 5 1 a4 128 c4 (bc (dispG p B.gs s).1)::Sl 5 1 a3 128 c3 (bc (dispG p B.gs s).1)::Sl 5 1 a2 128 c2 (bc (confP s).1)::Sl 5 1 a1 128 c1 (bc (confP s).1)::blk B.core.cb 83 (rcC s.k B.core A)::RLn B.core.lb B.core.lo B.core.cL s.k.ls::blk B.core.hb 3 (heC s.k.ps)::blk B.core.ab 3 (haC s.k.ps)::blk B.core.wb 244 (rows wdC s.k.ps)::blk B.core.xb 4 (apC s.k.ps)::Sl 68 1 A.adM s.k.mr.length A.cM (mrC s.k.mr)::Sl 223 3 A.adE s.k.ev.length A.cE (rows rawC s.k.ev)::blk B.pb 65 (rgC p B s.g)::RoP W p B.adO B.cO::J i s::L):=by
   obtain⟨A,h⟩:=RefS.open ((RefG.open (hs.pick (RefG W B p s))).pick (RefS B.core s.k))
   exact⟨A,h.sub⟩
 refine DWC 1 (λw0 w'=>((RdB w' a1 128 (confP s).1∧RdB w' a2 128 (confP s).1)∧RdB w' a3 128 (dispG p B.gs s).1∧RdB w' a4 128 (dispG p B.gs s).1)∧Rd w' B.pb 0 (rgC p B s.g)∧Rd w' B.core.cb 0 (rcC s.k B.core A)) [7,19,24] [0,1,2,3,4,6,3005,1007,8,9,10,11,12,13,14,15,16,18,3017,1019,20,21,22,23,25,26,27,3028,29,30,3031,1024,32,33,34] ha hs λa w ha hs hH=>?_
 have hC:=hH.at w ⟨⟨⟨hs.rdB a1 _ rfl hcl,hs.rdB a2 _ rfl hcl⟩,hs.rdB a3 _ rfl hdl,hs.rdB a4 _ rfl hdl⟩,hs.rdAll (b:=B.pb),hs.rdAll (b:=B.core.cb)⟩
 refine RH 4 ha hs hH hC λa ha=>?_
 rw[decide_eq_true (by omega)]at ha
 refine RH 2 ha hs hH hC λa ha=>?_
 refine QH ha (λw hc=>ex_toString ha Tryz.underlying22 Tryz.underlying5 Tryz.underlying9 (hc.1.1.1)) hC λa ha=>?_
 refine RH 0 ha hs hH hC λa ha=>?_
 refine st_set ha (wgT ha rfl (s:=36)) (ex_toString ha Tryz.underlying22 Tryz.underlying5 Tryz.underlying9 (hC.1.1.2)) rfl λa ha=>?_
 refine RH 0 ha hs hH hC λa ha=>?_
 refine QP ha (λw=>ex_eqlS ha) λa ha=>?_
 rw[str_beq,beq_self_eq_true]at ha
 refine RH 2 ha hs hH hC λa ha=>?_
 replace ha:=ha.isT 43
 refine RH 5 ha hs hH hC λa ha=>?_
 rw[decide_eq_true (by omega)]at ha
 refine RH 2 ha hs hH hC λa ha=>?_
 refine QH ha (λw hc=>ex_toString ha Tryz.underlying22 Tryz.underlying5 Tryz.underlying9 (hc.1.2.1)) hC λa ha=>?_
 refine RH 0 ha hs hH hC λa ha=>?_
 refine st_set ha (wgT ha rfl (s:=48)) (ex_toString ha Tryz.underlying22 Tryz.underlying5 Tryz.underlying9 (hC.1.2.2)) rfl λa ha=>?_
 refine RH 0 ha hs hH hC λa ha=>?_
 refine QP ha (λw=>ex_eqlS ha) λa ha=>?_
 rw[str_beq,beq_self_eq_true]at ha
 refine RH 2 ha hs hH hC λa ha=>?_
 replace ha:=ha.isT 55
 refine RH 4 ha hs hH hC λa ha=>?_
 refine QH ha (λw hc=>ld1 ha (hc.2.1 0 _ rfl)) hC λa ha=>?_
 refine RH 2 ha hs hH hC λa ha=>?_
 refine QH ha (λw hc=>ld1 ha (hc.2.2 18 _ rfl)) hC λa ha=>?_
 refine RH 0 ha hs hH hC λa ha=>?_
 refine st_callI ha (wgT ha rfl (s:=55)) M.mX M.cX rfl (M.closed _ _ i s hi hw (hs.pick (J i s))) (by rfl) ?_
 clear ha hs
 rintro e w ⟨rfl,hs⟩
 refine⟨_,rfl,λa ha=>?_⟩
 replace hC:=hH.at w ⟨⟨⟨hs.rdB a1 _ rfl hcl,hs.rdB a2 _ rfl hcl⟩,hs.rdB a3 _ rfl hdl,hs.rdB a4 _ rfl hdl⟩,hs.rdAll (b:=B.pb),hs.rdAll (b:=B.core.cb)⟩
 refine RH 3 ha hs hH hC λa ha=>?_
 refine RT 0 ha hs ?_
 refine⟨by simp,?_⟩
 exact (RefG.fold (RefS.fold hs B.core s.k A) B p s).sub (M:=J i s::RefG W B p s::L)
end
end
section
def MuJ (W:World)(M:MuB)(p:Pr)(cf:Cf)(i:Nat)(s:Pl):SP:=λh=>∃ m:Mu,(m.s=s∧MI p M (20*i+1) m∧ksCf s.k=cf)∧MuS W M p m h
section
variable {W w:World}{L:List SP}{n c i N cP cT:Nat}{adP adT:Option Addr}{M:MuB}{x:UInt8}{p:Pr}{s:Pl}{m:Mu}{bs tb:List UInt8}{cf:Cf}
theorem MuJ.open (hs:St W w (MuJ W M p cf i s::L)):∃ m:Mu,(m.s=s∧MI p M (20*i+1) m∧ksCf s.k=cf)∧St W w (MuS W M p m::L):=hs.exi λ_ h=>h
theorem MuJ.close (hs:St W w (MuS W M p m::L))(h:MI p M N m)(hN:N≤20*i+1)(hm:m.s=s)(hc:ksCf s.k=cf):St W w (MuJ W M p cf i s::L) :=
 St.shut (M:=MuL W M p m) (MuS.open hs) λ_ q=>⟨m,⟨hm,h.more hN,hc⟩,q⟩
theorem mu_play (hpr:prOk p)(hsz:p.title.size≤1000000000):PlayS W 28 ⟨M.mb,0,none⟩ 16 33 27 29 39 35 34 31 p M.B.gs (MuJ W M p cf) where
 mP:=λad w=>by kernel_rfl
 cP:=(by kernel_rfl)
 mR:=λad w=>by kernel_rfl
 cR:=(by kernel_rfl)
 mT:=λad w=>by kernel_rfl
 cT:=(by kernel_rfl)
 mQ:=λad w=>by kernel_rfl
 cQ:=(by kernel_rfl)
 mE:=λad w=>by kernel_rfl
 cE:=(by kernel_rfl)
 mC:=λad w=>by kernel_rfl
 cC:=(by kernel_rfl)
 mD:=λad w=>by kernel_rfl
 cD:=(by kernel_rfl)
 mX:=λad w=>by kernel_rfl
 cX:=(by kernel_rfl)
 press:=λw L i s x hi hw hs=>by
   replace hs:=MuJ.open hs
   obtain⟨m,⟨rfl,hI,hc⟩,hs⟩:=hs
   exact (mu_press (x:=x) hs hI hpr hsz (by omega)).mono λr w' ⟨m',h1,⟨h2,h3,_⟩,hs⟩=>⟨h1,MuJ.close hs h3 (by omega) h2 ((Nxt.press hI.wf x).cf.trans hc)⟩
 recv:=λw L i s bs a c hi hw hb hc hp hs=>by
   replace hs:=MuJ.open hs
   obtain⟨m,⟨rfl,hI,hcf⟩,hs⟩:=hs
   exact (mu_receive hs hI hpr hsz (by omega) hb hc hp).mono λr w' ⟨m',h1,⟨h2,h3⟩,hs⟩=>⟨h1,MuJ.close hs h3 (by omega) h2 ((Nxt.recv hI.wf bs).cf.trans hcf)⟩
 tick:=λw L i s hi hw hn hs=>by
   replace hs:=MuJ.open hs
   obtain⟨m,⟨rfl,hI,hc⟩,hs⟩:=hs
   exact (mu_tick hs hI hn).mono λr w' ⟨a,c,h1,h2,hs⟩=>⟨a,c,h1,(MuJ.close (hs.perm (List.Perm.swap _ _ _)) h2 (by omega) rfl ((tick_cf _).trans hc)).perm (List.Perm.swap _ _ _)⟩
 quit:=λw L i s hi hw hs=>by
   replace hs:=MuJ.open hs
   obtain⟨m,⟨rfl,hI,hc⟩,hs⟩:=hs
   exact (mu_quit hs hI).mono λr w' ⟨a,c,h1,h2,hs⟩=>⟨a,c,h1,(MuJ.close (hs.perm (List.Perm.swap _ _ _)) h2 (by omega) rfl ((quit_cf _).trans hc)).perm (List.Perm.swap _ _ _)⟩
 events:=λw L i s hi hw hs=>by
   replace hs:=MuJ.open hs
   obtain⟨m,⟨rfl,hI,hc⟩,hs⟩:=hs
   exact (mu_events hs hI).mono λr w' ⟨a,c,h1,h2,hs⟩=>⟨a,c,h1,(MuJ.close (hs.perm (List.Perm.swap _ _ _)) h2 (by omega) rfl hc).perm (List.Perm.swap _ _ _)⟩
 conf:=λw L i s hi hw hs=>by
   replace hs:=MuJ.open hs
   obtain⟨m,⟨rfl,hI,hc⟩,hs⟩:=hs
   exact (mu_confirmed hs hI).mono λr w' ⟨a,c,h1,hs⟩=>⟨a,c,h1,(MuJ.close (hs.perm (List.Perm.swap _ _ _)) hI (Nat.le_refl _) rfl hc).perm (List.Perm.swap _ _ _)⟩
 disp:=λw L i s hi hw hs=>by
   replace hs:=MuJ.open hs
   obtain⟨m,⟨rfl,hI,hc⟩,hs⟩:=hs
   exact (mu_display hs hI hpr hsz).mono λr w' ⟨a,c,h1,hs⟩=>⟨a,c,h1,(MuJ.close (hs.perm (List.Perm.swap _ _ _)) hI (Nat.le_refl _) rfl hc).perm (List.Perm.swap _ _ _)⟩
 closed:=λw L i s hi hw hs=>by
   replace hs:=MuJ.open hs
   obtain⟨m,⟨rfl,hI,hc⟩,hs⟩:=hs
   exact (mu_closed hs).mono λr w' ⟨h1,hs⟩=>⟨h1,MuJ.close hs hI (Nat.le_refl _) rfl hc⟩
theorem newP_cf (h:mayCf cf):ksCf (newP p cf).k=cf:=by
 obtain⟨ps,ev,mr,hk⟩:∃ ps ev mr,(newP p cf).k={ newK cf with ps:=ps,ev:=ev,mr:=mr }:=(newP_ok (p:=p) (c:=cf) h).playP.2.2
 rw[hk];exact (WC.new h).2.2
theorem refP_newZ (hm:mayCf cf)(hs:St W w (RoP W p adP cP::L))(hn:tb.length=n)(hpr:prOk p)(hsz:p.title.size≤1000000000) :
   Calls Tryz.prog 20 #[.agg (cfC cf).toArray,.agg (prV p adP cP).toArray,.slice adT n cT] w λr w'=>∃ B:RgB,r=.returned (pt B.pb)∧(B.gs=⟨cf.guess,cf.order,tb⟩∧B.adT=adT)∧St W w' (RefG W B p (newP p cf)::L):=by
 subst hn
 obtain⟨n,me,delay,window,hcf⟩:=mayCf_nat hm
 generalize cf.guess=guess at hcf ⊢
 generalize cf.order=order at hcf ⊢
 rw[hcf]at hm ⊢
 exact refP_new hs hm hpr hsz
end
end
section
theorem Bit.first {p:Pr}{A A':Sn}{T T':Tr}{J J':Js}{k k':Wk}{z:Bool}{y:Br}(hb:Bit p A T J k z A' T' J' k')(hk:k.busy=false)(hJ:J=[jb T.epoch y])(hT:T.l=[y])(hd:y.done<y.press.length) :
   z=true∧A'.pics.length=A.pics.length+1:=by
 cases hb with
 | idle _ h=>rw[hJ]at h;cases h
 | stale _ h h3 =>
   rw[hJ]at h;cases h
   exfalso
   rcases h3 with h3 | h3 | ⟨x,h3,h4,h5⟩
   · exact h3 rfl
   · exact h3 y (by rw[hT];exact List.mem_cons_self ..) rfl
   · rw[hT,List.mem_singleton]at h3
     subst h3;omega
 | took _ h h3 h4 h5 h6 h7 h8=>exact⟨rfl,by simp[Sn.add]⟩
 | gone h=>rw[hk]at h;cases h
 | played h=>rw[hk]at h;cases h
 | failed h=>rw[hk]at h;cases h
 | pub h=>rw[hk]at h;cases h
 | lost h=>rw[hk]at h;cases h
section
variable {W w:World}{L:List SP}
set_option maxHeartbeats 2000000 in
theorem begun26 (hs:St W w L):Calls Tryz.prog 11 #[] w λe w'=>e=.returned (.bool true)∧St W w' L:=by
 have hm0:mayCf ⟨(2:Nat),(0:Nat),0,(0:Nat),(4:Nat),1,0,(1:Nat),(1:Nat),(5:Nat)⟩:=by decide
 refine EN Tryz.func11 Tryz.ntmps11 rfl rfl λa ha=>?_
 refine CL1 4 ha hs (prog22 hs) λadP a w ha hs=>?_
 refine CL2 0 ha hs (mu_new (tb:=[]) (n:=2) (me:=0) (id:=0) (delay:=0) (window:=4) (guess:=1) (order:=0) (nb:=1) (nw:=1) (rm:=5) hs hm0 sumP_ok (by decide) (by decide) (by decide) (by decide) (λw' h=>RdB.nil)) λM m a w ha ⟨⟨hBg,hms,hI,hT,hJ,hk⟩,hs⟩=>?_
 have t0:Two sumP 4 0 [[],[]] m.s:=by rw[hms];exact Two.new (id:=0) hm0 rfl
 have hcf:ksCf m.s.k=⟨(2:Nat),(0:Nat),0,(0:Nat),(4:Nat),1,0,(1:Nat),(1:Nat),(5:Nat)⟩:=by rw[hms];exact newP_cf hm0
 simp only[ksCf,Cf.mk.injEq]at hcf
 have hmost:m.T.most=1:=by have:=hI.most;omega
 have hkl:m.ks.length=1:=by have:=hI.workers;omega
 have hgm:mayGs M.B.gs:=hI.gs
 refine RN 10 ha hs λa ha=>?_
 replace ha:=ha.isF 16
 refine RN 4 ha hs λa ha=>?_
 replace ha:=ha.isF 20
 refine CL 1 ha hs (mu_store hs) λa w ha hs=>?_
 refine RN 3 ha hs λa ha=>?_
 replace ha:=ha.isF 25
 refine CL 1 ha hs (mu_tree hs) λa w ha hs=>?_
 refine RN 3 ha hs λa ha=>?_
 replace ha:=ha.isF 30
 refine CL 1 ha hs (mu_core hs) λa w ha hs=>?_
 refine RN 2 ha hs λa ha=>?_
 replace ha:=ha.isF 34
 refine CL1 3 ha hs (mu_press (x:=7) hs hI sumP_ok (by decide) (by decide)) λm1 a w ha ⟨⟨hm1,hI1,hR⟩,hs⟩=>?_
 obtain⟨e1,t1⟩:=t0.press 7 (by decide) (by decide)
 rw[e1]at ha
 replace t1:Two sumP 4 0 [[7],[]] (pressP sumP 7 m.s).2:=t1
 obtain⟨t',hR⟩:=hR t1.cl
 have hf1:frontK (pressP sumP 7 m.s).2.k=0:=t1.front
 have hh1:headK (pressP sumP 7 m.s).2.k=1:=t1.head
 have hf0:m.front=0:=hI.front.trans t0.front
 obtain⟨q1,q2,l,q3,q4⟩:=hR.keep (by show m.front=frontK (pressP sumP 7 m.s).2.k;rw[hf0,hf1]) (λy hy=>(by rw[hT]at hy;cases hy))
 have q5:=hR.has (by show 0<m.T.most;omega) (by show frontK (pressP sumP 7 m.s).2.k<headK (pressP sumP 7 m.s).2.k;omega)
 have q6:m1.T.l=l:=by rw[q3];show m.T.l++l=l;rw[hT];rfl
 have hwt:=Tree.wt ((MuS.open hs).tree M.tq)
 have q7:m1.T.most=1:=hR.most.trans hmost
 have hl1:m1.T.l.length=1:=by
   have:=hwt.most.2
   have:=List.length_pos_iff.2 q5
   omega
 obtain⟨y,hy⟩:=List.length_eq_one_iff.1 hl1
 obtain⟨hy1,hy2,_⟩:=q4 y (by rw[← q6,hy];exact List.mem_cons_self ..)
 have hyd:y.done<y.press.length:=by rw[hy1];exact List.length_pos_iff.2 hy2
 have hJ1:m1.J=[jb m1.T.epoch y]:=by
   have h1:=jobs_new (T:=m1.T) (l0:=[]) (l:=m1.T.l) hwt (by intro z hz;rw[hy,List.mem_singleton]at hz;rw[hz];exact hyd) rfl
   rw[hR.jobs]
   show jobsT m1.T m.J=_
   rw[hJ]
   exact h1.trans (by rw[hy];rfl)
 obtain⟨⟨k0,wb⟩,hk0⟩:=List.length_eq_one_iff.1 hkl
 have hk1:m1.ks=[(k0,wb)]:=by rw[q1];exact hk0
 have hkb:k0=wk0:=hk (k0,wb) (by rw[hk0];exact List.mem_cons_self ..)
 have t1':Two sumP 4 0 [[7],[]] m1.s:=by rw[hm1];exact t1
 have hd1:(dispG sumP M.B.gs m1.s).2=1:=by
   rw[dispG,if_neg (by rw[t1'.head,t1'.front];decide)]
   exact t1'.head
 have hpl:m1.A.pics.length=2:=by
   obtain⟨t9,h9⟩:=hI1.inv
   have h8:=h9.len
   rw[hk1,hl1]at h8
   rw[h8,hkb];rfl
 refine CL 3 ha hs (mu_tree hs) λa w ha hs=>?_
 replace hs:=MuS.open hs
 refine CL2 0 ha hs (tree_all (hs.tree M.tq)) λadt ct a w ha hs=>?_
 rw[hl1]at ha
 replace hs:=(MuS.fold hs.tail M sumP m1).sub (M:=MuS W M sumP m1::L)
 refine CLX 3 ha hs (mu_work (i:=0) (k:=k0) (wb:=wb) hs hI1 t1'.cl (by rw[hk1];rfl) sumP_ok (by decide) (by decide)) ?_
 clear ha hs
 rintro e w ⟨z,A2,T2,J2,k2,rfl,⟨hbit,hI2⟩,hs⟩
 refine⟨_,rfl,λa ha=>?_⟩
 obtain⟨hz,hA2⟩:=hbit.first (y:=y) (by rw[hkb];rfl) hJ1 hy hyd
 rw[hz]at ha
 obtain⟨m2,hm2⟩:∃ m2:Mu,m2={ m1 with A:=A2,T:=T2,J:=J2,ks:=m1.ks.set 0 (k2,wb) }:=⟨_,rfl⟩
 rw[← hm2]at hs hI2
 have hs2:m2.s=m1.s:=by rw[hm2]
 have hl2:m2.ks.length=1:=by rw[hm2,hk1];rfl
 have hp2:m2.A.pics.length=3:=by rw[hm2];show A2.pics.length=3;omega
 rw[← hs2]at hd1
 clear hm2
 refine CL2 3 ha hs (mu_display hs hI2 sumP_ok (by decide)) λadD cD a w ha hs=>?_
 rw[hd1]at ha
 replace hs:=hs.tail
 refine RN 9 ha hs λa ha=>?_
 replace ha:=ha.isT 49
 refine RN 5 ha hs λa ha=>?_
 replace ha:=ha.isT 54
 refine RN 3 ha hs λa ha=>?_
 replace ha:=ha.isT 57
 refine CL 1 ha hs (mu_work_no (y:=1) hs (.inr (.inr (by omega))) (by omega)) λa w ha hs=>?_
 refine RN 3 ha hs λa ha=>?_
 replace ha:=ha.isT 62
 refine RN 4 ha hs λa ha=>?_
 replace ha:=ha.isT 66
 refine CL 1 ha hs (mu_workers hs) λa w ha hs=>?_
 rw[hl2]at ha
 refine RN 3 ha hs λa ha=>?_
 replace ha:=ha.isT 71
 refine CL 1 ha hs (mu_store hs) λa w ha hs=>?_
 replace hs:=MuS.open hs
 refine CL2 0 ha hs (snap_live (hs.store M.sq)) λadv cv a w ha hs=>?_
 rw[hp2]at ha
 refine RT 4 ha hs ?_
 exact⟨rfl,hs.sub⟩
end
end
section
theorem Sn.used_room (A:Sn):A.used≤A.room:=by
 have:=List.countP_le_length (p:=λp=>decide (0<cnt A.pics p)) (l:=List.range A.room)
 rw[List.length_range]at this;exact this
theorem cnt_zero {p:Nat}:∀ (l:List Pic),(∀ x∈l,∀ k,k<4→x.p k≠p)→cnt l p=0
 | [],_=>rfl
 | x::l,h=>by
   rw[cnt_cons,cntP_zero (h x (List.mem_cons_self ..)),cnt_zero l λy hy=>h y (List.mem_cons_of_mem _ hy)]
theorem cnt_over {A:Sn}{p:Nat}(h:∀ x∈A.pics,∀ k,k<4→x.p k<A.room)(hp:A.room≤p):cnt A.pics p=0 :=
 cnt_zero _ λx hx k hk e=>by have:=h x hx k hk;omega
def pgs (l:List Pic)(m:Nat):Nat:=(List.range m).countP λp=>decide (0<cnt l p)
theorem pgs_succ (l:List Pic)(m:Nat):pgs l (m+1)=pgs l m+if 0<cnt l m then 1 else 0:=by
 rw[pgs,List.range_succ,List.countP_append,List.countP_singleton,pgs]
 by_cases h:0<cnt l m <;> simp[h]
theorem pgs_le (l:List Pic)(m:Nat):pgs l m≤m:=by
 have:=List.countP_le_length (p:=λp=>decide (0<cnt l p)) (l:=List.range m)
 rw[List.length_range]at this;exact this
theorem pgs_all {A:Sn}(h:∀ x∈A.pics,∀ k,k<4→x.p k<A.room){m:Nat}(hm:A.room≤m):pgs A.pics m=A.used:=by
 induction m with
 | zero=>rw[Sn.used,show A.room=0 from by omega];rfl
 | succ m ih =>
   rcases Nat.lt_or_ge m A.room with h1 | h1
   · rw[Sn.used,show A.room=m+1 from by omega];rfl
   · rw[pgs_succ,ih h1,cnt_over h h1];rfl
def cB (l:List Pic)(j:Nat):Int:=if j=0 then 0 else (cnt l (j-1):Nat)
def cA (l:List Pic)(x:Pic)(k j:Nat):Int:=if j=0 then 0 else ((cnt l (j-1)+cntU x (j-1) k:Nat):Int)
theorem cB_nil:cB []=λ_=>0:=by
 funext j;unfold cB;split <;> rfl
theorem cA_zero (l:List Pic)(x:Pic):cA l x 0=cB l:=by
 funext j;unfold cA cB;simp[cntU_zero]
theorem cA_four {l:List Pic}{i:Nat}{x:Pic}(h:l[i]?=some x):cA (l.take i) x 4=cB (l.take (i+1)):=by
 obtain⟨hi,rfl⟩:=List.getElem?_eq_some_iff.1 h
 funext j
 unfold cA cB
 rw[List.take_succ_eq_append_getElem hi,cnt_app,cnt_cons,cnt_nil]
 rfl
theorem cA_set (l:List Pic)(x:Pic)(k:Nat):(λj=>if j=x.p k+1 then cA l x k (x.p k+1)+1 else cA l x k j)=cA l x (k+1):=by
 funext j
 by_cases h:j=x.p k+1
 · subst h
   rw[if_pos rfl]
   simp only[cA,if_neg (Nat.succ_ne_zero _),Nat.add_sub_cancel]
   rw[cntU_succ,if_pos rfl];omega
 · rw[if_neg h]
   unfold cA
   split
   · rfl
   · rw[cntU_succ,if_neg (by omega)];simp
theorem cA_le (l:List Pic)(x:Pic)(k j:Nat)(hk:k≤4):0≤cA l x k j∧cA l x k j≤4*l.length+4:=by
 unfold cA
 have h1:=cnt_le l (j-1)
 have h2:=cntU_mono x (j-1) hk
 have h3:=cntP_le x (j-1)
 have h4:cntU x (j-1) 4=cntP x (j-1):=rfl
 split <;> omega
theorem cB_at (l:List Pic)(p:Nat):cB l (p+1)=(cnt l p:Nat):=by simp[cB]
section
variable {W w:World}{L:List SP}{q b i r:Nat}{ps:List Pg}{A:Sn}
theorem page_at_no (hs:St W w (Room q b ps::L))(hn:∀ h:i<ps.length,ps[i].refs=0)(hi:i<1000) :
   Calls Tryz.prog 140 #[pt q,.int .i64 ((i:Int)+1)] w λe w'=>e=.returned (.pointer none)∧St W w' (Room q b ps::L):=by
 obtain⟨hp,hs⟩:=Room.open hs
 by_cases hil:i<ps.length
 · have hr:=hn hil
   refine EN Tryz.func140 Tryz.ntmps140 rfl rfl λa ha=>?_
   refine RN 7 ha hs λa ha=>?_
   replace ha:=ha.isF 7
   refine RN 4 ha hs λa ha=>?_
   rw[decide_eq_false (by omega)]at ha
   refine RN 9 ha hs λa ha=>?_
   rw[decide_eq_false (by omega)]at ha
   refine RN 6 ha hs λa ha=>?_
   rw[show (i:Int)+1-1=(i:Int) from by omega]at ha
   refine RN 2 ha hs λa ha=>?_
   refine st_set ha (wgT ha rfl (s:=20)) (ld1 ha (hs.rd1 (pgc_ref hil))) rfl λa ha=>?_
   refine RN 2 ha hs λa ha=>?_
   rw[decide_eq_true (by omega)]at ha
   refine RT 3 ha hs ?_
   exact⟨rfl,(Room.close (n:=_) hs rfl hp)⟩
 ·
   refine EN Tryz.func140 Tryz.ntmps140 rfl rfl λa ha=>?_
   refine RN 7 ha hs λa ha=>?_
   replace ha:=ha.isF 7
   refine RN 4 ha hs λa ha=>?_
   rw[decide_eq_false (by omega)]at ha
   refine RN 9 ha hs λa ha=>?_
   rw[decide_eq_true (by omega)]at ha
   refine RT 14 ha hs ?_
   exact⟨rfl,(Room.close (n:=_) hs rfl hp)⟩
theorem page_refs_no (hs:St W w (Room q b ps::L))(hn:∀ h:i<ps.length,ps[i].refs=0)(hi:i<1000) :
   Calls Tryz.prog 70 #[pt q,.int .i64 ((i:Int)+1)] w λe w'=>e=.returned (.int .i64 0)∧St W w' (Room q b ps::L):=by
 refine EN Tryz.func70 Tryz.ntmps70 rfl rfl λa ha=>?_
 refine CL 5 ha hs (page_at_no hs hn hi) λa w ha hs=>?_
 refine RN 5 ha hs λa ha=>?_
 replace ha:=ha.isT 10
 refine RT 3 ha hs ?_
 exact⟨rfl,hs⟩
theorem snap_prefs_any (hs:St W w (Store q r A::L))(hi:i<1000) :
   Calls Tryz.prog 70 #[pt r,.int .i64 ((i:Int)+1)] w λe w'=>e=.returned (.int .i64 (cnt A.pics i))∧St W w' (Store q r A::L):=by
 have hf:=(Store.facts hs).2
 obtain⟨b,m,ps,xs,h1,hw,hr,hs⟩:=Store.open hs
 by_cases hl:∃ h:i<ps.length,0<ps[i].refs
 · obtain⟨h3,h4⟩:=hl
   refine (page_refs (hs.pick (Room r b ps)) h3 h4).mono λe w' ⟨h2,hs⟩=>?_
   rw[hr.refs _ _ (List.getElem?_eq_getElem h3)]at h2
   exact⟨h2,Store.close (b:=b) (m:=m) (ps:=ps) hs h1 hw hr⟩
 · have hn : ∀ h : i < ps.length, ps[i].refs = 0 := fun h => by
     rcases Nat.eq_zero_or_pos ps[i].refs with h2 | h2
     · exact h2
     · exact absurd ⟨h,h2⟩ hl
   have h0:cnt A.pics i=0:=by
     by_cases h:i<ps.length
     · rw[← hr.refs _ _ (List.getElem?_eq_getElem h)];exact hn h
     · exact cnt_over hf (by rw[← hr.len];omega)
   refine (page_refs_no (hs.pick (Room r b ps)) hn hi).mono λe w' ⟨h2,hs⟩=>?_
   rw[h0]
   exact⟨h2,Store.close (b:=b) (m:=m) (ps:=ps) hs h1 hw hr⟩
end
end
section
theorem rep_ints' (k:IntKind)(m:Nat)(x:Int):List.replicate m (Value.int k x)=ints k m (λ_=>x):=by
 rw[ints,fn];exact (List.ext_getElem (by simp) (by simp))
section
variable {W w:World}{L:List SP}{N:Nat}{M:MuB}{p:Pr}{m:Mu}{cf:Cf}{x:Int}
set_option maxHeartbeats 4000000 in
theorem bounds_spec (hs:St W w (MuS W M p m::L))(h:MI p M N m)(hcf:ksCf m.s.k=cf) :
   Calls Tryz.prog 24 #[pt M.mb,.agg (cfC cf).toArray] w λe w'=>e=.returned (.bool true)∧St W w' (MuS W M p m::L):=by
 have hcb:cf.branches=(m.T.most:Int):=by rw[← hcf];exact h.most
 have hcw:cf.workers=(m.ks.length:Int):=by rw[← hcf];exact h.workers
 have hcr:(m.A.room:Int)=4*cf.room:=by rw[← hcf];exact h.room.1
 have hk4:=h.ks
 obtain⟨t,hI⟩:=h.inv
 have hlen:=hI.len
 have hhl:(heldW (m.ks.map (·.1))).length≤m.ks.length:=by
   have h1:=List.length_filter_le (λk:Wk=>k.busy) (m.ks.map (·.1))
   rw[List.length_map]at h1
   rw[heldW,List.length_map];exact h1
 clear hcf
 replace hs:=MuS.open hs
 have hwt:=(Tree.wt (hs.tree M.tq)).most
 have hAf:=Store.facts (hs.store M.sq)
 have hul:=Store.used_le (hs.store M.sq)
 have hur:=Sn.used_room m.A
 have hrm:=hAf.1.room
 obtain⟨s,A,T,J,ks,base,front⟩:=m
 dsimp only at hcb hcw hcr hk4 hlen hhl hwt hAf hul hur hrm hs
 have hall:=pgs_all hAf.2 (m:=200) hrm
 refine EN Tryz.func24 Tryz.ntmps24 rfl rfl λa ha=>?_
 refine BX 1 ha hs λb3 a w ha hs=>?_
 change St W w (blk b3 27 (cfC cf)::_) at hs
 refine RN 3 ha hs λa ha=>?_
 replace hs:=MuS.fold hs M p ⟨s,A,T,J,ks,base,front⟩
 refine CL 0 ha hs (mu_store hs) λa w ha hs=>?_
 refine RN 3 ha hs λa ha=>?_
 replace hs:=MuS.open hs
 dsimp only at hs
 refine CL2 0 ha hs (snap_live (hs.store M.sq)) λadv cv a w ha hs=>?_
 refine DWC 3 (λw0 w'=>Rd w' b3 0 (cfC cf)) [5,25,26] [0,1,2,4,3003,1005,6,7,8,9,10,11,12,13,14,17,18,19,1015,1016,20,21,22,23,24,27,3028,29,1025,1026,30,31] ha hs λa w ha hs hH=>?_
 have hC:=hH.at w (hs.rdAll (b:=b3))
 refine RH 4 ha hs hH hC λa ha=>?_
 refine QH ha (λw hc=>ld1 ha (hc 7 _ rfl)) hC λa ha=>?_
 refine RH 0 ha hs hH hC λa ha=>?_
 refine SS ha (ld1 ha (hC 8 _ rfl)) λa ha=>?_
 refine RH 4 ha hs hH hC λa ha=>?_
 rw[decide_eq_false (by omega)]at ha
 refine RH 4 ha hs hH hC λa ha=>?_
 rw[decide_eq_true (by omega)]at ha
 refine RH 4 ha hs hH hC λa ha=>?_
 refine CL 0 ha hs (snap_room (hs.store M.sq)) λa w ha hs=>?_
 refine CL 0 ha hs (snap_used (hs.store M.sq)) λa w ha hs=>?_
 refine RN 4 ha hs λa ha=>?_
 rw[decide_eq_false (by omega)]at ha
 refine RN 2 ha hs λa ha=>?_
 replace hC:Rd w b3 0 (cfC cf):=hs.rdAll (b:=b3)
 refine QH ha (λw hc=>ld1 ha (hc 9 _ rfl)) hC λa ha=>?_
 refine CL 1 ha hs (snap_room (hs.store M.sq)) λa w ha hs=>?_
 replace hC:=hH.at w (hs.rdAll (b:=b3))
 refine RH 0 ha hs hH hC λa ha=>?_
 refine CL 0 ha hs (snap_used (hs.store M.sq)) λa w ha hs=>?_
 replace hC:=hH.at w (hs.rdAll (b:=b3))
 refine RH 2 ha hs hH hC λa ha=>?_
 rw[decide_eq_false (by omega)]at ha
 refine AL 2 ha hs λb7 a w ha hs=>?_
 rw[rep_ints']at hs
 refine RN 3 ha hs λa ha=>?_
 refine wp_loop_ghost (λμ a w=>∃ (i:Nat),(μ=A.pics.length-i∧i≤A.pics.length)∧Fr a 120 [(0,pt M.mb),(3,pt b3),(5,pt M.sq),(6,.slice adv A.pics.length cv),(7,pt b7),(8,.int .i64 i)]∧St W w (blk b7 134 (ints .i64 201 (cB (A.pics.take i)))::Sl 43 1 adv A.pics.length cv (A.pics.map λx=>.int .i64 x.id)::Store M.sq M.r A::blk b3 27 (cfC cf)::blk M.mb 110 (muC p M ks.length base front)::PlainS W M.B p s::RoP W p M.adO M.cO::Sl 112 1 M.adw ks.length M.cw (ptrs ks)::All (ownK p M.adO M.cO M.tq M.jq M.sq) ks::Tree M.tq M.sq T::Jobs M.jq J::L)) (A.pics.length) (⟨0,⟨rfl,by omega⟩,ha.keep [0,3,5,6,7,8],by rw[List.take_zero,cB_nil];exact hs.sub⟩) ?_
 clear ha hs
 rintro μ a w ⟨i,⟨rfl,hi⟩,ha,hs⟩
 refine IF 6 ha hs (λhc1 a ha=>?_) λhc1 a ha=>?_
 ·
  obtain⟨x,hx⟩:∃ x,A.pics[i]?=some x:=⟨_,List.getElem?_eq_getElem (by omega)⟩
  obtain⟨bv,ov,rfl,hrv⟩:=(hs.pick (Sl 43 1 adv A.pics.length cv (A.pics.map λx=>.int .i64 x.id))).slRd adv (by omega)
  have hxi:=hrv i (.int .i64 x.id) (by rw[List.getElem?_map,hx];rfl)
  have hxp:=hAf.2 x (List.mem_of_getElem? hx)
  have hc4:=cA_four hx
  have htl:(A.pics.take i).length≤200:=by rw[List.length_take];omega
  clear hrv
  refine RN 6 ha hs λa ha=>?_
  refine SS ha (ld1 ha (hxi)) λa ha=>?_
  refine CL2 0 ha hs (snap_pages (hs.store M.sq) hx) λadp cp a w ha hs=>?_
  refine RN 6 ha hs λa ha=>?_
  replace ha:=ha.isF 63
  refine RN 3 ha hs λa ha=>?_
  refine wp_loop_ghost (λμ a w=>∃ (k:Nat),(μ=4-k∧k≤4)∧Fr a 120 [(0,pt M.mb),(3,pt b3),(5,pt M.sq),(6,.slice (some ⟨bv,ov,none⟩) A.pics.length cv),(7,pt b7),(8,.int .i64 i),(9,.slice adp 4 cp),(10,.int .i64 k)]∧St W w (blk b7 134 (ints .i64 201 (cA (A.pics.take i) x k))::Sl 3 1 adp 4 cp (ints .i64 4 (λk=>(x.p k:Int)+1))::Sl 43 1 (some ⟨bv,ov,none⟩) A.pics.length cv (A.pics.map λx=>.int .i64 x.id)::Store M.sq M.r A::blk b3 27 (cfC cf)::blk M.mb 110 (muC p M ks.length base front)::PlainS W M.B p s::RoP W p M.adO M.cO::Sl 112 1 M.adw ks.length M.cw (ptrs ks)::All (ownK p M.adO M.cO M.tq M.jq M.sq) ks::Tree M.tq M.sq T::Jobs M.jq J::L)) (4) (⟨0,⟨rfl,by omega⟩,ha.keep [0,3,5,6,7,8,9,10],by rw[cA_zero];exact hs.sub⟩) ?_
  clear ha hs
  rintro μ a w ⟨k,⟨rfl,hk⟩,ha,hs⟩
  refine IF 4 ha hs (λhc3 a ha=>?_) λhc3 a ha=>?_
  ·
   obtain⟨bp,op,rfl,hrp⟩:=(hs.pick (Sl 3 1 adp 4 cp (ints .i64 4 (λk=>(x.p k:Int)+1)))).slRd adp (by omega)
   have hpk:=hrp k _ (ints_get _ (by omega))
   have hpl:=hxp k (by omega)
   have hct:=cA_le (A.pics.take i) x k (x.p k+1) (by omega)
   clear hrp
   refine RN 6 ha hs λa ha=>?_
   refine SS ha (ld1 ha (hpk)) λa ha=>?_
   refine RN 2 ha hs λa ha=>?_
   rw[decide_eq_false (by omega)]at ha
   refine RN 3 ha hs λa ha=>?_
   refine st_set ha (wgT ha rfl (s:=73)) (ld1 ha (hpk)) rfl λa ha=>?_
   refine RN 2 ha hs λa ha=>?_
   rw[decide_eq_false (by omega)]at ha
   refine RN 4 ha hs λa ha=>?_
   refine SS ha (ld1 ha (hpk)) λa ha=>?_
   rw[show ((x.p k:Nat):Int)+1=((x.p k+1:Nat):Int) from rfl]at ha
   refine RN 1 ha hs λa ha=>?_
   refine SS ha (ld1 ha (hs.rd1 (ints_get _ (by omega)))) λa ha=>?_
   refine ST 2 ha hs (λa w ha hs=>?_) (hlt:=(by rw[ints_len];omega))
   rw[ints_set,cA_set]at hs
   refine RN 3 ha hs λa ha=>?_
   exact⟨4-(k+1),by omega,k+1,⟨rfl,by omega⟩,ha.keep [0,3,5,6,7,8,9,10],hs.sub⟩
  refine RN 3 ha hs λa ha=>?_
  obtain rfl:k=4:=by omega
  rw[hc4]at hs
  exact⟨A.pics.length-(i+1),by omega,i+1,⟨rfl,by omega⟩,ha.keep [0,3,5,6,7,8],hs.sub⟩
 obtain rfl:i=A.pics.length:=by omega
 rw[List.take_length]at hs
 refine RN 5 ha hs λa ha=>?_
 refine wp_loop_ghost (λμ a w=>∃ (q:Nat),(μ=200-q∧q≤200)∧Fr a 120 [(0,pt M.mb),(3,pt b3),(5,pt M.sq),(7,pt b7),(11,.int .i64 (pgs A.pics q:Nat)),(12,.int .i64 ((q:Int)+1))]∧St W w (Store M.sq M.r A::blk b7 134 (ints .i64 201 (cB A.pics))::blk b3 27 (cfC cf)::blk M.mb 110 (muC p M ks.length base front)::PlainS W M.B p s::RoP W p M.adO M.cO::Sl 112 1 M.adw ks.length M.cw (ptrs ks)::All (ownK p M.adO M.cO M.tq M.jq M.sq) ks::Tree M.tq M.sq T::Jobs M.jq J::L)) (200) (⟨0,⟨rfl,by omega⟩,by have h9:=ha.keep [0,3,5,7,11,12];exact h9,hs.sub⟩) ?_
 clear ha hs
 rintro μ a w ⟨q,⟨rfl,hq⟩,ha,hs⟩
 refine IF 4 ha hs (λhc5 a ha=>?_) λhc5 a ha=>?_
 ·
  have hcq:=cB_at A.pics q
  have hps:=pgs_succ A.pics q
  have hpl:=pgs_le A.pics q
  have hcl:=cnt_le A.pics q
  have hq1:q<200:=by omega
  refine DWC 3 (λw0 w'=>w'.cell? ⟨b7,q+1,none⟩=some (.int .i64 (cB A.pics (q+1)))) [1,3] [0,2,4,5,3006,1001,1003,7] ha hs λa w ha hs hH=>?_
  have hC:=hH.at w (hs.rd1 (b:=b7) (ints_get _ (by omega)))
  refine RH 3 ha hs hH hC λa ha=>?_
  rw[show ((q:Nat):Int)+1=((q+1:Nat):Int) from rfl]at ha
  refine RH 1 ha hs hH hC λa ha=>?_
  refine QH ha (λw hc=>ld1 ha (hc)) hC λa ha=>?_
  refine RH 0 ha hs hH hC λa ha=>?_
  refine CL 0 ha hs (snap_room hs) λa w ha hs=>?_
  replace hC:=hH.at w (hs.rd1 (b:=b7) (ints_get _ (by omega)))
  refine RH 0 ha hs hH hC λa ha=>?_
  refine CL 0 ha hs (snap_prefs_any hs (by omega)) λa w ha hs=>?_
  replace hC:=hH.at w (hs.rd1 (b:=b7) (ints_get _ (by omega)))
  refine RH 1 ha hs hH hC λa ha=>?_
  rw[hcq,show decide ((cnt A.pics q:Nat)≠((cnt A.pics q:Nat):Int))=false from by simp]at ha
  replace ha:=ha.isF 99
  refine RN 4 ha hs λa ha=>?_
  refine SS ha (ld1 ha (hs.rd1 (b:=b7) (ints_get _ (by omega)))) λa ha=>?_
  rw[hcq]at ha
  refine IF 1 ha hs (λhc7 a ha=>?_) λhc7 a ha=>?_
  ·
   refine RN 6 ha hs λa ha=>?_
   exact⟨200-(q+1),by omega,q+1,⟨rfl,by omega⟩,by rw[hps,if_pos (by omega)];exact ha.keep [0,3,5,7,11,12],hs.sub⟩
  refine RN 3 ha hs λa ha=>?_
  exact⟨200-(q+1),by omega,q+1,⟨rfl,by omega⟩,by rw[hps,if_neg (by omega)];exact ha.keep [0,3,5,7,11,12],hs.sub⟩
 obtain rfl:q=200:=by omega
 rw[hall]at ha
 refine DWC 1 (λw0 w'=>Rd w' b3 0 (cfC cf)) [7,8,9] [0,1,1002,1003,4,5,6,10,3011,1007,1008,1009,12,13,14] ha hs λa w ha hs hH=>?_
 have hC:=hH.at w (hs.rdAll (b:=b3))
 refine RH 2 ha hs hH hC λa ha=>?_
 refine CL 0 ha hs (snap_room hs) λa w ha hs=>?_
 refine CL 0 ha hs (snap_used hs) λa w ha hs=>?_
 refine RN 2 ha hs λa ha=>?_
 rw[decide_eq_true (by omega)]at ha
 refine RN 2 ha hs λa ha=>?_
 replace hC:Rd w b3 0 (cfC cf):=hs.rdAll (b:=b3)
 refine QH ha (λw hc=>ld1 ha (hc 7 _ rfl)) hC λa ha=>?_
 replace hs:=MuS.fold hs M p ⟨s,A,T,J,ks,base,front⟩
 refine CL 0 ha hs (mu_tree hs) λa w ha hs=>?_
 replace hC:=hH.at w (hs.rdAll (b:=b3))
 replace hs:=MuS.open hs
 dsimp only at hs
 refine RH 0 ha hs hH hC λa ha=>?_
 refine CL2 0 ha hs (tree_all (hs.tree M.tq)) λadt ct a w ha hs=>?_
 replace hC:=hH.at w (hs.rdAll (b:=b3))
 refine RH 4 ha hs hH hC λa ha=>?_
 refine RT 0 ha hs ?_
 exact⟨by rw[decide_eq_true (by omega)],(MuS.fold hs.tail M p ⟨s,A,T,J,ks,base,front⟩).sub⟩
theorem tmod_bd' {x L:Int}(h:0<L):-L<x.tmod L∧x.tmod L<L:=by
 have h1:=Int.natAbs_tmod x L
 have h2:=Nat.mod_lt x.natAbs (show 0<L.natAbs by omega)
 omega
theorem small_nat {k:Nat}(hs:St W w L)(hk:0<k∧k≤1000) :
   Calls Tryz.prog 13 #[.int .i64 x,.int .i64 k] w λe w'=>∃ r:Nat,e=.returned (.int .i64 r)∧r<k∧St W w' L:=by
 have hb:=tmod_bd' (x:=x) (L:=k) (by omega)
 refine EN Tryz.func13 Tryz.ntmps13 rfl rfl λa ha=>?_
 refine IF 11 ha hs (λhc0 a ha=>?_) λhc0 a ha=>?_
 ·
  refine RT 6 ha hs ?_
  exact⟨(x.tmod k).natAbs,by rw[wrap_in (by omega) (by omega),show (((x.tmod k).natAbs:Nat):Int)=0-x.tmod k from by omega],by omega,hs⟩
 refine RT 3 ha hs ?_
 exact⟨(x.tmod k).natAbs,by rw[show (((x.tmod k).natAbs:Nat):Int)=x.tmod k from by omega],by omega,hs⟩
end
end
section
section
variable {W w:World}{L:List SP}{i:Nat}{M:MuB}{p:Pr}{s:Pl}{cf:Cf}
theorem boundsJ (hs:St W w (MuJ W M p cf i s::L)) :
   Calls Tryz.prog 24 #[pt M.mb,.agg (cfC cf).toArray] w λe w'=>e=.returned (.bool true)∧St W w' (MuJ W M p cf i s::L):=by
 replace hs:=MuJ.open hs
 obtain⟨m,⟨rfl,hI,hc⟩,hs⟩:=hs
 exact (bounds_spec hs hI hc).mono λe w' ⟨h1,h2⟩=>⟨h1,MuJ.close h2 hI (Nat.le_refl _) rfl hc⟩
end
end
section
theorem knP_atB {ls:List (List UInt8)}{f i q:Nat}{P:List (List UInt8)}(h:knP ls f P=true)(hi:i<P.length)(hq:q<(P.getD i []).length)(h1:f+i<(ls.getD q []).length):(ls.getD q []).getD (f+i) 0=(P.getD i []).getD q 0:=by
 rw[knP,List.all_eq_true]at h
 have h2:=h i (List.mem_range.2 hi)
 rw[knB,List.all_eq_true]at h2
 have h3:=h2 q (List.mem_range.2 hq)
 rw[decide_eq_true h1,Bool.true_and]at h3
 simpa using h3
theorem RdX.takeN {w:World}{ad:Option Addr}{zs:List BBx}(h:RdX w ad zs)(n:Nat):RdX w ad (zs.take n):=by
 refine⟨λh0=>?_,λx hx=>h.2 x (List.mem_of_mem_take hx)⟩
 obtain⟨b,off,e,hr⟩:=h.1 (by rw[List.length_take]at h0;omega)
 refine⟨b,off,e,λj v hj=>hr j v ?_⟩
 rw[List.map_take,List.getElem?_take]at hj
 split at hj
 · exact hj
 · cases hj
theorem RdB.cell {w:World}{ad:Option Addr}{n b o i:Nat}{bs:List UInt8}(h:RdB w ad n bs)(he:ad=some ⟨b,o,none⟩)(hi:i<bs.length):w.cell? ⟨b,o+i,none⟩=some (.int .u8 ((bs.getD i 0).toNat:Nat)):=by
 obtain⟨b',o',h1,h2⟩:=h.get (by have:=h.1;omega)
 rw[he]at h1;cases h1
 exact h2 i _ (bc_atD hi)
section
variable {W w:World}{L L':List SP}{N:Nat}{M:MuB}{B:RgB}{p:Pr}{m:Mu}
set_option maxHeartbeats 4000000 in
theorem branches_spec (hs:St W w (MuS W M p m::RefG W B p m.s::L))(h:MI p M N m)(hpr:prOk p)(hsz:p.title.size≤1000000000) :
   Calls Tryz.prog 23 #[pt M.mb,pt B.pb] w λe w'=>e=.returned (.bool true)∧St W w' (MuS W M p m::RefG W B p m.s::L):=by
 have hw:=h.wf
 have hhd:=hw.wc.headt
 have hft:=hw.wc.frontt
 have hls:=hw.wc.ls
 have hn8:=hw.wc.n
 obtain⟨t,hI⟩:=h.inv
 have hBr:=h.brs
 have hT:=Tree.wt ((MuS.open hs).tree M.tq)
 have hTm:=hT.most
 obtain⟨A,hs⟩:=RefS.open ((RefG.open (hs.pick (RefG W B p m.s))).pick (RefS B.core m.s.k))
 refine EN Tryz.func23 Tryz.ntmps23 rfl rfl λa ha=>?_
 refine CL 4 ha hs (mu_tree (hs.pick (MuS W M p m))) λa w ha hs=>?_
 replace hs:=MuS.open hs
 refine CL2 0 ha hs (tree_all (hs.tree M.tq)) λadl cl a w ha hs=>?_
 refine RN 1 ha hs λa ha=>?_
 obtain⟨xs,hx1,hx2,hs⟩:=OwnBr.open hs
 have hxl:xs.length=m.T.l.length:=by rw[← hx1,List.length_map]
 replace hs:=MuS.fold hs M p m
 refine RN 3 ha hs λa ha=>?_
 refine wp_loop_ghost (λμ a w=>∃ (i:Nat),(μ=m.T.l.length-i∧i≤m.T.l.length)∧Fr a 172 [(0,pt M.mb),(1,pt B.pb),(5,.slice adl m.T.l.length cl),(6,.int .i64 i)]∧St W w (Sl 45 5 adl m.T.l.length cl (rows brc xs)::All bro xs::MuS W M p m::blk B.pb 65 (rgC p B m.s.g)::RoP W p B.adO B.cO::blk B.core.cb 83 (rcC m.s.k B.core A)::RLn B.core.lb B.core.lo B.core.cL m.s.k.ls::blk B.core.hb 3 (heC m.s.k.ps)::blk B.core.ab 3 (haC m.s.k.ps)::blk B.core.wb 244 (rows wdC m.s.k.ps)::blk B.core.xb 4 (apC m.s.k.ps)::Sl 68 1 A.adM m.s.k.mr.length A.cM (mrC m.s.k.mr)::Sl 223 3 A.adE m.s.k.ev.length A.cE (rows rawC m.s.k.ev)::L)) (m.T.l.length) (⟨0,⟨rfl,by omega⟩,ha.keep [0,1,5,6],hs.sub⟩) ?_
 clear ha hs
 rintro μ a w ⟨i,⟨rfl,hi⟩,ha,hs⟩
 refine IF 6 ha hs (λhc0 a ha=>?_) λhc0 a ha=>?_
 ·
  obtain⟨⟨x,ax,cx⟩,hx⟩:∃ x,xs[i]?=some x:=⟨_,List.getElem?_eq_getElem (by omega)⟩
  have hxT:x∈m.T.l:=by rw[← hx1];exact List.mem_map.2 ⟨_,List.mem_of_getElem? hx,rfl⟩
  obtain⟨i2,px,hpx,hpid⟩:=hI.ofBr hxT
  have hgx:=(hI.brs x hxT).2 px (List.mem_of_getElem? hpx) hpid
  have hfx:=(hI.brs x hxT).1
  obtain⟨hxj,hxk⟩:=hBr x hxT
  have hxo:=hT.ok x hxT
  have hxl6:=hxo.1.1
  obtain⟨bl,ol,rfl,hrl⟩:=hs.slRd adl (by omega)
  clear hrl
  obtain⟨zs,hz,hzc,hs⟩:=St.brOut (hs.pick (All bro xs)) hx
  have hzl:zs.length=x.press.length:=by rw[← hz,List.length_map]
  have hS:∀ w,St W w (Sl 22 1 ax x.press.length cx (zs.map bbv)::All bbo zs::All bro (xs.eraseIdx i)::Sl 45 5 (some ⟨bl,ol,none⟩) m.T.l.length cl (rows brc xs)::MuS W M p m::blk B.pb 65 (rgC p B m.s.g)::RoP W p B.adO B.cO::blk B.core.cb 83 (rcC m.s.k B.core A)::RLn B.core.lb B.core.lo B.core.cL m.s.k.ls::blk B.core.hb 3 (heC m.s.k.ps)::blk B.core.ab 3 (haC m.s.k.ps)::blk B.core.wb 244 (rows wdC m.s.k.ps)::blk B.core.xb 4 (apC m.s.k.ps)::Sl 68 1 A.adM m.s.k.mr.length A.cM (mrC m.s.k.mr)::Sl 223 3 A.adE m.s.k.ev.length A.cE (rows rawC m.s.k.ev)::L)→Rd w bl (ol+i*5) (brC x ax cx)∧RdX w ax zs:=λw h=>⟨row_rd (h.slRdAt bl ol (by omega)) hx,St.rdX (h.sub (M:=Sl 22 1 ax x.press.length cx (zs.map bbv)::All bbo zs::[]))⟩
  replace hs:=hs.sub (M:=Sl 22 1 ax x.press.length cx (zs.map bbv)::All bbo zs::All bro (xs.eraseIdx i)::Sl 45 5 (some ⟨bl,ol,none⟩) m.T.l.length cl (rows brc xs)::MuS W M p m::blk B.pb 65 (rgC p B m.s.g)::RoP W p B.adO B.cO::blk B.core.cb 83 (rcC m.s.k B.core A)::RLn B.core.lb B.core.lo B.core.cL m.s.k.ls::blk B.core.hb 3 (heC m.s.k.ps)::blk B.core.ab 3 (haC m.s.k.ps)::blk B.core.wb 244 (rows wdC m.s.k.ps)::blk B.core.xb 4 (apC m.s.k.ps)::Sl 68 1 A.adM m.s.k.mr.length A.cM (mrC m.s.k.mr)::Sl 223 3 A.adE m.s.k.ev.length A.cE (rows rawC m.s.k.ev)::L)
  refine DWC 3 (λw0 w'=>Rd w' bl (ol+i*5) (brC x ax cx)∧Rd w' B.pb 0 (rgC p B m.s.g)) [8,9,21,22] [0,1,2,3,5,6,7,3004,1008,1009,10,11,12,13,14,15,17,18,19,20,3016,1021,1022,23,24] ha hs λa w ha hs hH=>?_
  have hC:=hH.at w ⟨(hS _ hs).1,hs.rdAll (b:=B.pb)⟩
  refine RH 7 ha hs hH hC λa ha=>?_
  refine QH ha (λw hc=>ld1 ha (hc.1 1 _ rfl)) hC λa ha=>?_
  rw[hfx]at ha
  refine RH 0 ha hs hH hC λa ha=>?_
  refine SS ha (ld1 ha (hC.2 0 _ rfl)) λa ha=>?_
  refine RH 0 ha hs hH hC λa ha=>?_
  refine CL 0 ha hs (ref_frontA ((hs.pick (blk B.core.cb 83 (rcC m.s.k B.core A))).pick (RLn B.core.lb B.core.lo B.core.cL m.s.k.ls)) hw.wc) λa w ha hs=>?_
  replace hC:=hH.at w ⟨(hS _ hs.sub).1,hs.rdAll (b:=B.pb)⟩
  refine RH 2 ha hs hH hC λa ha=>?_
  rw[decide_eq_false (by omega)]at ha
  refine RH 8 ha hs hH hC λa ha=>?_
  refine QH ha (λw hc=>ld1 ha (hc.1 3 _ rfl)) hC λa ha=>?_
  refine RH 0 ha hs hH hC λa ha=>?_
  refine st_set ha (wgT ha rfl (s:=33)) (ld1 ha (hC.1 2 _ rfl)) rfl λa ha=>?_
  refine RH 3 ha hs hH hC λa ha=>?_
  rw[decide_eq_false (by omega)]at ha
  refine RN 4 ha hs λa ha=>?_
  refine wp_loop_ghost (λμ a w=>∃ (k:Nat),(μ=x.press.length-k∧k≤x.press.length)∧Fr a 172 [(0,pt M.mb),(1,pt B.pb),(5,.slice (some ⟨bl,ol,none⟩) m.T.l.length cl),(6,.int .i64 i),(7,.int .i64 k)]∧St W w (Sl 22 1 ax x.press.length cx (zs.map bbv)::All bbo zs::All bro (xs.eraseIdx i)::Sl 45 5 (some ⟨bl,ol,none⟩) m.T.l.length cl (rows brc xs)::MuS W M p m::blk B.pb 65 (rgC p B m.s.g)::RoP W p B.adO B.cO::blk B.core.cb 83 (rcC m.s.k B.core A)::RLn B.core.lb B.core.lo B.core.cL m.s.k.ls::blk B.core.hb 3 (heC m.s.k.ps)::blk B.core.ab 3 (haC m.s.k.ps)::blk B.core.wb 244 (rows wdC m.s.k.ps)::blk B.core.xb 4 (apC m.s.k.ps)::Sl 68 1 A.adM m.s.k.mr.length A.cM (mrC m.s.k.mr)::Sl 223 3 A.adE m.s.k.ev.length A.cE (rows rawC m.s.k.ev)::L)) (x.press.length) (⟨0,⟨rfl,by omega⟩,ha.keep [0,1,5,6,7],hs.sub⟩) ?_
  clear ha hs
  rintro μ a w ⟨k,⟨rfl,hk⟩,ha,hs⟩
  refine RN 7 ha hs λa ha=>?_
  refine SS ha (ld1 ha ((hS _ hs).1 2 _ rfl)) λa ha=>?_
  refine IF 2 ha hs (λhc2 a ha=>?_) λhc2 a ha=>?_
  ·
   have hkl:k<zs.length:=by omega
   obtain⟨bx,ox,z,hade,hzi,hcell,hrz⟩:=(hS _ hs).2.at hkl
   have hzp:x.press.getD k []=z.2.2:=by rw[List.getD_eq_getElem?_getD,← hz,List.getElem?_map,hzi];rfl
   have hzn:z.2.2.length=m.s.k.n:=hxj _ (by rw[← hz];exact List.mem_map.2 ⟨z,List.mem_of_getElem? hzi,rfl⟩)
   refine RN 6 ha hs λa ha=>?_
   refine SS ha (ld1 ha ((hS _ hs).1 2 _ rfl)) λa ha=>?_
   refine RN 1 ha hs λa ha=>?_
   rw[hade]at ha
   refine RN 1 ha hs λa ha=>?_
   refine SS ha (ld1 ha (hcell)) λa ha=>?_
   rw[bbv]at ha
   refine RN 14 ha hs λa ha=>?_
   rw[decide_eq_false (by omega)]at ha
   refine RN 3 ha hs λa ha=>?_
   refine wp_loop_ghost (λμ a w=>∃ (v:Nat),(μ=m.s.k.n-v∧v≤m.s.k.n)∧Fr a 172 [(0,pt M.mb),(1,pt B.pb),(5,.slice (some ⟨bl,ol,none⟩) m.T.l.length cl),(6,.int .i64 i),(7,.int .i64 k),(8,.slice z.1 z.2.2.length z.2.1),(9,.int .i64 v)]∧St W w (Sl 22 1 ax x.press.length cx (zs.map bbv)::All bbo zs::All bro (xs.eraseIdx i)::Sl 45 5 (some ⟨bl,ol,none⟩) m.T.l.length cl (rows brc xs)::MuS W M p m::blk B.pb 65 (rgC p B m.s.g)::RoP W p B.adO B.cO::blk B.core.cb 83 (rcC m.s.k B.core A)::RLn B.core.lb B.core.lo B.core.cL m.s.k.ls::blk B.core.hb 3 (heC m.s.k.ps)::blk B.core.ab 3 (haC m.s.k.ps)::blk B.core.wb 244 (rows wdC m.s.k.ps)::blk B.core.xb 4 (apC m.s.k.ps)::Sl 68 1 A.adM m.s.k.mr.length A.cM (mrC m.s.k.mr)::Sl 223 3 A.adE m.s.k.ev.length A.cE (rows rawC m.s.k.ev)::L)) (m.s.k.n) (⟨0,⟨rfl,by omega⟩,ha.keep [0,1,5,6,7,8,9],hs.sub⟩) ?_
   clear ha hs
   rintro μ a w ⟨v,⟨rfl,hv⟩,ha,hs⟩
   refine IF 12 ha hs (λhc4 a ha=>?_) λhc4 a ha=>?_
   ·
    have hvz:v<z.2.2.length:=by omega
    obtain⟨bz,oz,hz1,_⟩:=((hS _ hs).2.2 z (List.mem_of_getElem? hzi)).get (by omega)
    refine RN 6 ha hs λa ha=>?_
    refine SS ha (ld1 ha ((hS _ hs).1 1 _ rfl)) λa ha=>?_
    rw[hfx]at ha
    refine RN 2 ha hs λa ha=>?_
    rw[show ((frontK m.s.k:Nat):Int)+(k:Int)=((frontK m.s.k+k:Nat):Int) from rfl]at ha
    refine RN 2 ha hs λa ha=>?_
    obtain⟨ys,hys,hs⟩:=RLn.open (hs.pick (RLn B.core.lb B.core.lo B.core.cL m.s.k.ls))
    have hyl:ys.length=m.s.k.ls.length:=by rw[← hys,prx_len]
    obtain⟨b9,o9,y,hbe,hy,_,_⟩:=(St.rdXe hs).at (i:=v) (by omega)
    cases hbe
    have hyv:m.s.k.ls.getD v []=y.2.2:=by rw[← hys,prx_get hy]
    have hkn:frontK m.s.k+k<y.2.2.length→y.2.2.getD (frontK m.s.k+k) 0=z.2.2.getD v 0:=λh1=>by
      have:=knP_atB (i:=k) (q:=v) hxk (by omega) (by rw[hzp];exact hvz) (by rw[hyv];exact h1)
      rw[hyv,hzp]at this;exact this
    have hQ:∀ w,St W w (Sl 128 1 (some ⟨B.core.lb,B.core.lo,none⟩) m.s.k.ls.length B.core.cL (ys.map bbv)::All bbo ys::Sl 22 1 ax x.press.length cx (zs.map bbv)::All bbo zs::blk B.pb 65 (rgC p B m.s.g)::blk B.core.cb 83 (rcC m.s.k B.core A)::[])→(Rd w B.pb 0 (rgC p B m.s.g)∧Rd w B.core.cb 0 (rcC m.s.k B.core A))∧(w.cell? ⟨B.core.lb,B.core.lo+v,none⟩=some (bbv y)∧RdB w y.1 y.2.2.length y.2.2)∧RdB w z.1 z.2.2.length z.2.2:=λw h=>by
      obtain⟨b8,o8,y2,hbe2,hy2,hc2,hr2⟩:=(St.rdXe h).at (i:=v) (by omega)
      cases hbe2
      rw[hy]at hy2;cases hy2
      exact⟨⟨h.rdAll (b:=B.pb),h.rdAll (b:=B.core.cb)⟩,⟨hc2,hr2⟩,(St.rdX (h.sub (M:=Sl 22 1 ax x.press.length cx (zs.map bbv)::All bbo zs::[]))).2 z (List.mem_of_getElem? hzi)⟩
    refine DWC 0 (λw0 w'=>(Rd w' B.pb 0 (rgC p B m.s.g)∧Rd w' B.core.cb 0 (rcC m.s.k B.core A))∧(w'.cell? ⟨B.core.lb,B.core.lo+v,none⟩=some (bbv y)∧RdB w' y.1 y.2.2.length y.2.2)∧RdB w' z.1 z.2.2.length z.2.2) [32] [0,1,2,3,8,1004,5,6,1007,9,10,1011,12,13,14,15,16,17,22,26,29,30,31,3018,19,20,3021,23,24,3025,27,3028,1032,33,34] ha hs λa w ha hs hH=>?_
    have hC:=hH.at w (hQ _ hs.sub)
    refine RH 5 ha hs hH hC λa ha=>?_
    refine SS ha (ld1 ha (hC.1.1 0 _ rfl)) λa ha=>?_
    refine RH 2 ha hs hH hC λa ha=>?_
    refine SS ha (ld1 ha (hC.1.2 10 _ rfl)) λa ha=>?_
    refine RH 2 ha hs hH hC λa ha=>?_
    refine SS ha (ld1 ha (hC.2.1.1)) λa ha=>?_
    rw[bbv]at ha
    refine RH 3 ha hs hH hC λa ha=>?_
    refine ha.by (s:=109) (λhg14 ha=>?_) (λhg14 ha=>?_)
    ·
     obtain⟨by9,oy9,hye,_⟩:=hC.2.1.2.get (by omega)
     have hlt9:frontK m.s.k+k<y.2.2.length:=by omega
     have hkn2:=hkn hlt9
     refine RH 7 ha hs hH hC λa ha=>?_
     rw[hz1]at ha
     refine RH 1 ha hs hH hC λa ha=>?_
     refine QH ha (λw hc=>ld1 ha (hc.1.1 0 _ rfl)) hC λa ha=>?_
     refine RH 2 ha hs hH hC λa ha=>?_
     refine QH ha (λw hc=>ld1 ha (hc.1.2 10 _ rfl)) hC λa ha=>?_
     refine RH 2 ha hs hH hC λa ha=>?_
     refine QH ha (λw hc=>ld1 ha (hc.2.1.1)) hC λa ha=>?_
     rw[bbv]at ha
     rw[hye]at ha
     refine RH 1 ha hs hH hC λa ha=>?_
     refine QH ha (λw hc=>ld1 ha (RdB.cell hc.2.1.2 hye hlt9)) hC λa ha=>?_
     rw[hkn2]at ha
     refine RH 0 ha hs hH hC λa ha=>?_
     refine st_set ha (wgT ha rfl (s:=109)) (ld1 ha (RdB.cell hC.2.2 hz1 hvz)) rfl λa ha=>?_
     refine RH 1 ha hs hH hC λa ha=>?_
     rw[dne]at ha
     refine RH 1 ha hs hH hC λa ha=>?_
     replace ha:=ha.isF 129
     refine RN 4 ha hs λa ha=>?_
     rw[← hz1]at ha
     exact⟨m.s.k.n-(v+1),by omega,v+1,⟨rfl,by omega⟩,ha.keep [0,1,5,6,7,8,9],(RLn.close (hs.sub (M:=Sl 128 1 (some ⟨B.core.lb,B.core.lo,none⟩) m.s.k.ls.length B.core.cL (ys.map bbv)::All bbo ys::Sl 22 1 ax x.press.length cx (zs.map bbv)::All bbo zs::All bro (xs.eraseIdx i)::Sl 45 5 (some ⟨bl,ol,none⟩) m.T.l.length cl (rows brc xs)::MuS W M p m::blk B.pb 65 (rgC p B m.s.g)::RoP W p B.adO B.cO::blk B.core.cb 83 (rcC m.s.k B.core A)::blk B.core.hb 3 (heC m.s.k.ps)::blk B.core.ab 3 (haC m.s.k.ps)::blk B.core.wb 244 (rows wdC m.s.k.ps)::blk B.core.xb 4 (apC m.s.k.ps)::Sl 68 1 A.adM m.s.k.mr.length A.cM (mrC m.s.k.mr)::Sl 223 3 A.adE m.s.k.ev.length A.cE (rows rawC m.s.k.ev)::L)) hys).sub⟩
    refine RH 20 ha hs hH hC λa ha=>?_
    refine RN 4 ha hs λa ha=>?_
    exact⟨m.s.k.n-(v+1),by omega,v+1,⟨rfl,by omega⟩,ha.keep [0,1,5,6,7,8,9],(RLn.close (hs.sub (M:=Sl 128 1 (some ⟨B.core.lb,B.core.lo,none⟩) m.s.k.ls.length B.core.cL (ys.map bbv)::All bbo ys::Sl 22 1 ax x.press.length cx (zs.map bbv)::All bbo zs::All bro (xs.eraseIdx i)::Sl 45 5 (some ⟨bl,ol,none⟩) m.T.l.length cl (rows brc xs)::MuS W M p m::blk B.pb 65 (rgC p B m.s.g)::RoP W p B.adO B.cO::blk B.core.cb 83 (rcC m.s.k B.core A)::blk B.core.hb 3 (heC m.s.k.ps)::blk B.core.ab 3 (haC m.s.k.ps)::blk B.core.wb 244 (rows wdC m.s.k.ps)::blk B.core.xb 4 (apC m.s.k.ps)::Sl 68 1 A.adM m.s.k.mr.length A.cM (mrC m.s.k.mr)::Sl 223 3 A.adE m.s.k.ev.length A.cE (rows rawC m.s.k.ev)::L)) hys).sub⟩
   refine RN 3 ha hs λa ha=>?_
   exact⟨x.press.length-(k+1),by omega,k+1,⟨rfl,by omega⟩,ha.keep [0,1,5,6,7],hs.sub⟩
  refine RN 0 ha hs λa ha=>?_
  refine wp_seq_cut (M:=λa w=>∃ b11:Nat,Fr a 172 [(0,pt M.mb),(1,pt B.pb),(5,.slice (some ⟨bl,ol,none⟩) m.T.l.length cl),(6,.int .i64 i),(11,pt b11),(12,.bool true)]∧St W w (blk b11 116 (ints .i32 32 px.g)::Sl 22 1 ax x.press.length cx (zs.map bbv)::All bbo zs::All bro (xs.eraseIdx i)::Sl 45 5 (some ⟨bl,ol,none⟩) m.T.l.length cl (rows brc xs)::MuS W M p m::blk B.pb 65 (rgC p B m.s.g)::RoP W p B.adO B.cO::blk B.core.cb 83 (rcC m.s.k B.core A)::RLn B.core.lb B.core.lo B.core.cL m.s.k.ls::blk B.core.hb 3 (heC m.s.k.ps)::blk B.core.ab 3 (haC m.s.k.ps)::blk B.core.wb 244 (rows wdC m.s.k.ps)::blk B.core.xb 4 (apC m.s.k.ps)::Sl 68 1 A.adM m.s.k.mr.length A.cM (mrC m.s.k.mr)::Sl 223 3 A.adE m.s.k.ev.length A.cE (rows rawC m.s.k.ev)::L)) ?_ ?_
  ·
   refine DWC 0 (λw0 w'=>Rd w' bl (ol+i*5) (brC x ax cx)) [1,11] [0,2,3,4,5,3006,2001,2007,8,9,10,1011,1012,13] ha hs λa w ha hs hH=>?_
   have hC:=hH.at w ((hS _ hs).1)
   refine RH 5 ha hs hH hC λa ha=>?_
   refine QH ha (λw hc=>ld1 ha (hc 4 _ rfl)) hC λa ha=>?_
   refine RH 0 ha hs hH hC λa ha=>?_
   refine DN [(1,[2007,8,9,10,1011,1012,13]),(11,[1001,1007,8,9,10,1012,13])] (by kernel_rfl) rfl ⟨⟨_,rfl,?_⟩,⟨_,rfl,?_⟩,trivial⟩
   ·
    refine RH 0 ha hs hH hC λa ha=>?_
    refine CL 0 ha hs (mu_store (hs.pick (MuS W M p m))) λa w ha hs=>?_
    replace hC:=hH.at w ((hS _ hs.sub).1)
    refine RH 0 ha hs hH hC λa ha=>?_
    refine DN [(7,[8,9,10,1011,1012,13]),(11,[1007,8,9,10,1012,13])] (by kernel_rfl) rfl ⟨⟨_,rfl,?_⟩,⟨_,rfl,?_⟩,trivial⟩
    ·
     replace hs:=MuS.open (hs.pick (MuS W M p m))
     refine RH 0 ha hs hH hC λa ha=>?_
     refine CL 0 ha hs (snap_state_id (hs.store M.sq) hpx hpid) λa w ha hs=>?_
     replace hs:=MuS.fold hs M p m
     refine RN 3 ha hs λa ha=>?_
     refine st_alloc ha rfl hs Ty.t116 rfl λb11 a w ha hs ho=>?_
     clear ho
     replace hC:=hH.at w ((hS _ hs.sub).1)
     change St W w (blk b11 116 (ints .i32 32 (λ_=>0))::_) at hs
     refine RH 0 ha hs hH hC λa ha=>?_
     refine SA 0 ha hs λa w ha hs=>?_
     refine RN 1 ha hs λa ha=>?_
     exact⟨_,ha.keep [0,1,5,6,11,12],hs.sub⟩
    refine RH 0 ha hs hH hC λa ha=>?_
    refine st_alloc ha rfl hs Ty.t116 rfl λb11 a w ha hs ho=>?_
    clear ho
    replace hC:=hH.at w ((hS _ hs.sub).1)
    change St W w (blk b11 116 (ints .i32 32 (λ_=>0))::_) at hs
    replace hs:=MuS.open (hs.pick (MuS W M p m))
    refine RH 0 ha hs hH hC λa ha=>?_
    refine CL 0 ha hs (snap_state_id (hs.store M.sq) hpx hpid) λa w ha hs=>?_
    replace hs:=MuS.fold hs M p m
    refine SA 3 ha hs λa w ha hs=>?_
    refine RN 1 ha hs λa ha=>?_
    exact⟨_,ha.keep [0,1,5,6,11,12],hs.sub⟩
   refine RH 0 ha hs hH hC λa ha=>?_
   refine st_alloc ha rfl hs Ty.t116 rfl λb11 a w ha hs ho=>?_
   clear ho
   replace hC:=hH.at w ((hS _ hs.sub).1)
   change St W w (blk b11 116 (ints .i32 32 (λ_=>0))::_) at hs
   refine RH 0 ha hs hH hC λa ha=>?_
   refine CL 0 ha hs (mu_store (hs.pick (MuS W M p m))) λa w ha hs=>?_
   replace hC:=hH.at w ((hS _ hs.sub).1)
   replace hs:=MuS.open (hs.pick (MuS W M p m))
   refine RH 0 ha hs hH hC λa ha=>?_
   refine CL 0 ha hs (snap_state_id (hs.store M.sq) hpx hpid) λa w ha hs=>?_
   replace hs:=MuS.fold hs M p m
   refine SA 3 ha hs λa w ha hs=>?_
   refine RN 1 ha hs λa ha=>?_
   exact⟨_,ha.keep [0,1,5,6,11,12],hs.sub⟩
  clear ha;(try clear hs)
  rintro a w ⟨b11,ha,hs⟩
  refine DWC 1 (λw0 w'=>Rd w' b11 0 (ints .i32 32 px.g)∧Rd w' B.pb 0 (rgC p B m.s.g)∧Rd w' bl (ol+i*5) (brC x ax cx)) [7,11,15,16,21,26,27,28] [0,1,2,4,5,6,8,9,10,12,13,14,17,18,19,20,22,23,24,25,3003,3007,3011,3015,3021,3026,3027,1016,1028,29,30] ha hs λa w ha hs hH=>?_
  have hC:=hH.at w ⟨hs.rdAll (b:=b11),hs.rdAll (b:=B.pb),(hS _ hs.sub).1⟩
  refine RH 3 ha hs hH hC λa ha=>?_
  replace ha:=ha.isF 143
  refine RH 17 ha hs hH hC λa ha=>?_
  refine QH ha (λw hc=>ex_loadN ha Tryz.underlying116 rfl Ty.t116 (hc.1)) hC λa ha=>?_
  refine QH ha (λw hc=>ex_loadN ha Tryz.underlying34 rfl Ty.t34 (rgC_pr hc.2.1)) hC λa ha=>?_
  refine QH ha (λw hc=>ex_loadN ha Tryz.underlying63 rfl Ty.t63 (rgC_st hc.2.1)) hC λa ha=>?_
  refine QH ha (λw hc=>ld1 ha (hc.2.1 0 _ rfl)) hC λa ha=>?_
  refine QH ha (λw hc=>ld1 ha (hc.2.2 2 _ rfl)) hC λa ha=>?_
  refine QH ha (λw hc=>ld1 ha (hc.2.2 3 _ rfl)) hC λa ha=>?_
  refine RH 1 ha hs hH hC λa ha=>?_
  rw[cutAd_zero,Nat.sub_zero,Nat.sub_zero]at ha
  refine CL 0 ha hs (ref_frontA ((hs.pick (blk B.core.cb 83 (rcC m.s.k B.core A))).pick (RLn B.core.lb B.core.lo B.core.cL m.s.k.ls)) hw.wc) λa w ha hs=>?_
  replace hC:=hH.at w ⟨hs.rdAll (b:=b11),hs.rdAll (b:=B.pb),(hS _ hs.sub).1⟩
  refine RH 0 ha hs hH hC λa ha=>?_
  refine CL 0 ha hs (refFold_len (p:=p) (P:=x.press.take x.done) (zs:=zs.take x.done) (fr:=frontK m.s.k) (hs.pick (RoP W p B.adO B.cO)) (by rw[List.length_take];omega) hpr hsz (hw.gok hpr) ⟨by rw[List.length_take];omega,λb hb=>hxo.1.2 b (List.mem_of_mem_take hb)⟩ (by rw[List.map_take,hz]) (by omega) (λw' h=>(St.rdX (h.sub (M:=Sl 22 1 ax x.press.length cx (zs.map bbv)::All bbo zs::[]))).takeN x.done)) λa w ha ⟨_,hs⟩=>?_
  replace hC:=hH.at w ⟨hs.rdAll (b:=b11),hs.rdAll (b:=B.pb),(hS _ hs.sub).1⟩
  refine RH 0 ha hs hH hC λa ha=>?_
  refine QP ha (λw=>ex_neqA ha Tryz.underlying63 Tryz.underlying21 Ty.t21 (by kernel_rfl) Tryz.eqGuardType63) λa ha=>?_
  rw[hgx,sameN_self,Bool.not_true]at ha
  refine RH 1 ha hs hH hC λa ha=>?_
  replace ha:=ha.isF 171
  refine RN 4 ha hs λa ha=>?_
  exact⟨m.T.l.length-(i+1),by omega,i+1,⟨rfl,by omega⟩,ha.keep [0,1,5,6],(St.brIn (n:=x.press.length) (L':=Sl 45 5 (some ⟨bl,ol,none⟩) m.T.l.length cl (rows brc xs)::MuS W M p m::blk B.pb 65 (rgC p B m.s.g)::RoP W p B.adO B.cO::blk B.core.cb 83 (rcC m.s.k B.core A)::RLn B.core.lb B.core.lo B.core.cL m.s.k.ls::blk B.core.hb 3 (heC m.s.k.ps)::blk B.core.ab 3 (haC m.s.k.ps)::blk B.core.wb 244 (rows wdC m.s.k.ps)::blk B.core.xb 4 (apC m.s.k.ps)::Sl 68 1 A.adM m.s.k.mr.length A.cM (mrC m.s.k.mr)::Sl 223 3 A.adE m.s.k.ev.length A.cE (rows rawC m.s.k.ev)::L) (hs.sub (M:=Sl 22 1 ax x.press.length cx (zs.map bbv)::All bbo zs::All bro (xs.eraseIdx i)::Sl 45 5 (some ⟨bl,ol,none⟩) m.T.l.length cl (rows brc xs)::MuS W M p m::blk B.pb 65 (rgC p B m.s.g)::RoP W p B.adO B.cO::blk B.core.cb 83 (rcC m.s.k B.core A)::RLn B.core.lb B.core.lo B.core.cL m.s.k.ls::blk B.core.hb 3 (heC m.s.k.ps)::blk B.core.ab 3 (haC m.s.k.ps)::blk B.core.wb 244 (rows wdC m.s.k.ps)::blk B.core.xb 4 (apC m.s.k.ps)::Sl 68 1 A.adM m.s.k.mr.length A.cM (mrC m.s.k.mr)::Sl 223 3 A.adE m.s.k.ev.length A.cE (rows rawC m.s.k.ev)::L)) hx hz rfl).sub⟩
 refine RT 2 ha hs ?_
 refine⟨rfl,?_⟩
 exact (RefG.fold (RefS.fold hs B.core m.s.k A) B p m.s).sub
end
section
variable {W w:World}{L:List SP}{i:Nat}{M:MuB}{B:RgB}{p:Pr}{s:Pl}{cf:Cf}
theorem branchesJ (hs:St W w (MuJ W M p cf i s::RefG W B p s::L))(hpr:prOk p)(hsz:p.title.size≤1000000000) :
   Calls Tryz.prog 23 #[pt M.mb,pt B.pb] w λe w'=>e=.returned (.bool true)∧St W w' (MuJ W M p cf i s::RefG W B p s::L):=by
 replace hs:=MuJ.open hs
 obtain⟨m,⟨rfl,hI,hc⟩,hs⟩:=hs
 exact (branches_spec hs hI hpr hsz).mono λe w' ⟨h1,h2⟩=>⟨h1,MuJ.close h2 hI (Nat.le_refl _) rfl hc⟩
end
end
section
def prS (p:Pr)(s:Pl)(P:List UInt8):Pl:=P.foldl (λs x=>(pressP p x s).2) s
theorem prS_succ {p:Pr}{s:Pl}{P:List UInt8}{i:Nat}(h:i<P.length):prS p s (P.take (i+1))=(pressP p P[i] (prS p s (P.take i))).2:=by
 rw[prS,List.take_succ_eq_append_getElem h,List.foldl_append];rfl
theorem prS_wf {p:Pr}:∀ (P:List UInt8) {s:Pl},WF' p s→WF' p (prS p s P)
 | [],_,h=>h
 | x::P,_,h=>prS_wf P (h.press x)
structure Fsh (M:MuB)(n i:Nat)(cf:Cf)(A:List UInt8)(m:Mu):Prop where
 mi:MI sumP M (20*i+1) m
 two:Two sumP 12 0 [A,[]] m.s
 cf:ksCf m.s.k=cf
 brs:∀ y∈m.T.l,y.done=0∧y.press≠[]∧y.press.length≤i
 J:m.J=m.T.l.map (jb m.T.epoch)
 idle:∀ k∈m.ks,k.1.busy=false
 has:0<i→m.T.l≠[]
theorem Fsh.unf {M:MuB}{n i:Nat}{cf:Cf}{A:List UInt8}{m:Mu}(h:Fsh M n i cf A m):∀ y∈m.T.l,y.done<y.press.length:=λy hy=>by
 obtain⟨h1,h2,_⟩:=h.brs y hy
 rw[h1];exact List.length_pos_iff.2 h2
theorem Fsh.next {M:MuB}{n i:Nat}{cf:Cf}{A:List UInt8}{m m':Mu}{x:UInt8}(h:Fsh M n i cf A m)(hA:A.length=i)(h8:i<8)(hn:0<m.T.most)
   (hs:m'.s=(pressP sumP x m.s).2) (hI:MI sumP M (20*i+1+20) m') (hR:(pressP sumP x m.s).2.k.cl=false→∃ t',Ran sumP { m with s:=(pressP sumP x m.s).2 } m' t') (hT:WT m'.T):Fsh M n (i+1) cf (A++[x]) m':=by
 obtain⟨e1,t1⟩:=h.two.press x (by show A.length<1000;omega) (by show A.length<_;omega)
 replace t1:Two sumP 12 0 [A++[x],[]] (pressP sumP x m.s).2:=t1
 obtain⟨t',hR⟩:=hR t1.cl
 have hf:m.front=0:=by
   rw[h.mi.front,h.two.front]
   have:=front_two A []
   rw[this];simp
 have hf1:frontK (pressP sumP x m.s).2.k=0:=by
   rw[t1.front]
   have:=front_two (A++[x]) []
   rw[this];simp
 have hf0:frontK m.s.k=0:=by rw[← h.mi.front];exact hf
 have hh:headK (pressP sumP x m.s).2.k=i+1:=by
   rw[t1.head];show (A++[x]).length=_;rw[List.length_append,hA];rfl
 obtain⟨q1,q2,l,q3,q4⟩:=hR.keep (by show m.front=frontK (pressP sumP x m.s).2.k;rw[hf,hf1]) (λy hy=>by
   show knP (pressP sumP x m.s).2.k.ls (frontK (pressP sumP x m.s).2.k) y.press=true
   have h1:=(h.mi.brs y hy).2
   rw[hf0,h.two.ls]at h1
   rw[t1.ls,hf1]
   exact knP_more (me:=0) (x:=x) h1 (by
     have:=(h.brs y hy).2.2
     show 0+y.press.length≤A.length;omega))
 replace q1:m'.ks=m.ks:=q1
 replace q2:m'.T.epoch=m.T.epoch:=q2
 replace q3:m'.T.l=m.T.l++l:=q3
 have q5:∀ y∈l,y.done=0∧y.press≠[]∧y.press.length=i+1:=λy hy=>by
   obtain⟨a1,a2,a3⟩:=q4 y hy
   refine⟨a1,a2,?_⟩
   rw[a3]
   show headK (pressP sumP x m.s).2.k-frontK (pressP sumP x m.s).2.k=i+1
   rw[hh,hf1];rfl
 have hbr:∀ y∈m'.T.l,y.done=0∧y.press≠[]∧y.press.length≤i+1:=λy hy=>by
   rw[q3]at hy
   rcases List.mem_append.1 hy with hy | hy
   · obtain⟨a1,a2,a3⟩:=h.brs y hy
     exact⟨a1,a2,by omega⟩
   · obtain⟨a1,a2,a3⟩:=q5 y hy
     exact⟨a1,a2,by omega⟩
 refine⟨by have h1:=hI.more (N':=20*(i+1)+1) (by omega);exact h1,by rw[hs];exact t1,by rw[hs,(Nxt.press h.mi.wf x).cf];exact h.cf,hbr,?_,by rw[q1];exact h.idle,λ_=>hR.has hn (by show frontK (pressP sumP x m.s).2.k<headK (pressP sumP x m.s).2.k;omega)⟩
 rw[hR.jobs]
 show jobsT m'.T m.J=_
 rw[h.J,← q2]
 exact jobs_new hT (λy hy=>by
   obtain⟨a1,a2,_⟩:=hbr y hy
   rw[a1];exact List.length_pos_iff.2 a2) q3
theorem Bit.len {p:Pr}{A A':Sn}{T T':Tr}{J J':Js}{k k':Wk}{z:Bool}(hb:Bit p A T J k z A' T' J' k'):T'.l.length=T.l.length:=by
 cases hb <;> first | rfl | simp[Tr.pub]
theorem todo_le8 (l:List Br)(h:∀ y∈l,y.press.length≤8):todo l≤24*l.length:=by
 induction l with
 | nil=>simp[todo]
 | cons y l ih =>
   have h1:=ih λz hz=>h z (List.mem_cons_of_mem _ hz)
   have h2:=h y (List.mem_cons_self ..)
   have h3:todo (y::l)=3*(y.press.length-y.done)+todo l:=by simp[todo]
   rw[h3,List.length_cons];omega
structure Wrk (M:MuB)(s:Pl)(q N R:Nat)(m:Mu):Prop where
 mi:MI sumP M N m
 s:m.s=s
 tok:Tok m.T m.J (m.ks.map (·.1))
 left:todo m.T.l=R+spent (m.ks.map (·.1))
 two:m.ks.length=2
 room:m.A.room=80
 len:m.T.l.length=q
section
variable {W w:World}{L:List SP}{M:MuB}{s:Pl}{q N R i:Nat}{m:Mu}
theorem wrk_bit (hs:St W w (MuS W M sumP m::L))(h:Wrk M s q N R m)(hcl:s.k.cl=false)(hi:i<2)(hN:N≤1000000) :
   Calls Tryz.prog 17 #[pt M.mb,.int .i64 i] w λe w'=>∃ (z:Bool) (m':Mu) (R':Nat),e=.returned (.bool z) ∧
     (Wrk M s q (N+1) R' m'∧((z=false∧m'=m∧R'=R∧m.J=[]∧∀ k wb,m.ks[i]?=some (k,wb)→k.busy=false)∨(z=true∧R'+1=R)))∧St W w' (MuS W M sumP m'::L):=by
 obtain⟨⟨k,wb⟩,hk⟩:∃ y,m.ks[i]?=some y:=⟨_,List.getElem?_eq_getElem (by rw[h.two];exact hi)⟩
 have hT:=Tree.wt ((MuS.open hs).tree M.tq)
 obtain⟨t,hI⟩:=h.mi.inv
 have hlen:=hI.len
 have hhl:(heldW (m.ks.map (·.1))).length≤2:=by
   have h1:=List.length_filter_le (λk:Wk=>k.busy) (m.ks.map (·.1))
   rw[List.length_map,h.two]at h1
   rw[heldW,List.length_map];exact h1
 have hTm:=hT.most
 have hroom:4*m.A.pics.length≤m.A.room:=by rw[h.room];omega
 refine (mu_work hs h.mi (by rw[h.s];exact hcl) hk sumP_ok (by decide) (by omega)).mono λe w' ⟨z,A',T',J',k',h1,⟨hb,h2⟩,hs⟩=>?_
 obtain⟨p1,p2⟩:=fst_set (k':=k') hk
 obtain⟨ht,hd⟩:=(h.tok.permW p1).bit hT hroom hb
 have hsp:=spent_perm p1
 have hsp2:=spent_perm p2
 have hlf:=h.left
 have htok:Tok T' J' ((m.ks.set i (k',wb)).map (·.1)):=ht.permW p2.symm
 rcases hd with ⟨d1,d2,d3,d4,d5,d6,d7⟩ | ⟨d1,d2⟩
 · have hse : m.ks.set i (k', wb) = m.ks := by
     rw[d7]
     obtain⟨hil,he⟩:=List.getElem?_eq_some_iff.1 hk
     rw[← he,List.set_getElem_self]
   have hme:({ m with A:=A',T:=T',J:=J',ks:=m.ks.set i (k',wb) }:Mu)=m:=by
     rw[hse,d2,d3,d5,← d4]
   rw[hme]at h2 hs
   exact⟨z,m,R,h1,⟨⟨h2,h.s,h.tok,h.left,h.two,h.room,h.len⟩,.inl ⟨d1,rfl,rfl,d4,λk9 wb9 h9=>by rw[hk]at h9;cases h9;exact d6⟩⟩,hs⟩
 · have hbd:=htok.bound.1
   have hrm:A'.room=m.A.room:=by
     have h5:(A'.room:Int)=4*m.s.k.room:=h2.room.1
     have h6:(m.A.room:Int)=4*m.s.k.room:=h.mi.room.1
     omega
   refine⟨z,_,R-1,h1,⟨⟨h2,h.s,htok,?_,by rw[List.length_set];exact h.two,hrm.trans h.room,hb.len.trans h.len⟩,.inr ⟨d1,by omega⟩⟩,hs⟩
   show todo T'.l=R-1+spent ((m.ks.set i (k',wb)).map (·.1))
   omega
end
theorem worked_new {W w:World}{L:List SP}{adP:Option Addr}{cP r1:Nat}{cf:Cf}(hcf:cf=⟨((2:Nat):Int),((0:Nat):Int),0,((0:Nat):Int),((12:Nat):Int),1,0,((1+r1:Nat):Int),((2:Nat):Int),((20:Nat):Int)⟩)(hmc:mayCf cf)(hs:St W w (RoP W sumP adP cP::L)) :
   Calls Tryz.prog 14 #[.agg (cfC cf).toArray,.agg (prV sumP adP cP).toArray,.slice none 0 0] w λr w'=>∃ (M:MuB) (m:Mu),r=.returned (.tuple #[pt M.mb,.int .i64 0]) ∧
     (M.B.gs=⟨cf.guess,cf.order,[]⟩∧m.s=newP sumP cf∧MI sumP M 1 m∧m.T.l=[]∧m.J=[]∧∀ k∈m.ks,k.1=wk0)∧St W w' (MuS W M sumP m::RoP W sumP adP cP::L):=by
 subst hcf
 exact mu_new (tb:=[]) hs hmc sumP_ok (by decide) (by decide) (by decide) (by decide) (λw' h=>RdB.nil)
set_option maxHeartbeats 16000000 in
theorem multiWorked_walk (a0:Option Addr)(len0 cap0:Nat)(z0:List Int)(nn:Int)(W:World)(w0:ArgInts .u8 W a0 len0 cap0 z0)(w1:(Lit.int .i64 nn).wf=true) :
   Calls Tryz.prog 3 #[.slice a0 len0 cap0,.int .i64 nn] W λe w'=>e=.returned (.bool true)∧Below W.heap.size W w':=by
 have hs:=St.start W
 obtain⟨P0,hP0,hrP0⟩:=w0.bytesB
 have hcap0:=capLe w0
 refine EN Tryz.func3 Tryz.ntmps3 rfl rfl λa ha=>?_
 refine CL 3 ha hs (begun26 hs) λa w ha hs=>?_
 refine RN 5 ha hs λa ha=>?_
 replace ha:=ha.isF 19
 refine CL2 3 ha hs (shortN (K:=8) hs hrP0 hcap0) λaP cP a w ha ⟨hrP,hcP,hs⟩=>?_
 refine RN 1 ha hs λa ha=>?_
 have hPl:(P0.take 8).length≤8:=by rw[List.length_take];omega
 generalize P0.take 8=P at ha hrP hcP hPl
 refine CL1 2 ha hs (small_nat (k:=8) hs (by decide)) λr1 a w ha ⟨hr1,hs⟩=>?_
 refine RN 1 ha hs λa ha=>?_
 rw[show (1:Int)+(r1:Int)=((1+r1:Nat):Int) from by omega]at ha
 refine AL 4 ha hs λb6 a w ha hs=>?_
 refine SA 0 ha hs λa w ha hs=>?_
 change St W w (blk b6 27 (cfC ⟨2,0,0,0,12,1,0,(1+r1:Nat),2,20⟩)::_) at hs
 obtain⟨cf,hcf⟩:∃ cf:Cf,cf=⟨((2:Nat):Int),((0:Nat):Int),0,((0:Nat):Int),((12:Nat):Int),1,0,((1+r1:Nat):Int),((2:Nat):Int),((20:Nat):Int)⟩:=⟨_,rfl⟩
 rw[show (⟨2,0,0,0,12,1,0,(1+r1:Nat),2,20⟩:Cf)=cf from hcf.symm]at hs
 have hmc:mayCf cf:=by rw[hcf];simp[mayCf,inI];omega
 have hgs0:mayGs ⟨cf.guess,cf.order,[]⟩:=by rw[hcf];exact (by decide:mayGs ⟨1,0,[]⟩)
 have hcf0:=newP_cf (p:=sumP) hmc
 refine DWC 1 (λw0 w'=>Rd w' b6 0 (cfC cf)) [1] [3000,1001,1002,3,4,5,6,7] ha hs λa w ha hs hH=>?_
 have hC:=hH.at w (hs.rdAll (b:=b6))
 refine RH 0 ha hs hH hC λa ha=>?_
 refine QH ha (λw hc=>ex_loadN ha Tryz.underlying27 rfl Ty.t27 (hc)) hC λa ha=>?_
 refine RH 0 ha hs hH hC λa ha=>?_
 refine CL1 0 ha hs (prog22 hs) λadQ a w ha hs=>?_
 replace hC:=hH.at w (hs.rdAll (b:=b6))
 refine RH 0 ha hs hH hC λa ha=>?_
 refine CL2 0 ha hs (worked_new (r1:=r1) hcf hmc hs) λM m a w ha ⟨⟨hgs,hms,hI,hTl,hJ,hk⟩,hs⟩=>?_
 refine RN 5 ha hs λa ha=>?_
 have hF0:Fsh M (1+r1) 0 cf [] m:=⟨hI,by rw[hms];exact Two.new (id:=0) hmc (by rw[hcf];rfl),by rw[hms];exact hcf0,λy hy=>(by rw[hTl]at hy;cases hy),by rw[hJ,hTl];rfl,λk hk2=>by rw[hk k hk2];rfl,λh=>absurd h (by omega)⟩
 have hmost0:m.T.most=1+r1∧m.ks.length=2∧m.A.room=80:=by
   have h1:=hI.most
   have h2:=hI.workers
   have h3:=hI.room.1
   have h4:ksCf m.s.k=cf:=by rw[hms];exact hcf0
   rw[hcf]at h4
   simp only[ksCf,Cf.mk.injEq]at h4
   refine⟨?_,?_,?_⟩ <;> omega
 have hms0:m.s=prS sumP (newP sumP cf) []:=hms
 clear hI hTl hJ hk hms
 refine RN 4 ha hs λa ha=>?_
 replace ha:=ha.isF 34
 refine RN 4 ha hs λa ha=>?_
 refine wp_loop_ghost (λμ a w=>∃ (i:Nat) (m:Mu),(μ=P.length-i∧i≤P.length∧Fsh M (1+r1) i cf (P.take i) m∧m.s=prS sumP (newP sumP cf) (P.take i))∧Fr a 121 [(0,.slice aP P.length cP),(6,pt b6),(7,pt M.mb),(9,.int .i64 i)]∧St W w (MuS W M sumP m::blk b6 27 (cfC cf)::[])) (P.length) (⟨0,m,⟨rfl,by omega,hF0,hms0⟩,ha.keep [0,6,7,9],hs.sub⟩) ?_
 clear ha hs
 rintro μ a w ⟨i,m,⟨rfl,hi,hF,hms⟩,ha,hs⟩
 have hmw:m.T.most=1+r1∧m.ks.length=2∧m.A.room=80:=by
   have h1:=hF.mi.most
   have h2:=hF.mi.workers
   have h3:=hF.mi.room.1
   have h4:=hF.cf
   rw[hcf]at h4
   simp only[ksCf,Cf.mk.injEq]at h4
   refine⟨?_,?_,?_⟩ <;> omega
 refine IF 6 ha hs (λhc2 a ha=>?_) λhc2 a ha=>?_
 ·
  have hip:i<P.length:=by omega
  obtain⟨bp,op,hade,hrd⟩:=(hrP.old hs).get (by omega)
  have htl:(P.take i).length=i:=by rw[List.length_take];omega
  refine RN 4 ha hs λa ha=>?_
  rw[hade]at ha
  refine RN 1 ha hs λa ha=>?_
  rw[← hade]at ha
  refine SS ha (ld1 ha (hrd i _ (bc_at hip))) λa ha=>?_
  refine CL1 0 ha hs (mu_press (x:=P[i]) hs hF.mi sumP_ok (by decide) (by omega)) λm1 a w ha ⟨⟨hm1,hI1,hR⟩,hs⟩=>?_
  have hF1:=hF.next htl (by omega) (by omega) hm1 hI1 hR (Tree.wt ((MuS.open hs).tree M.tq))
  rw[List.take_append_getElem]at hF1
  refine RN 3 ha hs λa ha=>?_
  exact⟨P.length-(i+1),by omega,i+1,m1,⟨rfl,by omega,hF1,by rw[hm1,prS_succ hip,hms]⟩,ha.keep [0,6,7,9],hs⟩
 obtain rfl:i=P.length:=by omega
 rw[List.take_length]at hF hms
 have hWT:=Tree.wt ((MuS.open hs).tree M.tq)
 have hW0:Wrk M m.s m.T.l.length 161 (todo m.T.l) m:=⟨hF.mi.more (by omega),rfl,by rw[hF.J];exact tok_new hF.unf (λk hk=>by obtain⟨y,hy,rfl⟩:=List.mem_map.1 hk;exact hF.idle y hy),by
   rw[show spent (m.ks.map (·.1))=0 from ?_]
   · rfl
   · generalize hq:m.ks.map (·.1)=ws
     have hid:∀ k∈ws,k.busy=false:=λk hk=>by
       rw[← hq]at hk
       obtain⟨y,hy,rfl⟩:=List.mem_map.1 hk
       exact hF.idle y hy
     clear hq
     induction ws with
     | nil=>rfl
     | cons k ws ih=>rw[spent_cons,ih λz hz=>hid z (List.mem_cons_of_mem _ hz),spentK,hid k (List.mem_cons_self ..)];rfl,hmw.2.1,hmw.2.2,rfl⟩
 have h192:todo m.T.l≤192:=by
   have h1:=todo_le8 m.T.l (λy hy=>by have:=(hF.brs y hy).2.2;omega)
   have:=hWT.most
   omega
 have hne:0<P.length→0<m.T.l.length:=λh=>List.length_pos_iff.2 (hF.has h)
 have hscl:=hF.two.cl
 obtain⟨s9,hs9⟩:∃ s9,s9=m.s:=⟨_,rfl⟩
 rw[← hs9]at hW0 hms hscl
 have hwf9:WF' sumP s9:=by rw[hs9];exact hF.mi.wf
 have hcf9:ksCf s9.k=cf:=by rw[hs9];exact hF.cf
 generalize m.T.l.length=q at hW0 hne
 generalize todo m.T.l=R0 at hW0 h192
 clear hF hmw hs9 hWT
 refine RN 3 ha hs λa ha=>?_
 refine wp_loop_ghost (λμ a w=>∃ (v R:Nat) (m:Mu),(μ=600-v∧v≤600∧R+v≤192∧Wrk M s9 q (161+2*v) R m)∧Fr a 121 [(0,.slice aP P.length cP),(6,pt b6),(7,pt M.mb),(10,.int .i64 v)]∧St W w (MuS W M sumP m::blk b6 27 (cfC cf)::[])) (600) (⟨0,R0,m,⟨rfl,by omega,by omega,hW0⟩,ha.keep [0,6,7,10],hs⟩) ?_
 clear ha hs
 rintro μ a w ⟨v,R,m,⟨rfl,hv,hRv,hWk⟩,ha,hs⟩
 refine IF 4 ha hs (λhc3 a ha=>?_) λhc3 a ha=>?_
 ·
  refine CL3 3 ha hs (wrk_bit (i:=0) hs hWk hscl (by decide) (by omega)) λza ma Ra a w ha ⟨⟨hWa,hda⟩,hs⟩=>?_
  refine CL3 1 ha hs (wrk_bit (i:=1) hs hWa hscl (by decide) (by omega)) λzb mb Rb a w ha ⟨⟨hWb,hdb⟩,hs⟩=>?_
  refine RN 2 ha hs λa ha=>?_
  have hfin:za=false→zb=false→(mb.J=[]∧∀ k∈mb.ks.map (·.1),k.busy=false):=λe1 e2=>by
    obtain⟨_,f1,_,f2,f3⟩:=hda.resolve_right (λh=>by rw[e1]at h;cases h.1)
    obtain⟨_,g1,_,g2,g3⟩:=hdb.resolve_right (λh=>by rw[e2]at h;cases h.1)
    rw[g1]
    refine⟨g2,λk hk=>?_⟩
    obtain⟨⟨k9,wb9⟩,hy,rfl⟩:=List.mem_map.1 hk
    obtain⟨j,hj⟩:=List.mem_iff_getElem?.1 hy
    have hj2:j<2:=by rw[← hWa.two];exact (List.getElem?_eq_some_iff.1 hj).1
    rcases (by omega:j=0∨j=1) with rfl | rfl
    · rw[f1]at hj;exact f3 _ _ hj
    · exact g3 _ _ hj
  have hprg:za=true∨zb=true→Rb+1≤R:=λh=>by
    rcases hda with ⟨a1,_,a2,_⟩ | ⟨a1,a2⟩ <;> rcases hdb with ⟨c1,_,c2,_⟩ | ⟨c1,c2⟩ <;> first | omega | (exfalso;rcases h with h | h <;> simp_all)
  clear hda hdb hWa hWk
  refine BY 4 ha hs (λhg2 a ha=>?_) λhg2 a ha=>?_
  ·
   refine IF 3 ha hs (λhc4 a ha=>?_) λhc4 a ha=>?_
   ·
    have hz2:za=false∧zb=false:=⟨by simpa using hg2,by simpa using hc4⟩
    obtain⟨hJ0,hid0⟩:=hfin hz2.1 hz2.2
    refine CL 2 ha hs (mu_tree hs) λa w ha hs=>?_
    replace hs:=MuS.open hs
    refine CL2 0 ha hs (tree_all (hs.tree M.tq)) λadt ct a w ha hs=>?_
    refine RN 1 ha hs λa ha=>?_
    obtain⟨xs,h1,h2,hs⟩:=OwnBr.open hs
    have hxl:xs.length=mb.T.l.length:=by rw[← h1,List.length_map]
    replace hs:=MuS.fold hs M sumP mb
    have hT9:=Tree.wt ((MuS.open hs).tree M.tq)
    have h8:=hT9.most
    have hdn:∀ y∈mb.T.l,y.done=y.press.length:=λy hy=>by
      have h3:=hWb.tok.perm.length_eq
      have h4:heldJ (mb.ks.map (·.1))=[]:=by
        rw[heldJ,List.filter_eq_nil_iff.2 (λk hk=>by rw[hid0 k hk];decide)];rfl
      rw[hJ0,h4]at h3
      have h5:unfin mb.T=[]:=List.eq_nil_of_length_eq_zero h3.symm
      have h6:mb.T.l.filter unfB=[]:=by simpa [unfin] using h5
      have h7:=List.filter_eq_nil_iff.1 h6 y hy
      have h9:=(hT9.ok y hy).2.1
      simp only[unfB,decide_eq_true_eq]at h7
      omega
    refine RN 3 ha hs λa ha=>?_
    refine wp_loop_ghost (λμ a w=>∃ (j:Nat),(μ=mb.T.l.length-j∧j≤mb.T.l.length)∧Fr a 121 [(0,.slice aP P.length cP),(6,pt b6),(7,pt M.mb),(13,.slice adt mb.T.l.length ct),(14,.int .i64 j)]∧St W w (MuS W M sumP mb::Sl 45 5 adt mb.T.l.length ct (rows brc xs)::All bro xs::blk b6 27 (cfC cf)::[])) (mb.T.l.length) (⟨0,⟨rfl,by omega⟩,ha.keep [0,6,7,13,14],hs.sub⟩) ?_
    clear ha hs
    rintro μ a w ⟨j,⟨rfl,hj⟩,ha,hs⟩
    refine IF 6 ha hs (λhc5 a ha=>?_) λhc5 a ha=>?_
    ·
     obtain⟨⟨x,ax,cx⟩,hx⟩:∃ x,xs[j]?=some x:=⟨_,List.getElem?_eq_getElem (by omega)⟩
     have hxT:x∈mb.T.l:=by rw[← h1];exact List.mem_map.2 ⟨_,List.mem_of_getElem? hx,rfl⟩
     have hxd:=hdn x hxT
     obtain⟨bl,ol,rfl,hrl⟩:=hs.slRd adt (by omega)
     clear hrl
     refine DWC 2 (λw0 w'=>Rd w' bl (ol+j*5) (brC x ax cx)) [9,10] [0,1,2,3,5,6,7,8,3004,1009,1010,11] ha hs λa w ha hs hH=>?_
     have hC:=hH.at w (row_rd (hs.slRdAt bl ol (by omega)) hx)
     refine RH 8 ha hs hH hC λa ha=>?_
     refine QH ha (λw hc=>ld1 ha (hc 3 _ rfl)) hC λa ha=>?_
     refine RH 0 ha hs hH hC λa ha=>?_
     refine SS ha (ld1 ha (hC 2 _ rfl)) λa ha=>?_
     refine RH 2 ha hs hH hC λa ha=>?_
     rw[decide_eq_false (by omega)]at ha
     refine RN 4 ha hs λa ha=>?_
     exact⟨mb.T.l.length-(j+1),by omega,j+1,⟨rfl,by omega⟩,ha.keep [0,6,7,13,14],hs.sub⟩
    refine DWC 1 (λw0 w'=>Rd w' b6 0 (cfC cf)) [1] [3000,1001,1002,3] ha hs λa w ha hs hH=>?_
    have hC:=hH.at w (hs.rdAll (b:=b6))
    refine RH 0 ha hs hH hC λa ha=>?_
    refine QH ha (λw hc=>ex_loadN ha Tryz.underlying27 rfl Ty.t27 (hc)) hC λa ha=>?_
    refine RH 0 ha hs hH hC λa ha=>?_
    refine CL1 0 ha hs (prog22 hs) λadQ2 a w ha hs=>?_
    replace hC:=hH.at w (hs.rdAll (b:=b6))
    refine RH 0 ha hs hH hC λa ha=>?_
    refine CL1 0 ha hs (refP_newZ (cf:=cf) (tb:=[]) hmc hs rfl sumP_ok (by decide)) λB a w ha ⟨⟨hcg,hcT⟩,hs⟩=>?_
    refine RN 1 ha hs λa ha=>?_
    have hbg:B.gs=M.B.gs:=by rw[hcg,hgs]
    have hgm:mayGs B.gs:=by rw[hcg];exact hgs0
    have hT0:RdB W B.adT B.gs.table.length B.gs.table:=by rw[hcg,hcT];exact RdB.nil
    have hwf0:=WF'.new (p:=sumP) hmc
    refine RN 3 ha hs λa ha=>?_
    refine wp_loop_ghost (λμ a w=>∃ (i:Nat),(μ=P.length-i∧i≤P.length)∧Fr a 121 [(0,.slice aP P.length cP),(6,pt b6),(7,pt M.mb),(13,.slice adt mb.T.l.length ct),(15,pt B.pb),(16,.int .i64 i)]∧St W w (RefG W B sumP (prS sumP (newP sumP cf) (P.take i))::MuS W M sumP mb::blk b6 27 (cfC cf)::[])) (P.length) (⟨0,⟨rfl,by omega⟩,ha.keep [0,6,7,13,15,16],(show St W w (RefG W B sumP (prS sumP (newP sumP cf) (P.take 0))::_) from hs).sub⟩) ?_
    clear ha hs
    rintro μ a w ⟨i,⟨rfl,hi⟩,ha,hs⟩
    refine IF 6 ha hs (λhc7 a ha=>?_) λhc7 a ha=>?_
    ·
     have hip:i<P.length:=by omega
     obtain⟨bp,op,hade,hrd⟩:=(hrP.old hs).get (by omega)
     refine RN 4 ha hs λa ha=>?_
     rw[hade]at ha
     refine RN 1 ha hs λa ha=>?_
     rw[← hade]at ha
     refine SS ha (ld1 ha (hrd i _ (bc_at hip))) λa ha=>?_
     refine CL 0 ha hs (refP_press (x:=P[i]) hs (prS_wf _ hwf0) sumP_ok (by decide)) λa w ha hs=>?_
     rw[← prS_succ hip]at hs
     refine RN 3 ha hs λa ha=>?_
     exact⟨P.length-(i+1),by omega,i+1,⟨rfl,by omega⟩,ha.keep [0,6,7,13,15,16],hs⟩
    obtain rfl:i=P.length:=by omega
    rw[List.take_length,← hms]at hs
    replace hs:=MuJ.close (i:=100) (cf:=cf) (hs.pick (MuS W M sumP mb)) hWb.mi (by omega) hWb.s hcf9
    have hqb:=hWb.len
    refine CL 4 ha hs (shows_spec (i:=100) (mu_play (M:=M) (cf:=cf) sumP_ok (by decide)) (by decide) hs hwf9 sumP_ok (by decide) hgm hbg hT0) λa w ha hs=>?_
    refine RN 1 ha hs λa ha=>?_
    replace ha:=ha.isT 101
    refine CL 2 ha hs (branchesJ hs sumP_ok (by decide)) λa w ha hs=>?_
    refine RN 2 ha hs λa ha=>?_
    replace ha:=ha.isT 106
    refine CL 2 ha hs (boundsJ hs) λa w ha hs=>?_
    refine RN 2 ha hs λa ha=>?_
    replace ha:=ha.isT 111
    refine BY 4 ha hs (λhg18 a ha=>?_) λhg18 a ha=>?_
    ·
     refine RT 6 ha hs ?_
     exact⟨rfl,hs.below⟩
    refine RT 6 ha hs ?_
    exact⟨by rw[decide_eq_true (by omega)],hs.below⟩
   have hpr2:=hprg (.inr (by simpa using hc4))
   refine RN 3 ha hs λa ha=>?_
   exact⟨600-(v+1),by omega,v+1,Rb,mb,⟨rfl,by omega,by omega,by rw[show 161+2*(v+1)=161+2*v+1+1 from by omega];exact hWb⟩,ha.keep [0,6,7,10],hs⟩
  refine RN 7 ha hs λa ha=>?_
  have hpr2:=hprg (.inl (by simpa using hg2))
  exact⟨600-(v+1),by omega,v+1,Rb,mb,⟨rfl,by omega,by omega,by rw[show 161+2*(v+1)=161+2*v+1+1 from by omega];exact hWb⟩,ha.keep [0,6,7,10],hs⟩
 exfalso;omega
end
section
set_option maxRecDepth 100000
theorem and2 {x y:Bool}(h:x=true)(k:y=true):(x&&y)=true:=by rw[h,k];rfl
theorem joined_of {P:Program}{f:FuncId}{fn:Func}{s:ChangeSpec}{c:OpenClaim}(k1:c.wf (OpenSpec.ofChange s)=true)(k2:laidOutB P=true)(k3:mapsRowed P=true)(k4:fn.params.all (P.readableRec ·)=true)(k5:namedTie P c.named s.vars=true)
   (k6:(c.stops==[])=true) (k7:(P.stops==[])=true) (k8:(c.knobs==[])=true) (k9:(P.stopKnobs==[])=true) (k10:(c.inPlace==P.inPlace f)=true) (k11:(c.unfollowed==P.unfollowed f)=true) (k12:(c.recurses==P.recurses f)=true) (k13:(c.named==P.varsNamed f)=true)
   (k14:(c.maps==(fn.params.toList++s.plain.varTypes P).any (P.mapsRec ·))=true) (k15:(c.ifaces==(fn.params.toList++s.plain.varTypes P).any (P.ifacesRec ·))=true) (k16:(c.mapsOut==P.mapsAmong fn.resultTypes.toList)=true)
   (k17:(c.loops==(fn.params.toList++s.plain.varTypes P).any (P.loopsFrom ·))=true) (k18:(c.wideKeys==(fn.params.toList++s.plain.varTypes P++fn.resultTypes.toList).any (P.wideKeysFrom ·))=true) (k19:s.vars.all (P.varReadable ·)=true) (k20:fn.resultTypes.all (λt=>P.readableRec t&&decide (t<P.types.size))=true)
   (k21:(c.ifacesOut==fn.resultTypes.toList.any (P.ifacesRec ·))=true) (k22:(c.loopsOut==fn.resultTypes.toList.any (P.loopsFrom ·))=true) (k23:(c.plainKeys==P.plainKeys)=true) (k24:c.shortTexts.isNone=true) (k25:P.stopsHeard=true) (k26:P.mayEnter=true) (k27:(c.lifted==P.liftsFinal)=true) (k28:(P.make==some c.make)=true)
   (k29:(c.kinds==(if c.domain.isEmpty then [] else fn.params.toList.map λt=>match P.underlying t with | some (.int k)=>some k | _=>none))=true) (k30:(c.pinned==c.pinnedBy)=true) (k31:(c.veiled==(fn.params.toList++s.plain.varTypes P++fn.resultTypes.toList).any (P.veiledRec ·))=true) (k32:c.veiledFits P fn.params.toList (fn.params.toList++s.plain.varTypes P++fn.resultTypes.toList)=true):joinedFacts P f fn s c=true:=by
 unfold joinedFacts
 exact and2 (and2 (and2 (and2 (and2 (and2 (and2 (and2 (and2 (and2 (and2 (and2 (and2 (and2 (and2 (and2 (and2 (and2 (and2 (and2 (and2 (and2 (and2 (and2 (and2 (and2 (and2 (and2 (and2 (and2 (and2 k1 k2) k3) k4) k5) k6) k7) k8) k9) k10) k11) k12) k13) k14) k15) k16) k17) k18) k19) k20) k21) k22) k23) k24) k25) k26) k27) k28) k29) k30) k31) k32
theorem fLaid:laidOutB Tryz.prog=true:=by kernel_rfl
theorem fMaps:mapsRowed Tryz.prog=true:=by kernel_rfl
theorem fHeard:Tryz.prog.stopsHeard=true:=by kernel_rfl
theorem fEnter:Tryz.prog.mayEnter=true:=by kernel_rfl
theorem fKeys (c:OpenClaim)(h:c.plainKeys=Rows.multiNoneRow.plainKeys):(c.plainKeys==Tryz.prog.plainKeys)=true:=by
 rw[h];kernel_rfl
theorem fLift (c:OpenClaim)(h:c.lifted=Rows.multiNoneRow.lifted):(c.lifted==Tryz.prog.liftsFinal)=true:=by
 rw[h];kernel_rfl
theorem fMake (c:OpenClaim)(h:c.make=Rows.multiNoneRow.make):(Tryz.prog.make==some c.make)=true:=by
 rw[h];kernel_rfl
end
end Go.Proofs.YtdilfdkendjjhaaGreat
