/- Package multi: a player that plays ahead answers as a plain one. -/
import Derived.Test.YtdilfdkendjjhaaGreatA31MulV
import Derived.Test.YtdilfdkendjjhaaGreatA33RefG
import Derived.Test.YtdilfdkendjjhaaGreatA28Sort
namespace Go.Proofs.YtdilfdkendjjhaaGreat
open Go.RowKit
set_option linter.unusedVariables false
set_option linter.unusedSimpArgs false
set_option maxRecDepth 10000
set_option synthInstance.maxSize 4000
set_option synthInstance.maxHeartbeats 400000
section
def MuJ (W:World)(M:MuB)(p:Pr)(cf:Cf)(i:Nat)(s:Pl):SP:=λh=>∃ m:Mu,(m.s=s∧MI p M (20*i+1) m∧ksCf s.k=cf)∧MuS W M p m h
section
variable {W w:World}{L:List SP}{n c i N cP cT:Nat}{adP adT:Option Addr}{M:MuB}{x:UInt8}{p:Pr}{s:Pl}{m:Mu}{bs tb:List UInt8}{cf:Cf}{y:Int}
theorem MuJ.open (hs:St W w (MuJ W M p cf i s::L)):∃ m:Mu,(m.s=s∧MI p M (20*i+1) m∧ksCf s.k=cf)∧St W w (MuS W M p m::L):=hs.exi λ_ h=>h
theorem MuJ.close (hs:St W w (MuS W M p m::L))(h:MI p M N m)(hN:N≤20*i+1)(hm:m.s=s)(hc:ksCf s.k=cf):St W w (MuJ W M p cf i s::L) :=
 St.shut (M:=MuL W M p m) (MuS.open hs) λ_ q=>⟨m,⟨hm,h.more hN,hc⟩,q⟩
theorem mu_play (hpr:prOk p)(hsz:p.title.size≤1000000000):PlayS W 28 ⟨M.mb,0,none⟩ 16 33 27 29 39 35 34 31 p M.B.gs (MuJ W M p cf) where
 mP:=λad w=>by kernel_rfl
 cP:=(by kernel_rfl)
 mR:=λad w=>by kernel_rfl
 cR:=(by kernel_rfl)
 mT:=λad w=>by kernel_rfl
 cT:=(by kernel_rfl)
 mQ:=λad w=>by kernel_rfl
 cQ:=(by kernel_rfl)
 mE:=λad w=>by kernel_rfl
 cE:=(by kernel_rfl)
 mC:=λad w=>by kernel_rfl
 cC:=(by kernel_rfl)
 mD:=λad w=>by kernel_rfl
 cD:=(by kernel_rfl)
 mX:=λad w=>by kernel_rfl
 cX:=(by kernel_rfl)
 press:=λw L i s x hi hw hs=>by
   replace hs:=MuJ.open hs
   obtain⟨m,⟨rfl,hI,hc⟩,hs⟩:=hs
   exact (mu_press (x:=x) hs hI hpr hsz (by omega)).mono λr w' ⟨m',h1,⟨h2,h3,_⟩,hs⟩=>⟨h1,MuJ.close hs h3 (by omega) h2 ((Nxt.press hI.wf x).cf.trans hc)⟩
 recv:=λw L i s bs a c hi hw hb hc hp hs=>by
   replace hs:=MuJ.open hs
   obtain⟨m,⟨rfl,hI,hcf⟩,hs⟩:=hs
   exact (mu_receive hs hI hpr hsz (by omega) hb hc hp).mono λr w' ⟨m',h1,⟨h2,h3⟩,hs⟩=>⟨h1,MuJ.close hs h3 (by omega) h2 ((Nxt.recv hI.wf bs).cf.trans hcf)⟩
 tick:=λw L i s hi hw hn hs=>by
   replace hs:=MuJ.open hs
   obtain⟨m,⟨rfl,hI,hc⟩,hs⟩:=hs
   exact (mu_tick hs hI hn).mono λr w' ⟨a,c,h1,h2,hs⟩=>⟨a,c,h1,(MuJ.close (hs.perm (List.Perm.swap _ _ _)) h2 (by omega) rfl ((tick_cf _).trans hc)).perm (List.Perm.swap _ _ _)⟩
 quit:=λw L i s hi hw hs=>by
   replace hs:=MuJ.open hs
   obtain⟨m,⟨rfl,hI,hc⟩,hs⟩:=hs
   exact (mu_quit hs hI).mono λr w' ⟨a,c,h1,h2,hs⟩=>⟨a,c,h1,(MuJ.close (hs.perm (List.Perm.swap _ _ _)) h2 (by omega) rfl ((quit_cf _).trans hc)).perm (List.Perm.swap _ _ _)⟩
 events:=λw L i s hi hw hs=>by
   replace hs:=MuJ.open hs
   obtain⟨m,⟨rfl,hI,hc⟩,hs⟩:=hs
   exact (mu_events hs hI).mono λr w' ⟨a,c,h1,h2,hs⟩=>⟨a,c,h1,(MuJ.close (hs.perm (List.Perm.swap _ _ _)) h2 (by omega) rfl hc).perm (List.Perm.swap _ _ _)⟩
 conf:=λw L i s hi hw hs=>by
   replace hs:=MuJ.open hs
   obtain⟨m,⟨rfl,hI,hc⟩,hs⟩:=hs
   exact (mu_confirmed hs hI).mono λr w' ⟨a,c,h1,hs⟩=>⟨a,c,h1,(MuJ.close (hs.perm (List.Perm.swap _ _ _)) hI (Nat.le_refl _) rfl hc).perm (List.Perm.swap _ _ _)⟩
 disp:=λw L i s hi hw hs=>by
   replace hs:=MuJ.open hs
   obtain⟨m,⟨rfl,hI,hc⟩,hs⟩:=hs
   exact (mu_display hs hI hpr hsz).mono λr w' ⟨a,c,h1,hs⟩=>⟨a,c,h1,(MuJ.close (hs.perm (List.Perm.swap _ _ _)) hI (Nat.le_refl _) rfl hc).perm (List.Perm.swap _ _ _)⟩
 closed:=λw L i s hi hw hs=>by
   replace hs:=MuJ.open hs
   obtain⟨m,⟨rfl,hI,hc⟩,hs⟩:=hs
   exact (mu_closed hs).mono λr w' ⟨h1,hs⟩=>⟨h1,MuJ.close hs hI (Nat.le_refl _) rfl hc⟩
theorem mu_workJ (hs:St W w (MuJ W M p cf i s::L))(hpr:prOk p)(hsz:p.title.size≤1000000000)(hi:i≤1000000) :
   Calls Tryz.prog 17 #[pt M.mb,.int .i64 y] w λe w'=>∃ z:Bool,e=.returned (.bool z)∧(z=true→s.k.cl=false∧0≤y∧y<s.k.workers)∧St W w' (MuJ W M p cf (i+1) s::L):=by
 replace hs:=MuJ.open hs
 obtain⟨m,⟨rfl,hI,hc⟩,hs⟩:=hs
 have h4:=hI.ks
 by_cases hn:m.s.k.cl=true∨y<0∨(m.ks.length:Int)≤y
 · exact (mu_work_no hs hn h4).mono λe w' ⟨h1,hs⟩=>⟨false,h1,λh=>(by cases h),MuJ.close hs hI (by omega) rfl hc⟩
 · have hcl : m.s.k.cl = false := by
     cases h:m.s.k.cl with
     | false=>rfl
     | true=>exact absurd (.inl h) hn
   have hy:0≤y∧y<(m.ks.length:Int):=⟨by
     rcases Int.lt_or_le y 0 with h | h
     · exact absurd (.inr (.inl h)) hn
     · exact h,by
     rcases Int.lt_or_le y (m.ks.length:Int) with h | h
     · exact h
     · exact absurd (.inr (.inr h)) hn⟩
   obtain⟨j,rfl⟩:=Int.eq_ofNat_of_zero_le hy.1
   obtain⟨⟨k,wb⟩,hk⟩:∃ z,m.ks[j]?=some z:=⟨_,List.getElem?_eq_getElem (by omega)⟩
   exact (mu_work hs hI hcl hk hpr hsz (by omega)).mono λe w' ⟨z,A',T',J',k',h1,⟨_,h2⟩,hs⟩=>⟨z,h1,λ_=>⟨hcl,hy.1,by rw[hI.workers];exact hy.2⟩,MuJ.close hs h2 (by omega) rfl hc⟩
theorem MuJ.more {j:Nat}(hs:St W w (MuJ W M p cf i s::L))(h:i≤j):St W w (MuJ W M p cf j s::L):=by
 replace hs:=MuJ.open hs
 obtain⟨m,⟨hm,hI,hc⟩,hs⟩:=hs
 exact MuJ.close hs hI (by omega) hm hc
theorem mayCf_nat3 (h:mayCf cf):∃ n me delay window nb nw rm:Nat,cf=⟨n,me,cf.id,delay,window,cf.guess,cf.order,nb,nw,rm⟩:=by
 obtain⟨n,me,id,delay,window,guess,order,branches,workers,room⟩:=cf
 simp only[mayCf,inI]at h
 obtain⟨⟨h1,h2,h3⟩,⟨h4,h5,h6,h7⟩,h8,h9,h10,h11⟩:=h
 exact⟨n.toNat,me.toNat,delay.toNat,window.toNat,branches.toNat,workers.toNat,room.toNat,by
   simp only[Cf.mk.injEq];refine⟨?_,?_,?_,?_,?_,?_,?_,?_,?_,?_⟩ <;> first | trivial | omega⟩
theorem newP_cf (h:mayCf cf):ksCf (newP p cf).k=cf:=by
 obtain⟨ps,ev,mr,hk⟩:∃ ps ev mr,(newP p cf).k={ newK cf with ps:=ps,ev:=ev,mr:=mr }:=(newP_ok (p:=p) (c:=cf) h).playP.2.2
 rw[hk];exact (WC.new h).2.2
theorem mu_newY (hma:mayAll cf p tb)(hs:St W w (RoP W p adP cP::L))(hn:tb.length=n)(hsz:p.title.size≤1000000000)(hol:p.ops.length≤1000000000)(htl:tb.length≤1099511627776)(hT:∀ w',St W w' (RoP W p adP cP::L)→RdB w' adT tb.length tb) :
   Calls Tryz.prog 14 #[.agg (cfC cf).toArray,.agg (prV p adP cP).toArray,.slice adT n cT] w λr w'=>∃ M:MuB,r=.returned (.tuple #[pt M.mb,.int .i64 0])∧M.B.gs=⟨cf.guess,cf.order,tb⟩∧St W w' (MuJ W M p cf 0 (newP p cf)::RoP W p adP cP::L):=by
 subst hn
 obtain⟨h1,h2,h3⟩:=hma
 have hcf0:=newP_cf (p:=p) h1
 obtain⟨n,me,delay,window,nb,nw,rm,hcf⟩:=mayCf_nat3 h1
 generalize cf.guess=guess at hcf h3 ⊢
 generalize cf.order=order at hcf h3 ⊢
 generalize cf.id=id at hcf
 rw[hcf]at h1 hcf0 ⊢
 exact (mu_new (adT:=adT) (cT:=cT) hs h1 h2 h3 hsz hol htl hT).mono λr w' ⟨M,m,h4,⟨h5,h6,h7,_⟩,hs⟩=>⟨M,h4,h5,MuJ.close hs h7 (by omega) h6 hcf0⟩
theorem refP_newZ (hm:mayCf cf)(hs:St W w (RoP W p adP cP::L))(hn:tb.length=n)(hpr:prOk p)(hsz:p.title.size≤1000000000) :
   Calls Tryz.prog 20 #[.agg (cfC cf).toArray,.agg (prV p adP cP).toArray,.slice adT n cT] w λr w'=>∃ B:RgB,r=.returned (pt B.pb)∧(B.gs=⟨cf.guess,cf.order,tb⟩∧B.adT=adT)∧St W w' (RefG W B p (newP p cf)::L):=by
 subst hn
 obtain⟨n,me,delay,window,hcf⟩:=mayCf_nat hm
 generalize cf.guess=guess at hcf ⊢
 generalize cf.order=order at hcf ⊢
 rw[hcf]at hm ⊢
 exact refP_new hs hm hpr hsz
end
end
section
theorem Bit.first {p:Pr}{A A':Sn}{T T':Tr}{J J':Js}{k k':Wk}{z:Bool}{y:Br}(hb:Bit p A T J k z A' T' J' k')(hk:k.busy=false)(hJ:J=[jb T.epoch y])(hT:T.l=[y])(hd:y.done<y.press.length) :
   z=true∧A'.pics.length=A.pics.length+1:=by
 cases hb with
 | idle _ h=>rw[hJ]at h;cases h
 | stale _ h h3 =>
   rw[hJ]at h;cases h
   exfalso
   rcases h3 with h3 | h3 | ⟨x,h3,h4,h5⟩
   · exact h3 rfl
   · exact h3 y (by rw[hT];exact List.mem_cons_self ..) rfl
   · rw[hT,List.mem_singleton]at h3
     subst h3;omega
 | took _ h h3 h4 h5 h6 h7 h8=>exact⟨rfl,by simp[Sn.add]⟩
 | gone h=>rw[hk]at h;cases h
 | played h=>rw[hk]at h;cases h
 | failed h=>rw[hk]at h;cases h
 | pub h=>rw[hk]at h;cases h
 | lost h=>rw[hk]at h;cases h
section
variable {W w:World}{L:List SP}
set_option maxHeartbeats 2000000 in
theorem begun26 (hs:St W w L):Calls Tryz.prog 11 #[] w λe w'=>e=.returned (.bool true)∧St W w' L:=by
 have hm0:mayCf ⟨(2:Nat),(0:Nat),0,(0:Nat),(4:Nat),1,0,(1:Nat),(1:Nat),(5:Nat)⟩:=by decide
 refine EN Tryz.func11 Tryz.ntmps11 rfl rfl λa ha=>?_
 refine CL1 4 ha hs (prog22 hs) λadP a w ha hs=>?_
 refine CL2 0 ha hs (mu_new (tb:=[]) (n:=2) (me:=0) (id:=0) (delay:=0) (window:=4) (guess:=1) (order:=0) (nb:=1) (nw:=1) (rm:=5) hs hm0 sumP_ok (by decide) (by decide) (by decide) (by decide) (λw' h=>RdB.nil)) λM m a w ha ⟨⟨hBg,hms,hI,hT,hJ,hk⟩,hs⟩=>?_
 have t0:Two sumP 4 0 [[],[]] m.s:=by rw[hms];exact Two.new (id:=0) hm0 rfl
 have hcf:ksCf m.s.k=⟨(2:Nat),(0:Nat),0,(0:Nat),(4:Nat),1,0,(1:Nat),(1:Nat),(5:Nat)⟩:=by rw[hms];exact newP_cf hm0
 simp only[ksCf,Cf.mk.injEq]at hcf
 have hmost:m.T.most=1:=by have:=hI.most;omega
 have hkl:m.ks.length=1:=by have:=hI.workers;omega
 have hgm:mayGs M.B.gs:=hI.gs
 refine RN 10 ha hs λa ha=>?_
 replace ha:=ha.isF 16
 refine RN 4 ha hs λa ha=>?_
 replace ha:=ha.isF 20
 refine CL 1 ha hs (mu_store hs) λa w ha hs=>?_
 refine RN 3 ha hs λa ha=>?_
 replace ha:=ha.isF 25
 refine CL 1 ha hs (mu_tree hs) λa w ha hs=>?_
 refine RN 3 ha hs λa ha=>?_
 replace ha:=ha.isF 30
 refine CL 1 ha hs (mu_core hs) λa w ha hs=>?_
 refine RN 2 ha hs λa ha=>?_
 replace ha:=ha.isF 34
 refine CL1 3 ha hs (mu_press (x:=7) hs hI sumP_ok (by decide) (by decide)) λm1 a w ha ⟨⟨hm1,hI1,hR⟩,hs⟩=>?_
 obtain⟨e1,t1⟩:=t0.press 7 (by decide) (by decide)
 rw[e1]at ha
 replace t1:Two sumP 4 0 [[7],[]] (pressP sumP 7 m.s).2:=t1
 obtain⟨t',hR⟩:=hR t1.cl
 have hf1:frontK (pressP sumP 7 m.s).2.k=0:=t1.front
 have hh1:headK (pressP sumP 7 m.s).2.k=1:=t1.head
 have hf0:m.front=0:=hI.front.trans t0.front
 obtain⟨q1,q2,l,q3,q4⟩:=hR.keep (by show m.front=frontK (pressP sumP 7 m.s).2.k;rw[hf0,hf1]) (λy hy=>(by rw[hT]at hy;cases hy))
 have q5:=hR.has (by show 0<m.T.most;omega) (by show frontK (pressP sumP 7 m.s).2.k<headK (pressP sumP 7 m.s).2.k;omega)
 have q6:m1.T.l=l:=by rw[q3];show m.T.l++l=l;rw[hT];rfl
 have hwt:=Tree.wt ((MuS.open hs).tree M.tq)
 have q7:m1.T.most=1:=hR.most.trans hmost
 have hl1:m1.T.l.length=1:=by
   have:=hwt.most.2
   have:=List.length_pos_iff.2 q5
   omega
 obtain⟨y,hy⟩:=List.length_eq_one_iff.1 hl1
 obtain⟨hy1,hy2,_⟩:=q4 y (by rw[← q6,hy];exact List.mem_cons_self ..)
 have hyd:y.done<y.press.length:=by rw[hy1];exact List.length_pos_iff.2 hy2
 have hJ1:m1.J=[jb m1.T.epoch y]:=by
   have h1:=jobs_new (T:=m1.T) (l0:=[]) (l:=m1.T.l) hwt (by intro z hz;rw[hy,List.mem_singleton]at hz;rw[hz];exact hyd) rfl
   rw[hR.jobs]
   show jobsT m1.T m.J=_
   rw[hJ]
   exact h1.trans (by rw[hy];rfl)
 obtain⟨⟨k0,wb⟩,hk0⟩:=List.length_eq_one_iff.1 hkl
 have hk1:m1.ks=[(k0,wb)]:=by rw[q1];exact hk0
 have hkb:k0=wk0:=hk (k0,wb) (by rw[hk0];exact List.mem_cons_self ..)
 have t1':Two sumP 4 0 [[7],[]] m1.s:=by rw[hm1];exact t1
 have hd1:(dispG sumP M.B.gs m1.s).2=1:=by
   rw[dispG,if_neg (by rw[t1'.head,t1'.front];decide)]
   exact t1'.head
 have hpl:m1.A.pics.length=2:=by
   obtain⟨t9,h9⟩:=hI1.inv
   have h8:=h9.len
   rw[hk1,hl1]at h8
   rw[h8,hkb];rfl
 refine CL 3 ha hs (mu_tree hs) λa w ha hs=>?_
 replace hs:=MuS.open hs
 refine CL2 0 ha hs (tree_all (hs.tree M.tq)) λadt ct a w ha hs=>?_
 rw[hl1]at ha
 replace hs:=(MuS.fold hs.tail M sumP m1).sub (M:=MuS W M sumP m1::L)
 refine CLX 3 ha hs (mu_work (i:=0) (k:=k0) (wb:=wb) hs hI1 t1'.cl (by rw[hk1];rfl) sumP_ok (by decide) (by decide)) ?_
 clear ha hs
 rintro e w ⟨z,A2,T2,J2,k2,rfl,⟨hbit,hI2⟩,hs⟩
 refine⟨_,rfl,λa ha=>?_⟩
 obtain⟨hz,hA2⟩:=hbit.first (y:=y) (by rw[hkb];rfl) hJ1 hy hyd
 rw[hz]at ha
 obtain⟨m2,hm2⟩:∃ m2:Mu,m2={ m1 with A:=A2,T:=T2,J:=J2,ks:=m1.ks.set 0 (k2,wb) }:=⟨_,rfl⟩
 rw[← hm2]at hs hI2
 have hs2:m2.s=m1.s:=by rw[hm2]
 have hl2:m2.ks.length=1:=by rw[hm2,hk1];rfl
 have hp2:m2.A.pics.length=3:=by rw[hm2];show A2.pics.length=3;omega
 rw[← hs2]at hd1
 clear hm2
 refine CL2 3 ha hs (mu_display hs hI2 sumP_ok (by decide)) λadD cD a w ha hs=>?_
 rw[hd1]at ha
 replace hs:=hs.tail
 refine RN 9 ha hs λa ha=>?_
 replace ha:=ha.isT 49
 refine RN 5 ha hs λa ha=>?_
 replace ha:=ha.isT 54
 refine RN 3 ha hs λa ha=>?_
 replace ha:=ha.isT 57
 refine CL 1 ha hs (mu_work_no (y:=1) hs (.inr (.inr (by omega))) (by omega)) λa w ha hs=>?_
 refine RN 3 ha hs λa ha=>?_
 replace ha:=ha.isT 62
 refine RN 4 ha hs λa ha=>?_
 replace ha:=ha.isT 66
 refine CL 1 ha hs (mu_workers hs) λa w ha hs=>?_
 rw[hl2]at ha
 refine RN 3 ha hs λa ha=>?_
 replace ha:=ha.isT 71
 refine CL 1 ha hs (mu_store hs) λa w ha hs=>?_
 replace hs:=MuS.open hs
 refine CL2 0 ha hs (snap_live (hs.store M.sq)) λadv cv a w ha hs=>?_
 rw[hp2]at ha
 refine RT 4 ha hs ?_
 exact⟨rfl,hs.sub⟩
end
end
section
theorem Sn.used_room (A:Sn):A.used≤A.room:=by
 have:=List.countP_le_length (p:=λp=>decide (0<cnt A.pics p)) (l:=List.range A.room)
 rw[List.length_range]at this;exact this
theorem cnt_zero {p:Nat}:∀ (l:List Pic),(∀ x∈l,∀ k,k<4→x.p k≠p)→cnt l p=0
 | [],_=>rfl
 | x::l,h=>by
   rw[cnt_cons,cntP_zero (h x (List.mem_cons_self ..)),cnt_zero l λy hy=>h y (List.mem_cons_of_mem _ hy)]
theorem cnt_over {A:Sn}{p:Nat}(h:∀ x∈A.pics,∀ k,k<4→x.p k<A.room)(hp:A.room≤p):cnt A.pics p=0 :=
 cnt_zero _ λx hx k hk e=>by have:=h x hx k hk;omega
def pgs (l:List Pic)(m:Nat):Nat:=(List.range m).countP λp=>decide (0<cnt l p)
theorem pgs_succ (l:List Pic)(m:Nat):pgs l (m+1)=pgs l m+if 0<cnt l m then 1 else 0:=by
 rw[pgs,List.range_succ,List.countP_append,List.countP_singleton,pgs]
 by_cases h:0<cnt l m <;> simp[h]
theorem pgs_le (l:List Pic)(m:Nat):pgs l m≤m:=by
 have:=List.countP_le_length (p:=λp=>decide (0<cnt l p)) (l:=List.range m)
 rw[List.length_range]at this;exact this
theorem pgs_all {A:Sn}(h:∀ x∈A.pics,∀ k,k<4→x.p k<A.room){m:Nat}(hm:A.room≤m):pgs A.pics m=A.used:=by
 induction m with
 | zero=>rw[Sn.used,show A.room=0 from by omega];rfl
 | succ m ih =>
   rcases Nat.lt_or_ge m A.room with h1 | h1
   · rw[Sn.used,show A.room=m+1 from by omega];rfl
   · rw[pgs_succ,ih h1,cnt_over h h1];rfl
def cB (l:List Pic)(j:Nat):Int:=if j=0 then 0 else (cnt l (j-1):Nat)
def cA (l:List Pic)(x:Pic)(k j:Nat):Int:=if j=0 then 0 else ((cnt l (j-1)+cntU x (j-1) k:Nat):Int)
theorem cB_nil:cB []=λ_=>0:=by
 funext j;unfold cB;split <;> rfl
theorem cA_zero (l:List Pic)(x:Pic):cA l x 0=cB l:=by
 funext j;unfold cA cB;simp[cntU_zero]
theorem cA_four {l:List Pic}{i:Nat}{x:Pic}(h:l[i]?=some x):cA (l.take i) x 4=cB (l.take (i+1)):=by
 obtain⟨hi,rfl⟩:=List.getElem?_eq_some_iff.1 h
 funext j
 unfold cA cB
 rw[List.take_succ_eq_append_getElem hi,cnt_app,cnt_cons,cnt_nil]
 rfl
theorem cA_set (l:List Pic)(x:Pic)(k:Nat):(λj=>if j=x.p k+1 then cA l x k (x.p k+1)+1 else cA l x k j)=cA l x (k+1):=by
 funext j
 by_cases h:j=x.p k+1
 · subst h
   rw[if_pos rfl]
   simp only[cA,if_neg (Nat.succ_ne_zero _),Nat.add_sub_cancel]
   rw[cntU_succ,if_pos rfl];omega
 · rw[if_neg h]
   unfold cA
   split
   · rfl
   · rw[cntU_succ,if_neg (by omega)];simp
theorem cA_le (l:List Pic)(x:Pic)(k j:Nat)(hk:k≤4):0≤cA l x k j∧cA l x k j≤4*l.length+4:=by
 unfold cA
 have h1:=cnt_le l (j-1)
 have h2:=cntU_mono x (j-1) hk
 have h3:=cntP_le x (j-1)
 have h4:cntU x (j-1) 4=cntP x (j-1):=rfl
 split <;> omega
theorem cB_at (l:List Pic)(p:Nat):cB l (p+1)=(cnt l p:Nat):=by simp[cB]
section
variable {W w:World}{L:List SP}{q b i r:Nat}{ps:List Pg}{A:Sn}
theorem page_at_no (hs:St W w (Room q b ps::L))(hn:∀ h:i<ps.length,ps[i].refs=0)(hi:i<1000) :
   Calls Tryz.prog 140 #[pt q,.int .i64 ((i:Int)+1)] w λe w'=>e=.returned (.pointer none)∧St W w' (Room q b ps::L):=by
 obtain⟨hp,hs⟩:=Room.open hs
 by_cases hil:i<ps.length
 · have hr:=hn hil
   refine EN Tryz.func140 Tryz.ntmps140 rfl rfl λa ha=>?_
   refine RN 7 ha hs λa ha=>?_
   replace ha:=ha.isF 7
   refine RN 4 ha hs λa ha=>?_
   rw[decide_eq_false (by omega)]at ha
   refine RN 9 ha hs λa ha=>?_
   rw[decide_eq_false (by omega)]at ha
   refine RN 6 ha hs λa ha=>?_
   rw[show (i:Int)+1-1=(i:Int) from by omega]at ha
   refine RN 2 ha hs λa ha=>?_
   refine st_set ha (wgT ha rfl (s:=20)) (ld1 ha (hs.rd1 (pgc_ref hil))) rfl λa ha=>?_
   refine RN 2 ha hs λa ha=>?_
   rw[decide_eq_true (by omega)]at ha
   refine RT 3 ha hs ?_
   exact⟨rfl,(Room.close (n:=_) hs rfl hp)⟩
 ·
   refine EN Tryz.func140 Tryz.ntmps140 rfl rfl λa ha=>?_
   refine RN 7 ha hs λa ha=>?_
   replace ha:=ha.isF 7
   refine RN 4 ha hs λa ha=>?_
   rw[decide_eq_false (by omega)]at ha
   refine RN 9 ha hs λa ha=>?_
   rw[decide_eq_true (by omega)]at ha
   refine RT 14 ha hs ?_
   exact⟨rfl,(Room.close (n:=_) hs rfl hp)⟩
theorem page_refs_no (hs:St W w (Room q b ps::L))(hn:∀ h:i<ps.length,ps[i].refs=0)(hi:i<1000) :
   Calls Tryz.prog 70 #[pt q,.int .i64 ((i:Int)+1)] w λe w'=>e=.returned (.int .i64 0)∧St W w' (Room q b ps::L):=by
 refine EN Tryz.func70 Tryz.ntmps70 rfl rfl λa ha=>?_
 refine CL 5 ha hs (page_at_no hs hn hi) λa w ha hs=>?_
 refine RN 5 ha hs λa ha=>?_
 replace ha:=ha.isT 10
 refine RT 3 ha hs ?_
 exact⟨rfl,hs⟩
theorem snap_prefs_any (hs:St W w (Store q r A::L))(hi:i<1000) :
   Calls Tryz.prog 70 #[pt r,.int .i64 ((i:Int)+1)] w λe w'=>e=.returned (.int .i64 (cnt A.pics i))∧St W w' (Store q r A::L):=by
 have hf:=(Store.facts hs).2
 obtain⟨b,m,ps,xs,h1,hw,hr,hs⟩:=Store.open hs
 by_cases hl:∃ h:i<ps.length,0<ps[i].refs
 · obtain⟨h3,h4⟩:=hl
   refine (page_refs (hs.pick (Room r b ps)) h3 h4).mono λe w' ⟨h2,hs⟩=>?_
   rw[hr.refs _ _ (List.getElem?_eq_getElem h3)]at h2
   exact⟨h2,Store.close (b:=b) (m:=m) (ps:=ps) hs h1 hw hr⟩
 · have hn : ∀ h : i < ps.length, ps[i].refs = 0 := fun h => by
     rcases Nat.eq_zero_or_pos ps[i].refs with h2 | h2
     · exact h2
     · exact absurd ⟨h,h2⟩ hl
   have h0:cnt A.pics i=0:=by
     by_cases h:i<ps.length
     · rw[← hr.refs _ _ (List.getElem?_eq_getElem h)];exact hn h
     · exact cnt_over hf (by rw[← hr.len];omega)
   refine (page_refs_no (hs.pick (Room r b ps)) hn hi).mono λe w' ⟨h2,hs⟩=>?_
   rw[h0]
   exact⟨h2,Store.close (b:=b) (m:=m) (ps:=ps) hs h1 hw hr⟩
end
end
section
theorem rep_ints' (k:IntKind)(m:Nat)(x:Int):List.replicate m (Value.int k x)=ints k m (λ_=>x):=by
 rw[ints,fn];exact (List.ext_getElem (by simp) (by simp))
section
variable {W w:World}{L:List SP}{N:Nat}{M:MuB}{p:Pr}{m:Mu}{cf:Cf}{x:Int}
set_option maxHeartbeats 4000000 in
theorem bounds_spec (hs:St W w (MuS W M p m::L))(h:MI p M N m)(hcf:ksCf m.s.k=cf) :
   Calls Tryz.prog 24 #[pt M.mb,.agg (cfC cf).toArray] w λe w'=>e=.returned (.bool true)∧St W w' (MuS W M p m::L):=by
 have hcb:cf.branches=(m.T.most:Int):=by rw[← hcf];exact h.most
 have hcw:cf.workers=(m.ks.length:Int):=by rw[← hcf];exact h.workers
 have hcr:(m.A.room:Int)=4*cf.room:=by rw[← hcf];exact h.room.1
 have hk4:=h.ks
 obtain⟨t,hI⟩:=h.inv
 have hlen:=hI.len
 have hhl:(heldW (m.ks.map (·.1))).length≤m.ks.length:=by
   have h1:=List.length_filter_le (λk:Wk=>k.busy) (m.ks.map (·.1))
   rw[List.length_map]at h1
   rw[heldW,List.length_map];exact h1
 clear hcf
 replace hs:=MuS.open hs
 have hwt:=(Tree.wt (hs.tree M.tq)).most
 have hAf:=Store.facts (hs.store M.sq)
 have hul:=Store.used_le (hs.store M.sq)
 have hur:=Sn.used_room m.A
 have hrm:=hAf.1.room
 obtain⟨s,A,T,J,ks,base,front⟩:=m
 dsimp only at hcb hcw hcr hk4 hlen hhl hwt hAf hul hur hrm hs
 have hall:=pgs_all hAf.2 (m:=200) hrm
 refine EN Tryz.func24 Tryz.ntmps24 rfl rfl λa ha=>?_
 refine BX 1 ha hs λb3 a w ha hs=>?_
 change St W w (blk b3 27 (cfC cf)::_) at hs
 refine RN 3 ha hs λa ha=>?_
 replace hs:=MuS.fold hs M p ⟨s,A,T,J,ks,base,front⟩
 refine CL 0 ha hs (mu_store hs) λa w ha hs=>?_
 refine RN 3 ha hs λa ha=>?_
 replace hs:=MuS.open hs
 dsimp only at hs
 refine CL2 0 ha hs (snap_live (hs.store M.sq)) λadv cv a w ha hs=>?_
 refine DWC 3 (λw0 w'=>Rd w' b3 0 (cfC cf)) [5,25,26] [0,1,2,4,3003,1005,6,7,8,9,10,11,12,13,14,17,18,19,1015,1016,20,21,22,23,24,27,3028,29,1025,1026,30,31] ha hs λa w ha hs hH=>?_
 have hC:=hH.at w (hs.rdAll (b:=b3))
 refine RH 4 ha hs hH hC λa ha=>?_
 refine QH ha (λw hc=>ld1 ha (hc 7 _ rfl)) hC λa ha=>?_
 refine RH 0 ha hs hH hC λa ha=>?_
 refine SS ha (ld1 ha (hC 8 _ rfl)) λa ha=>?_
 refine RH 4 ha hs hH hC λa ha=>?_
 rw[decide_eq_false (by omega)]at ha
 refine RH 4 ha hs hH hC λa ha=>?_
 rw[decide_eq_true (by omega)]at ha
 refine RH 4 ha hs hH hC λa ha=>?_
 refine CL 0 ha hs (snap_room (hs.store M.sq)) λa w ha hs=>?_
 refine CL 0 ha hs (snap_used (hs.store M.sq)) λa w ha hs=>?_
 refine RN 4 ha hs λa ha=>?_
 rw[decide_eq_false (by omega)]at ha
 refine RN 2 ha hs λa ha=>?_
 replace hC:Rd w b3 0 (cfC cf):=hs.rdAll (b:=b3)
 refine QH ha (λw hc=>ld1 ha (hc 9 _ rfl)) hC λa ha=>?_
 refine CL 1 ha hs (snap_room (hs.store M.sq)) λa w ha hs=>?_
 replace hC:=hH.at w (hs.rdAll (b:=b3))
 refine RH 0 ha hs hH hC λa ha=>?_
 refine CL 0 ha hs (snap_used (hs.store M.sq)) λa w ha hs=>?_
 replace hC:=hH.at w (hs.rdAll (b:=b3))
 refine RH 2 ha hs hH hC λa ha=>?_
 rw[decide_eq_false (by omega)]at ha
 refine AL 2 ha hs λb7 a w ha hs=>?_
 rw[rep_ints']at hs
 refine RN 3 ha hs λa ha=>?_
 refine wp_loop_ghost (λμ a w=>∃ (i:Nat),(μ=A.pics.length-i∧i≤A.pics.length)∧Fr a 120 [(0,pt M.mb),(3,pt b3),(5,pt M.sq),(6,.slice adv A.pics.length cv),(7,pt b7),(8,.int .i64 i)]∧St W w (blk b7 134 (ints .i64 201 (cB (A.pics.take i)))::Sl 43 1 adv A.pics.length cv (A.pics.map λx=>.int .i64 x.id)::Store M.sq M.r A::blk b3 27 (cfC cf)::blk M.mb 110 (muC p M ks.length base front)::PlainS W M.B p s::RoP W p M.adO M.cO::Sl 112 1 M.adw ks.length M.cw (ptrs ks)::All (ownK p M.adO M.cO M.tq M.jq M.sq) ks::Tree M.tq M.sq T::Jobs M.jq J::L)) (A.pics.length) (⟨0,⟨rfl,by omega⟩,ha.keep [0,3,5,6,7,8],by rw[List.take_zero,cB_nil];exact hs.sub⟩) ?_
 clear ha hs
 rintro μ a w ⟨i,⟨rfl,hi⟩,ha,hs⟩
 refine IF 6 ha hs (λhc1 a ha=>?_) λhc1 a ha=>?_
 ·
  obtain⟨x,hx⟩:∃ x,A.pics[i]?=some x:=⟨_,List.getElem?_eq_getElem (by omega)⟩
  obtain⟨bv,ov,rfl,hrv⟩:=(hs.pick (Sl 43 1 adv A.pics.length cv (A.pics.map λx=>.int .i64 x.id))).slRd adv (by omega)
  have hxi:=hrv i (.int .i64 x.id) (by rw[List.getElem?_map,hx];rfl)
  have hxp:=hAf.2 x (List.mem_of_getElem? hx)
  have hc4:=cA_four hx
  have htl:(A.pics.take i).length≤200:=by rw[List.length_take];omega
  clear hrv
  refine RN 6 ha hs λa ha=>?_
  refine SS ha (ld1 ha (hxi)) λa ha=>?_
  refine CL2 0 ha hs (snap_pages (hs.store M.sq) hx) λadp cp a w ha hs=>?_
  refine RN 6 ha hs λa ha=>?_
  replace ha:=ha.isF 63
  refine RN 3 ha hs λa ha=>?_
  refine wp_loop_ghost (λμ a w=>∃ (k:Nat),(μ=4-k∧k≤4)∧Fr a 120 [(0,pt M.mb),(3,pt b3),(5,pt M.sq),(6,.slice (some ⟨bv,ov,none⟩) A.pics.length cv),(7,pt b7),(8,.int .i64 i),(9,.slice adp 4 cp),(10,.int .i64 k)]∧St W w (blk b7 134 (ints .i64 201 (cA (A.pics.take i) x k))::Sl 3 1 adp 4 cp (ints .i64 4 (λk=>(x.p k:Int)+1))::Sl 43 1 (some ⟨bv,ov,none⟩) A.pics.length cv (A.pics.map λx=>.int .i64 x.id)::Store M.sq M.r A::blk b3 27 (cfC cf)::blk M.mb 110 (muC p M ks.length base front)::PlainS W M.B p s::RoP W p M.adO M.cO::Sl 112 1 M.adw ks.length M.cw (ptrs ks)::All (ownK p M.adO M.cO M.tq M.jq M.sq) ks::Tree M.tq M.sq T::Jobs M.jq J::L)) (4) (⟨0,⟨rfl,by omega⟩,ha.keep [0,3,5,6,7,8,9,10],by rw[cA_zero];exact hs.sub⟩) ?_
  clear ha hs
  rintro μ a w ⟨k,⟨rfl,hk⟩,ha,hs⟩
  refine IF 4 ha hs (λhc3 a ha=>?_) λhc3 a ha=>?_
  ·
   obtain⟨bp,op,rfl,hrp⟩:=(hs.pick (Sl 3 1 adp 4 cp (ints .i64 4 (λk=>(x.p k:Int)+1)))).slRd adp (by omega)
   have hpk:=hrp k _ (ints_get _ (by omega))
   have hpl:=hxp k (by omega)
   have hct:=cA_le (A.pics.take i) x k (x.p k+1) (by omega)
   clear hrp
   refine RN 6 ha hs λa ha=>?_
   refine SS ha (ld1 ha (hpk)) λa ha=>?_
   refine RN 2 ha hs λa ha=>?_
   rw[decide_eq_false (by omega)]at ha
   refine RN 3 ha hs λa ha=>?_
   refine st_set ha (wgT ha rfl (s:=73)) (ld1 ha (hpk)) rfl λa ha=>?_
   refine RN 2 ha hs λa ha=>?_
   rw[decide_eq_false (by omega)]at ha
   refine RN 4 ha hs λa ha=>?_
   refine SS ha (ld1 ha (hpk)) λa ha=>?_
   rw[show ((x.p k:Nat):Int)+1=((x.p k+1:Nat):Int) from rfl]at ha
   refine RN 1 ha hs λa ha=>?_
   refine SS ha (ld1 ha (hs.rd1 (ints_get _ (by omega)))) λa ha=>?_
   refine ST 2 ha hs (λa w ha hs=>?_) (hlt:=(by rw[ints_len];omega))
   rw[ints_set,cA_set]at hs
   refine RN 3 ha hs λa ha=>?_
   exact⟨4-(k+1),by omega,k+1,⟨rfl,by omega⟩,ha.keep [0,3,5,6,7,8,9,10],hs.sub⟩
  refine RN 3 ha hs λa ha=>?_
  obtain rfl:k=4:=by omega
  rw[hc4]at hs
  exact⟨A.pics.length-(i+1),by omega,i+1,⟨rfl,by omega⟩,ha.keep [0,3,5,6,7,8],hs.sub⟩
 obtain rfl:i=A.pics.length:=by omega
 rw[List.take_length]at hs
 refine RN 5 ha hs λa ha=>?_
 refine wp_loop_ghost (λμ a w=>∃ (q:Nat),(μ=200-q∧q≤200)∧Fr a 120 [(0,pt M.mb),(3,pt b3),(5,pt M.sq),(7,pt b7),(11,.int .i64 (pgs A.pics q:Nat)),(12,.int .i64 ((q:Int)+1))]∧St W w (Store M.sq M.r A::blk b7 134 (ints .i64 201 (cB A.pics))::blk b3 27 (cfC cf)::blk M.mb 110 (muC p M ks.length base front)::PlainS W M.B p s::RoP W p M.adO M.cO::Sl 112 1 M.adw ks.length M.cw (ptrs ks)::All (ownK p M.adO M.cO M.tq M.jq M.sq) ks::Tree M.tq M.sq T::Jobs M.jq J::L)) (200) (⟨0,⟨rfl,by omega⟩,by have h9:=ha.keep [0,3,5,7,11,12];exact h9,hs.sub⟩) ?_
 clear ha hs
 rintro μ a w ⟨q,⟨rfl,hq⟩,ha,hs⟩
 refine IF 4 ha hs (λhc5 a ha=>?_) λhc5 a ha=>?_
 ·
  have hcq:=cB_at A.pics q
  have hps:=pgs_succ A.pics q
  have hpl:=pgs_le A.pics q
  have hcl:=cnt_le A.pics q
  have hq1:q<200:=by omega
  refine DWC 3 (λw0 w'=>w'.cell? ⟨b7,q+1,none⟩=some (.int .i64 (cB A.pics (q+1)))) [1,3] [0,2,4,5,3006,1001,1003,7] ha hs λa w ha hs hH=>?_
  have hC:=hH.at w (hs.rd1 (b:=b7) (ints_get _ (by omega)))
  refine RH 3 ha hs hH hC λa ha=>?_
  rw[show ((q:Nat):Int)+1=((q+1:Nat):Int) from rfl]at ha
  refine RH 1 ha hs hH hC λa ha=>?_
  refine QH ha (λw hc=>ld1 ha (hc)) hC λa ha=>?_
  refine RH 0 ha hs hH hC λa ha=>?_
  refine CL 0 ha hs (snap_room hs) λa w ha hs=>?_
  replace hC:=hH.at w (hs.rd1 (b:=b7) (ints_get _ (by omega)))
  refine RH 0 ha hs hH hC λa ha=>?_
  refine CL 0 ha hs (snap_prefs_any hs (by omega)) λa w ha hs=>?_
  replace hC:=hH.at w (hs.rd1 (b:=b7) (ints_get _ (by omega)))
  refine RH 1 ha hs hH hC λa ha=>?_
  rw[hcq,show decide ((cnt A.pics q:Nat)≠((cnt A.pics q:Nat):Int))=false from by simp]at ha
  replace ha:=ha.isF 99
  refine RN 4 ha hs λa ha=>?_
  refine SS ha (ld1 ha (hs.rd1 (b:=b7) (ints_get _ (by omega)))) λa ha=>?_
  rw[hcq]at ha
  refine IF 1 ha hs (λhc7 a ha=>?_) λhc7 a ha=>?_
  ·
   refine RN 6 ha hs λa ha=>?_
   exact⟨200-(q+1),by omega,q+1,⟨rfl,by omega⟩,by rw[hps,if_pos (by omega)];exact ha.keep [0,3,5,7,11,12],hs.sub⟩
  refine RN 3 ha hs λa ha=>?_
  exact⟨200-(q+1),by omega,q+1,⟨rfl,by omega⟩,by rw[hps,if_neg (by omega)];exact ha.keep [0,3,5,7,11,12],hs.sub⟩
 obtain rfl:q=200:=by omega
 rw[hall]at ha
 refine DWC 1 (λw0 w'=>Rd w' b3 0 (cfC cf)) [7,8,9] [0,1,1002,1003,4,5,6,10,3011,1007,1008,1009,12,13,14] ha hs λa w ha hs hH=>?_
 have hC:=hH.at w (hs.rdAll (b:=b3))
 refine RH 2 ha hs hH hC λa ha=>?_
 refine CL 0 ha hs (snap_room hs) λa w ha hs=>?_
 refine CL 0 ha hs (snap_used hs) λa w ha hs=>?_
 refine RN 2 ha hs λa ha=>?_
 rw[decide_eq_true (by omega)]at ha
 refine RN 2 ha hs λa ha=>?_
 replace hC:Rd w b3 0 (cfC cf):=hs.rdAll (b:=b3)
 refine QH ha (λw hc=>ld1 ha (hc 7 _ rfl)) hC λa ha=>?_
 replace hs:=MuS.fold hs M p ⟨s,A,T,J,ks,base,front⟩
 refine CL 0 ha hs (mu_tree hs) λa w ha hs=>?_
 replace hC:=hH.at w (hs.rdAll (b:=b3))
 replace hs:=MuS.open hs
 dsimp only at hs
 refine RH 0 ha hs hH hC λa ha=>?_
 refine CL2 0 ha hs (tree_all (hs.tree M.tq)) λadt ct a w ha hs=>?_
 replace hC:=hH.at w (hs.rdAll (b:=b3))
 refine RH 4 ha hs hH hC λa ha=>?_
 refine RT 0 ha hs ?_
 exact⟨by rw[decide_eq_true (by omega)],(MuS.fold hs.tail M p ⟨s,A,T,J,ks,base,front⟩).sub⟩
theorem tmod_bd' {x L:Int}(h:0<L):-L<x.tmod L∧x.tmod L<L:=by
 have h1:=Int.natAbs_tmod x L
 have h2:=Nat.mod_lt x.natAbs (show 0<L.natAbs by omega)
 omega
theorem small_nat {k:Nat}(hs:St W w L)(hk:0<k∧k≤1000) :
   Calls Tryz.prog 13 #[.int .i64 x,.int .i64 k] w λe w'=>∃ r:Nat,e=.returned (.int .i64 r)∧r<k∧St W w' L:=by
 have hb:=tmod_bd' (x:=x) (L:=k) (by omega)
 refine EN Tryz.func13 Tryz.ntmps13 rfl rfl λa ha=>?_
 refine IF 11 ha hs (λhc0 a ha=>?_) λhc0 a ha=>?_
 ·
  refine RT 6 ha hs ?_
  exact⟨(x.tmod k).natAbs,by rw[wrap_in (by omega) (by omega),show (((x.tmod k).natAbs:Nat):Int)=0-x.tmod k from by omega],by omega,hs⟩
 refine RT 3 ha hs ?_
 exact⟨(x.tmod k).natAbs,by rw[show (((x.tmod k).natAbs:Nat):Int)=x.tmod k from by omega],by omega,hs⟩
end
end
section
theorem RdB.cellL {w:World}{ad:Option Addr}{n b o i:Nat}{bs:List UInt8}(h:RdB w ad n bs)(he:ad=some ⟨b,o,none⟩)(hi:i<bs.length):w.cell? ⟨b,o+i,none⟩=some (.int .u8 ((bs.getD i 0).toNat:Nat)):=by
 obtain⟨b',o',h1,h2⟩:=h.get (by have:=h.1;omega)
 rw[he]at h1;cases h1
 exact h2 i _ (bc_atD hi)
section
variable {W w:World}{L:List SP}{i:Nat}{M:MuB}{p:Pr}{s:Pl}{cf:Cf}
theorem boundsJ (hs:St W w (MuJ W M p cf i s::L)) :
   Calls Tryz.prog 24 #[pt M.mb,.agg (cfC cf).toArray] w λe w'=>e=.returned (.bool true)∧St W w' (MuJ W M p cf i s::L):=by
 replace hs:=MuJ.open hs
 obtain⟨m,⟨rfl,hI,hc⟩,hs⟩:=hs
 exact (bounds_spec hs hI hc).mono λe w' ⟨h1,h2⟩=>⟨h1,MuJ.close h2 hI (Nat.le_refl _) rfl hc⟩
end
end
end Go.Proofs.YtdilfdkendjjhaaGreat
