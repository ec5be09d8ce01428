/- Package multi: what else it does. -/
import Derived.Test.YtdilfdkendjjhaaGreatA30MulA
import Derived.Test.YtdilfdkendjjhaaGreatA12Num
import Derived.Test.YtdilfdkendjjhaaGreatA04Ty
import Derived.Test.YtdilfdkendjjhaaGreatA27PlainS
import Derived.Test.YtdilfdkendjjhaaGreatA16RefS
import Derived.Test.YtdilfdkendjjhaaGreatA14Wk
import Derived.Test.YtdilfdkendjjhaaGreatA23CoQ
import Derived.Test.YtdilfdkendjjhaaGreatA29MulM
namespace Go.Proofs.YtdilfdkendjjhaaGreat
open Go.RowKit
set_option linter.unusedVariables false
set_option linter.unusedSimpArgs false
set_option maxRecDepth 10000
set_option synthInstance.maxSize 4000
set_option synthInstance.maxHeartbeats 400000
section
theorem tick_cf (k:Ks):ksCf (tickK k).2=ksCf k:=by
 rcases tickK_k k with h1 | ⟨hc,h1 | ⟨i,hi,h1⟩⟩ <;> rw[h1] <;> rfl
theorem quit_cf (k:Ks):ksCf (quitK k).2=ksCf k:=by
 unfold quitK
 split <;> rfl
section
variable {W w:World}{L:List SP}{n c i N tq sq r base front:Nat}{ad:Option Addr}{M:MuB}{B:PlB}{p:Pr}{s:Pl}{m:Mu}{A:Sn}{T:Tr}{t:Nat→Nat}{px:Pic}{y:Int}
theorem mu_tick (hs:St W w (MuS W M p m::L))(h:MI p M N m)(hnw:m.s.k.now≤1000000):Calls Tryz.prog 27 #[pt M.mb] w λr w'=>∃ ad c,r=.returned (.slice ad (tickK m.s.k).1.length c)∧MI p M N { m with s:=⟨(tickK m.s.k).2,m.s.g⟩ } ∧
   St W w' (OwnMl 139 ad (tickK m.s.k).1.length c (tickK m.s.k).1::MuS W M p { m with s:=⟨(tickK m.s.k).2,m.s.g⟩ }::L):=by
 refine EN Tryz.func27 Tryz.ntmps27 rfl rfl λa ha=>?_
 refine CL 4 ha hs (mu_plain hs) λa w ha hs=>?_
 replace hs:=MuS.open hs
 refine CL2 0 ha hs (plain_tick (hs.pick (PlainS W M.B p m.s)) h.wf hnw) λad c a w ha hs=>?_
 refine RT 1 ha hs ?_
 exact⟨ad,c,rfl,h.same h.wf.tick rfl (tick_same _).2 (tick_cf _),(MuS.fold hs M p { m with s:=⟨(tickK m.s.k).2,m.s.g⟩ }).sub⟩
theorem mu_quit (hs:St W w (MuS W M p m::L))(h:MI p M N m):Calls Tryz.prog 29 #[pt M.mb] w λr w'=>∃ ad c,r=.returned (.slice ad (quitK m.s.k).1.length c)∧MI p M N { m with s:=⟨(quitK m.s.k).2,m.s.g⟩ } ∧
   St W w' (OwnMl 139 ad (quitK m.s.k).1.length c (quitK m.s.k).1::MuS W M p { m with s:=⟨(quitK m.s.k).2,m.s.g⟩ }::L):=by
 refine EN Tryz.func29 Tryz.ntmps29 rfl rfl λa ha=>?_
 refine CL 4 ha hs (mu_plain hs) λa w ha hs=>?_
 replace hs:=MuS.open hs
 refine CL2 0 ha hs (plain_quit (hs.pick (PlainS W M.B p m.s)) h.wf) λad c a w ha hs=>?_
 refine RT 1 ha hs ?_
 exact⟨ad,c,rfl,h.same h.wf.quit rfl (quit_same _).2 (quit_cf _),(MuS.fold hs M p { m with s:=⟨(quitK m.s.k).2,m.s.g⟩ }).sub⟩
theorem mu_events (hs:St W w (MuS W M p m::L))(h:MI p M N m):Calls Tryz.prog 39 #[pt M.mb] w λr w'=>∃ ad c,r=.returned (.slice ad m.s.k.ev.length c)∧MI p M N { m with s:=⟨{ m.s.k with ev:=[] },m.s.g⟩ } ∧
   St W w' (Sl 256 1 ad m.s.k.ev.length c (m.s.k.ev.map evV)::MuS W M p { m with s:=⟨{ m.s.k with ev:=[] },m.s.g⟩ }::L):=by
 refine EN Tryz.func39 Tryz.ntmps39 rfl rfl λa ha=>?_
 refine CL 4 ha hs (mu_plain hs) λa w ha hs=>?_
 replace hs:=MuS.open hs
 refine CL2 0 ha hs (plain_events (hs.pick (PlainS W M.B p m.s))) λad c a w ha hs=>?_
 refine RT 1 ha hs ?_
 exact⟨ad,c,rfl,h.same h.wf.told rfl rfl rfl,(MuS.fold hs M p { m with s:=⟨{ m.s.k with ev:=[] },m.s.g⟩ }).sub⟩
theorem mu_confirmed (hs:St W w (MuS W M p m::L))(h:MI p M N m):Calls Tryz.prog 35 #[pt M.mb] w λr w'=>∃ ad c,r=.returned (.tuple #[.slice ad 128 c,.int .i64 (confP m.s).2])∧St W w' (Sl 5 1 ad 128 c (bc (confP m.s).1)::MuS W M p m::L):=by
 have hne:=h.wf.wc.lne
 have hl8:m.s.k.ls.length≤8:=by rw[h.wf.wc.ls];exact h.wf.wc.n.2
 obtain⟨t,hI⟩:=h.inv
 obtain⟨i,px,hpx,hpid⟩:=hI.pic (List.mem_cons_self ..)
 have hpg:=(hI.base px (List.mem_of_getElem? hpx) hpid).1
 replace hs:=MuS.open hs
 rw[h.front]at hs
 refine EN Tryz.func35 Tryz.ntmps35 rfl rfl λa ha=>?_
 refine DWC 5 (λw0 w'=>Rd w' M.mb 0 (muC p M m.ks.length m.base (frontK m.s.k))) [8,9,10] [0,1,2,3,4,5,7,3006,1008,1009,1010,11,12] ha hs λa w ha hs hH=>?_
 have hC:=hH.at w (hs.rdAll (b:=M.mb))
 refine RH 3 ha hs hH hC λa ha=>?_
 replace ha:=ha.isF 6
 refine RH 4 ha hs hH hC λa ha=>?_
 refine QH ha (λw hc=>ld1 ha (hc 8 _ rfl)) hC λa ha=>?_
 rw[← h.front]at hs
 replace hs:=MuS.fold hs M p m
 refine RH 0 ha hs hH hC λa ha=>?_
 refine CL 0 ha hs (mu_core hs) λa w ha hs=>?_
 replace hC:=hH.at w (by have h9:=(MuS.open hs).rdAll (b:=M.mb);rw[h.front]at h9;exact h9)
 replace hs:=PlainS.open ((MuS.open hs).pick (PlainS W M.B p m.s))
 rw[h.front]at hs
 refine RH 0 ha hs hH hC λa ha=>?_
 refine CL 0 ha hs (core_queue (hs.pick (CoreS M.B.core m.s.k))) λa w ha hs=>?_
 replace hC:=hH.at w (hs.rdAll (b:=M.mb))
 obtain⟨D,hs,hD⟩:=CoreS.qu hs
 refine RH 0 ha hs hH hC λa ha=>?_
 refine CL 0 ha hs (queue_front hs hne hl8) λa w ha hs=>?_
 replace hC:=hH.at w (hs.rdAll (b:=M.mb))
 refine RH 1 ha hs hH hC λa ha=>?_
 rw[show decide (((frontK m.s.k:Nat):Int)≠((frontL m.s.k.ls:Nat):Int))=false from dne]at ha
 refine RH 1 ha hs hH hC λa ha=>?_
 replace hs:=PlainS.fold (hD _ _ hs) M.B p m.s
 rw[← h.front]at hs
 replace hs:=MuS.fold hs M p m
 replace ha:=ha.isF 16
 refine RN 2 ha hs λa ha=>?_
 replace hs:=MuS.open hs
 refine DWC 0 (λw0 w'=>Rd w' M.mb 0 (muC p M m.ks.length m.base m.front)) [5,6,10,11] [0,1,2,3,7,8,9,3004,3010,1005,1006,1011,12] ha hs λa w ha hs hH=>?_
 have hC:=hH.at w (hs.rdAll (b:=M.mb))
 refine RH 7 ha hs hH hC λa ha=>?_
 refine QH ha (λw hc=>ld1 ha (hc 7 _ rfl)) hC λa ha=>?_
 refine QH ha (λw hc=>ld1 ha (hc 8 _ rfl)) hC λa ha=>?_
 replace hs:=MuS.fold hs M p m
 refine RH 0 ha hs hH hC λa ha=>?_
 refine CL 0 ha hs (mu_picture hs hpx hpid) λa w ha hs=>?_
 replace hC:=hH.at w ((MuS.open hs).rdAll (b:=M.mb))
 refine RH 0 ha hs hH hC λa ha=>?_
 refine CL2 0 ha hs (state_encode hs) λad c a w ha hs=>?_
 replace hC:=hH.at w ((MuS.open hs.tail).rdAll (b:=M.mb))
 refine RH 2 ha hs hH hC λa ha=>?_
 refine RT 0 ha hs ?_
 rw[hpg]at hs
 exact⟨ad,c,by rw[h.front];rfl,hs⟩
theorem mu_work_no (hs:St W w (MuS W M p m::L))(hc:m.s.k.cl=true∨y<0∨(m.ks.length:Int)≤y)(h4:m.ks.length≤4) :
   Calls Tryz.prog 17 #[pt M.mb,.int .i64 y] w λe w'=>e=.returned (.bool false)∧St W w' (MuS W M p m::L):=by
 refine EN Tryz.func17 Tryz.ntmps17 rfl rfl λa ha=>?_
 refine RN 7 ha hs λa ha=>?_
 replace ha:=ha.isF 7
 refine CL 1 ha hs (mu_closed hs) λa w ha hs=>?_
 replace hs:=MuS.open hs
 refine BY 2 ha hs (λhg6 a ha=>?_) λhg6 a ha=>?_
 ·
  refine RT 15 ha hs ?_
  exact⟨rfl,MuS.fold hs M p m⟩
 refine BY 4 ha hs (λhg10 a ha=>?_) λhg10 a ha=>?_
 ·
  refine RT 11 ha hs ?_
  exact⟨rfl,MuS.fold hs M p m⟩
 refine IF 8 ha hs (λhc0 a ha=>?_) λhc0 a ha=>?_
 ·
  refine RT 2 ha hs ?_
  exact⟨rfl,MuS.fold hs M p m⟩
 exact absurd hc (by rintro (h | h | h) <;> first | omega | (rw[h]at hg6;cases hg6))
theorem Near.brI {k:Ks}{J J':Js}{A A':Sn}{T T':Tr}(hn:Near A T J A' T' J')(h:BrI k T):BrI k T':=by
 intro y hy
 have h1:(y.id,y.press)∈T'.l.map (λy=>(y.id,y.press)):=List.mem_map.2 ⟨y,hy,rfl⟩
 rw[hn.l]at h1
 obtain⟨z,hz,he⟩:=List.mem_map.1 h1
 have h2:=h z hz
 rw[(Prod.mk.inj he).2]at h2
 exact h2
theorem mu_work {k:Wk}{wb:Nat}(hs:St W w (MuS W M p m::L))(h:MI p M N m)(hcl:m.s.k.cl=false)(hk:m.ks[i]?=some (k,wb))(hpr:prOk p)(hsz:p.title.size≤1000000000)(hN:N≤1000000000000) :
   Calls Tryz.prog 17 #[pt M.mb,.int .i64 i] w λe w'=>∃ (z:Bool) (A':Sn) (T':Tr) (J':Js) (k':Wk),e=.returned (.bool z)∧(Bit p m.A m.T m.J k z A' T' J' k'∧MI p M (N+1) { m with A:=A',T:=T',J:=J',ks:=m.ks.set i (k',wb) }) ∧
     St W w' (MuS W M p { m with A:=A',T:=T',J:=J',ks:=m.ks.set i (k',wb) }::L):=by
 have hil:=(List.getElem?_eq_some_iff.1 hk).1
 have h4:=h.ks
 obtain⟨t,hI⟩:=h.inv
 obtain⟨hn1,hn2,hn3⟩:=h.n
 have hft:=h.wf.wc.frontt
 have hhd:=h.wf.wc.headt
 refine EN Tryz.func17 Tryz.ntmps17 rfl rfl λa ha=>?_
 refine RN 7 ha hs λa ha=>?_
 replace ha:=ha.isF 7
 refine CL 1 ha hs (mu_closed hs) λa w ha hs=>?_
 rw[hcl]at ha
 refine RN 2 ha hs λa ha=>?_
 replace ha:=ha.isF 11
 refine RN 4 ha hs λa ha=>?_
 replace hs:=MuS.open hs
 replace ha:=ha.isF 15
 refine RN 8 ha hs λa ha=>?_
 rw[decide_eq_false (by omega)]at ha
 refine RN 2 ha hs λa ha=>?_
 obtain⟨b',o',hade,hrd⟩:=hs.slRd M.adw (by omega)
 refine RN 5 ha hs λa ha=>?_
 rw[hade]at ha
 refine RN 1 ha hs λa ha=>?_
 refine SS ha (ld1 ha (hrd i _ (ptrs_at hk))) λa ha=>?_
 refine CLX 0 ha hs (shop_step (hs.sub (M:=All (ownK p M.adO M.cO M.tq M.jq M.sq) m.ks::Tree M.tq M.sq m.T::Store M.sq M.r m.A::Jobs M.jq m.J::RoP W p M.adO M.cO::blk M.mb 110 (muC p M m.ks.length m.base m.front)::PlainS W M.B p m.s::Sl 112 1 M.adw m.ks.length M.cw (ptrs m.ks)::L)) hk hI ⟨by omega,by omega⟩ hpr hsz (by omega) h.J) ?_
 clear ha hs
 rintro e w ⟨z,A',T',J',k',rfl,⟨hbit,hI2,hnr⟩,hs⟩
 refine⟨_,rfl,λa ha=>?_⟩
 refine RT 1 ha hs ?_
 have hsl:(m.ks.set i (k',wb)).length=m.ks.length:=List.length_set ..
 have hrm:=hnr.room
 have hn4:=hnr.n
 have hn5:=hnr.last
 have hn6:=hnr.epoch
 refine⟨z,A',T',J',k',rfl,⟨hbit,{ wf:=h.wf,gs:=h.gs,front:=h.front,inv:=⟨t,hI2⟩,brs:=hnr.brI h.brs,J:=hnr.len h.J,most:=by dsimp only;rw[hnr.most];exact h.most,workers:=by dsimp only;rw[hsl];exact h.workers,ks:=by dsimp only;rw[hsl];exact h4,room:=by dsimp only;rw[hrm];exact h.room,n:=⟨by dsimp only;omega,by dsimp only;omega,by dsimp only;omega⟩ }⟩,?_⟩
 rw[← ptrs_set (k':=k') hk,← hsl]at hs
 exact MuS.fold hs M p { m with A:=A',T:=T',J:=J',ks:=m.ks.set i (k',wb) }
end
end
section
theorem best_is {l:List Br}{frm:Int}{P:List (List UInt8)}(b:Br)(h:0<(l.foldl (bestStep frm P) b).done)(hb:b.done=0) :
   l.foldl (bestStep frm P) b∈l∧(l.foldl (bestStep frm P) b).done≤P.length∧alikeP ((l.foldl (bestStep frm P) b).press.take (l.foldl (bestStep frm P) b).done) P=true:=by
 have key:∀ (l:List Br) (b:Br),(l.foldl (bestStep frm P) b=b)∨(l.foldl (bestStep frm P) b∈l∧(l.foldl (bestStep frm P) b).done≤P.length∧alikeP ((l.foldl (bestStep frm P) b).press.take (l.foldl (bestStep frm P) b).done) P=true):=by
   intro l
   induction l with
   | nil=>intro b;exact .inl rfl
   | cons y l ih =>
     intro b
     rw[List.foldl_cons]
     rcases ih (bestStep frm P b y) with h | ⟨h1,h2,h3⟩
     · rw[h]
       unfold bestStep
       split
       · rename_i hc
         exact .inr ⟨List.mem_cons_self ..,hc.2.2.1,hc.2.2.2⟩
       · exact .inl rfl
     · exact .inr ⟨List.mem_cons_of_mem _ h1,h2,h3⟩
 rcases key l b with h1 | h1
 · rw[h1,hb]at h;omega
 · exact h1
theorem alike_take {u P:List (List UInt8)}(hl:u.length≤P.length)(h:alikeP u P=true):u=P.take u.length:=by
 have h1:=alikeP_iff.1 h
 rw[Nat.min_eq_left hl,List.take_length]at h1
 exact h1
theorem foldI_app (p:Pr):∀ (a b:List (List UInt8)) (fr:Int) (g:Nat→Int),foldI p fr g (a++b)=foldI p (fr+(a.length:Nat)) (foldI p fr g a) b
 | [],b,fr,g=>by simp[foldI]
 | x::a,b,fr,g=>by
   rw[List.cons_append,foldI,foldI_app p a b,foldI,List.length_cons]
   congr 1;omega
theorem RdX.drop {w:World}{ad:Option Addr}{zs:List BBx}{d c:Nat}(h:RdX w ad zs)(hc:zs.length≤c):RdX w (cutAd ad d c 1) (zs.drop d):=by
 refine⟨λh0=>?_,λx hx=>h.2 x (List.mem_of_mem_drop hx)⟩
 rw[List.length_drop]at h0
 obtain⟨b,o,rfl,hr⟩:=h.1 (by omega)
 refine⟨b,o+d*1,cutAd_some (by omega),λj v hj=>?_⟩
 rw[List.map_drop,List.getElem?_drop]at hj
 have:=hr _ v hj
 rw[Nat.mul_one,Nat.add_assoc];exact this
theorem muC_pr {w:World}{b nk base front:Nat}{p:Pr}{M:MuB}(h:Rd w b 0 (muC p M nk base front)):Rd w b 1 (prV p M.adO M.cO):=h.part 1 2
theorem foldI_cut {p:Pr}{f:Nat}{g:Nat→Int}{P:List (List UInt8)}{d:Nat}(hd:d≤P.length):foldI p ((f+d:Nat):Int) (foldI p (f:Int) g (P.take d)) (P.drop d)=foldI p (f:Int) g P:=by
 have h1:=foldI_app p (P.take d) (P.drop d) (f:Int) g
 rw[List.take_append_drop,List.length_take,Nat.min_eq_left hd]at h1
 rw[h1];rfl
section
variable {W w:World}{L:List SP}{n c i N tq sq r base front:Nat}{ad:Option Addr}{M:MuB}{B:PlB}{p:Pr}{s:Pl}{m:Mu}{A:Sn}{T:Tr}{t:Nat→Nat}{px:Pic}
set_option maxHeartbeats 1000000 in
theorem mu_display (hs:St W w (MuS W M p m::L))(h:MI p M N m)(hpr:prOk p)(hsz:p.title.size≤1000000000):Calls Tryz.prog 34 #[pt M.mb] w λr w'=>∃ ad c,r=.returned (.tuple #[.slice ad 128 c,.int .i64 (dispG p M.B.gs m.s).2])∧St W w' (Sl 5 1 ad 128 c (bc (dispG p M.B.gs m.s).1)::MuS W M p m::L):=by
 have hw:=h.wf
 have hne:=hw.wc.lne
 have hl8:m.s.k.ls.length≤8:=by rw[hw.wc.ls];exact hw.wc.n.2
 have hhd:=hw.wc.headt
 have hft:frontL m.s.k.ls≤headK m.s.k:=hw.wc.frontt
 have hgs:=h.gs
 have hfr:=h.front
 obtain⟨t,hI⟩:=h.inv
 obtain⟨i,px,hpx,hpid⟩:=hI.pic (List.mem_cons_self ..)
 have hpg:=(hI.base px (List.mem_of_getElem? hpx) hpid).1
 have hwt:=Tree.wt ((MuS.open hs).tree M.tq)
 clear h
 obtain⟨s,A,T,J,ks,base,front⟩:=m
 simp only at hw hne hl8 hhd hft hfr hI hpx hpid hpg hwt
 subst hfr
 refine EN Tryz.func34 Tryz.ntmps34 rfl rfl λa ha=>?_
 refine CL 5 ha hs (mu_core hs) λa w ha hs=>?_
 replace hs:=PlainS.open ((MuS.open hs).pick (PlainS W M.B p s))
 dsimp only at hs
 refine CL 0 ha hs (core_head (hs.pick (CoreS M.B.core s.k)) hw.wc) λa w ha hs=>?_
 refine RN 1 ha hs λa ha=>?_
 replace hs:=PlainS.fold hs M.B p s
 refine DWC 2 (λw0 w'=>Rd w' M.mb 0 (muC p M ks.length base (frontK s.k))) [8,9,10] [0,1,2,3,4,5,7,3006,1008,1009,1010,11,12,13,14,15,16,17,1018,19,20] ha hs λa w ha hs hH=>?_
 have hC:=hH.at w (hs.rdAll (b:=M.mb))
 refine RH 3 ha hs hH hC λa ha=>?_
 replace ha:=ha.isF 15
 refine RH 4 ha hs hH hC λa ha=>?_
 refine QH ha (λw hc=>ld1 ha (hc 8 _ rfl)) hC λa ha=>?_
 replace hs:=MuS.fold hs M p ⟨s,A,T,J,ks,base,frontK s.k⟩
 refine RH 0 ha hs hH hC λa ha=>?_
 refine CL 0 ha hs (mu_core hs) λa w ha hs=>?_
 replace hC:=hH.at w ((MuS.open hs).rdAll (b:=M.mb))
 replace hs:=PlainS.open ((MuS.open hs).pick (PlainS W M.B p s))
 dsimp only at hs
 refine RH 0 ha hs hH hC λa ha=>?_
 refine CL 0 ha hs (core_queue (hs.pick (CoreS M.B.core s.k))) λa w ha hs=>?_
 replace hC:=hH.at w (hs.rdAll (b:=M.mb))
 obtain⟨D,hs,hD⟩:=CoreS.qu hs
 refine RH 0 ha hs hH hC λa ha=>?_
 refine CL 0 ha hs (queue_front hs hne hl8) λa w ha hs=>?_
 replace hC:=hH.at w (hs.rdAll (b:=M.mb))
 refine RH 1 ha hs hH hC λa ha=>?_
 rw[show decide (((frontK s.k:Nat):Int)≠((frontL s.k.ls:Nat):Int))=false from dne]at ha
 refine RH 2 ha hs hH hC λa ha=>?_
 replace ha:=ha.isF 26
 refine RH 4 ha hs hH hC λa ha=>?_
 refine st_set ha (wgT ha rfl (s:=26)) (ld1 ha (hC 8 _ rfl)) rfl λa ha=>?_
 refine RH 2 ha hs hH hC λa ha=>?_
 replace hs:=MuS.fold (PlainS.fold (hD _ _ hs) M.B p s) M p ⟨s,A,T,J,ks,base,frontK s.k⟩
 refine IF 0 ha hs (λhc0 a ha=>?_) λhc0 a ha=>?_
 ·
  refine CL 2 ha hs (mu_plain hs) λa w ha hs=>?_
  replace hs:=MuS.open hs
  dsimp only at hs
  refine CL2 0 ha hs (plain_display (hs.pick (PlainS W M.B p s)) hw hpr hsz hgs) λad c a w ha hs=>?_
  refine RT 4 ha hs ?_
  exact⟨ad,c,rfl,(MuS.fold hs M p ⟨s,A,T,J,ks,base,frontK s.k⟩).sub⟩
 have hhf:frontK s.k<headK s.k:=by omega
 refine RN 1 ha hs λa ha=>?_
 replace hs:=MuS.open hs
 dsimp only at hs
 refine DWC 0 (λw0 w'=>Rd w' M.mb 0 (muC p M ks.length base (frontK s.k))) [1,2] [0,3,4,5,8,3006,1001,1002,1007,1009,10] ha hs λa w ha hs hH=>?_
 have hC:=hH.at w (hs.rdAll (b:=M.mb))
 refine RH 5 ha hs hH hC λa ha=>?_
 refine QH ha (λw hc=>ld1 ha (hc 0 _ rfl)) hC λa ha=>?_
 replace hs:=MuS.fold hs M p ⟨s,A,T,J,ks,base,frontK s.k⟩
 refine RH 0 ha hs hH hC λa ha=>?_
 refine CL 0 ha hs (mu_core hs) λa w ha hs=>?_
 replace hC:=hH.at w ((MuS.open hs).rdAll (b:=M.mb))
 replace hs:=PlainS.open ((MuS.open hs).pick (PlainS W M.B p s))
 dsimp only at hs
 refine RH 0 ha hs hH hC λa ha=>?_
 refine CL 0 ha hs (core_queue (hs.pick (CoreS M.B.core s.k))) λa w ha hs=>?_
 replace hC:=hH.at w (hs.rdAll (b:=M.mb))
 replace hs:=PlainS.fold hs M.B p s
 refine RH 0 ha hs hH hC λa ha=>?_
 refine CL 0 ha hs (plain_by (hs.pick (PlainS W M.B p s))) λa w ha hs=>?_
 replace hs:=PlainS.open (hs.pick (PlainS W M.B p s))
 obtain⟨D,hs,hD⟩:=CoreS.qu (hs.pick (CoreS M.B.core s.k))
 refine CL3 0 ha hs (guess_ahead (r:=0) (to:=headK s.k) (.inl rfl) (by decide) hs hgs hne hl8 hw.wc.ln hhd (λw' hw'=>(hw'.pick (Sl 5 1 M.B.adT M.B.gs.table.length M.B.cT (bc M.B.gs.table))).rdB M.B.adT _ rfl rfl)) λadh ch X a w ha ⟨⟨hFX,hX⟩,hs⟩=>?_
 have hXf:=hX rfl
 subst hXf
 rw[aheadX_full]at hs
 replace hs:=hs.sub (M:=Qu M.B.core.qb M.B.core.lbs s.k.ls::D::OwnBB adh (headK s.k-frontL s.k.ls) ch (aheadL M.B.gs s.k.ls (headK s.k))::blk M.B.pb 180 (plC p M.B s.g)::RoP W p M.B.adO M.B.cO::Sl 5 1 M.B.adT M.B.gs.table.length M.B.cT (bc M.B.gs.table)::blk M.mb 110 (muC p M ks.length base (frontK s.k))::RoP W p M.adO M.cO::Sl 112 1 M.adw ks.length M.cw (ptrs ks)::All (ownK p M.adO M.cO M.tq M.jq M.sq) ks::Tree M.tq M.sq T::Store M.sq M.r A::Jobs M.jq J::L)
 replace hs:=MuS.fold (PlainS.fold (hD _ _ hs) M.B p s) M p ⟨s,A,T,J,ks,base,frontK s.k⟩
 have hall:(aheadL M.B.gs s.k.ls (headK s.k)).length=headK s.k-frontL s.k.ls:=aheadL_len _ _ _
 have hal1:∀ b∈aheadL M.B.gs s.k.ls (headK s.k),b.length≤1099511627776:=λb hb=>by
   rw[aheadL,List.mem_map]at hb
   obtain⟨i,_,rfl⟩:=hb
   rw[jointL_len,fullL,List.length_map];omega
 have hdg:dispG p M.B.gs s=(gameB (foldI p (frontK s.k) s.g (aheadL M.B.gs s.k.ls (headK s.k))),headK s.k):=by rw[dispG,if_neg (by omega)]
 clear hX hFX
 generalize aheadL M.B.gs s.k.ls (headK s.k)=P at hs hall hal1 hdg
 rw[← hall]at ha hs
 rw[hdg]
 have hPc:=(OwnBB.le (hs.pick (OwnBB adh P.length ch P))).2
 refine RN 1 ha hs λa ha=>?_
 refine RN 1 ha hs λa ha=>?_
 replace hs:=MuS.open hs
 dsimp only at hs
 refine RN 5 ha hs λa ha=>?_
 replace hs:=MuS.fold hs M p ⟨s,A,T,J,ks,base,frontK s.k⟩
 refine CL 0 ha hs (mu_picture hs hpx hpid) λa w ha hs=>?_
 refine AL 0 ha hs λb6 a w ha hs=>?_
 change St W w (blk b6 116 (ints .i32 32 (λ_=>0))::_) at hs
 refine SA 0 ha hs λa w ha hs=>?_
 refine RN 1 ha hs λa ha=>?_
 refine wp_seq_cut (M:=λa w=>∃ (d:Nat) (g1:Nat→Int),(d≤P.length∧foldI p ((frontK s.k+d:Nat):Int) g1 (P.drop d)=foldI p (frontK s.k:Int) s.g P∧gOk g1)∧Fr a 92 [(0,pt M.mb),(4,.int .i64 (headK s.k)),(5,.slice adh P.length ch),(6,pt b6),(7,.int .i64 d)]∧St W w (blk b6 116 (ints .i32 32 g1)::OwnBB adh P.length ch P::MuS W M p ⟨s,A,T,J,ks,base,frontK s.k⟩::L)) ?_ ?_
 ·
  refine wp_seq_cut (M:=λa w=>∃ (b8:Nat) (adb:Option Addr) (cb:Nat),Fr a 92 [(0,pt M.mb),(4,.int .i64 (headK s.k)),(5,.slice adh P.length ch),(6,pt b6),(7,.int .i64 0),(8,pt b8),(9,.bool (decide (0<(T.best (frontK s.k:Int) P).done)))]∧St W w (blk b8 45 (brC (T.best (frontK s.k:Int) P) adb cb)::blk b6 116 (ints .i32 32 s.g)::OwnBB adh P.length ch P::MuS W M p ⟨s,A,T,J,ks,base,frontK s.k⟩::L)) ?_ ?_
  ·
   refine RN 0 ha hs λa ha=>?_
   rw[hpg]at hs
   replace hs:=MuS.open (hs.pick (MuS W M p ⟨s,A,T,J,ks,base,frontK s.k⟩))
   dsimp only at hs
   refine DWC 0 (λw0 w'=>Rd w' M.mb 0 (muC p M ks.length base (frontK s.k))) [7,13] [0,1,2,4,5,6,8,3003,3007,2009,10,11,12,1013,1014,15] ha hs λa w ha hs hH=>?_
   have hC:=hH.at w (hs.rdAll (b:=M.mb))
   refine RH 7 ha hs hH hC λa ha=>?_
   refine QH ha (λw hc=>ld1 ha (hc 4 _ rfl)) hC λa ha=>?_
   refine QH ha (λw hc=>ld1 ha (hc 8 _ rfl)) hC λa ha=>?_
   refine RH 0 ha hs hH hC λa ha=>?_
   refine DN [(9,[10,11,12,1013,1014,15]),(13,[1009,10,11,12,1014,15])] (by kernel_rfl) rfl ⟨⟨_,rfl,?_⟩,⟨_,rfl,?_⟩,trivial⟩
   ·
    refine RH 0 ha hs hH hC λa ha=>?_
    refine CL2 0 ha hs (tree_best (p:=P) (hs.tree M.tq) (λw' h=>OwnBB.rd (h.pick (OwnBB adh P.length ch P))) hPc ⟨by omega,hal1⟩) λadb cb a w ha hs=>?_
    refine RN 3 ha hs λa ha=>?_
    refine st_alloc ha rfl hs Ty.t45 rfl λb8 a w ha hs ho=>?_
    clear ho
    replace hC:=hH.at w (hs.rdAll (b:=M.mb))
    refine RH 0 ha hs hH hC λa ha=>?_
    refine SA 0 ha hs λa w ha hs=>?_
    refine RN 1 ha hs λa ha=>?_
    exact⟨_,adb,cb,ha.keep [0,4,5,6,7,8,9],(MuS.fold hs M p ⟨s,A,T,J,ks,base,frontK s.k⟩).sub⟩
   refine RH 0 ha hs hH hC λa ha=>?_
   refine st_alloc ha rfl hs Ty.t45 rfl λb8 a w ha hs ho=>?_
   clear ho
   replace hC:=hH.at w (hs.rdAll (b:=M.mb))
   refine RH 0 ha hs hH hC λa ha=>?_
   refine CL2 0 ha hs (tree_best (p:=P) (hs.tree M.tq) (λw' h=>OwnBB.rd (h.pick (OwnBB adh P.length ch P))) hPc ⟨by omega,hal1⟩) λadb cb a w ha hs=>?_
   refine SA 3 ha hs λa w ha hs=>?_
   refine RN 1 ha hs λa ha=>?_
   exact⟨_,adb,cb,ha.keep [0,4,5,6,7,8,9],(MuS.fold hs M p ⟨s,A,T,J,ks,base,frontK s.k⟩).sub⟩
  clear ha;(try clear hs)
  rintro a w ⟨b8,adb,cb,ha,hs⟩
  refine IF 2 ha hs (λhc1 a ha=>?_) λhc1 a ha=>?_
  ·
   obtain⟨hbm,hbl,hba⟩:=best_is (l:=T.l) (frm:=(frontK s.k:Int)) (P:=P) br0 (by simpa [Tr.best] using hc1) rfl
   change T.best (frontK s.k:Int) P∈T.l at hbm
   obtain⟨j,pb,hpb,hpbid⟩:=hI.ofBr hbm
   have hpbg:=(hI.brs _ hbm).2 pb (List.mem_of_getElem? hpb) hpbid
   have hpbo:=(hI.pics pb (List.mem_of_getElem? hpb)).2
   refine DWC 0 (λw0 w'=>Rd w' b8 0 (brC (T.best (frontK s.k:Int) P) adb cb)) [3,5,6] [0,1,4,3002,3005,1003,1006,7] ha hs λa w ha hs hH=>?_
   have hC:=hH.at w (hs.rdAll (b:=b8))
   refine RH 3 ha hs hH hC λa ha=>?_
   refine QH ha (λw hc=>ld1 ha (hc 4 _ rfl)) hC λa ha=>?_
   refine QH ha (λw hc=>ld1 ha (hc 3 _ rfl)) hC λa ha=>?_
   refine RH 0 ha hs hH hC λa ha=>?_
   refine CL 0 ha hs (mu_picture (hs.pick (MuS W M p ⟨s,A,T,J,ks,base,frontK s.k⟩)) hpb hpbid) λa w ha hs=>?_
   replace hC:=hH.at w (hs.rdAll (b:=b8))
   refine RH 0 ha hs hH hC λa ha=>?_
   refine SA 0 ha hs λa w ha hs=>?_
   replace hC:=hH.at w (hs.rdAll (b:=b8))
   refine RH 1 ha hs hH hC λa ha=>?_
   change (T.best (frontK s.k:Int) P).done≤P.length at hbl
   change alikeP ((T.best (frontK s.k:Int) P).press.take (T.best (frontK s.k:Int) P).done) P=true at hba
   have hok:=(hwt.ok _ hbm).2.1
   generalize T.best (frontK s.k:Int) P=bb at *
   have e1:bb.press.take bb.done=P.take bb.done:=by
     have:=alike_take (u:=bb.press.take bb.done) (P:=P) (by rw[List.length_take];omega) hba
     rwa [List.length_take,Nat.min_eq_left hok]at this
   exact⟨bb.done,pb.g,⟨hbl,by rw[hpbg,e1];exact foldI_cut hbl,hpbo⟩,ha.keep [0,4,5,6,7],hs.sub⟩
  refine RN 0 ha hs λa ha=>?_
  exact⟨0,s.g,⟨Nat.zero_le _,rfl,hw.gok hpr⟩,ha.keep [0,4,5,6,7],hs.sub⟩
 clear ha;(try clear hs)
 rintro a w ⟨d,g1,⟨hdl,hdf,hdg1⟩,ha,hs⟩
 refine RN 1 ha hs λa ha=>?_
 replace hs:=MuS.open (hs.pick (MuS W M p ⟨s,A,T,J,ks,base,frontK s.k⟩))
 dsimp only at hs
 obtain⟨zs,hz1,hz2,hs⟩:=OwnBB.open (hs.pick (OwnBB adh P.length ch P))
 have hzl:zs.length=P.length:=by rw[← hz1,List.length_map]
 refine DWC 0 (λw0 w'=>Rd w' M.mb 0 (muC p M ks.length base (frontK s.k))∧Rd w' b6 0 (ints .i32 32 g1)) [4,8,10] [0,1,2,5,6,7,9,11,12,13,16,3003,3004,1008,1010,1014,1015,17,18] ha hs λa w ha hs hH=>?_
 have hC:=hH.at w ⟨hs.rdAll (b:=M.mb),hs.rdAll (b:=b6)⟩
 refine RH 10 ha hs hH hC λa ha=>?_
 rw[show P.length-d=(P.drop d).length from (List.length_drop ..).symm]at ha
 refine RH 1 ha hs hH hC λa ha=>?_
 refine QH ha (λw hc=>ex_loadN ha Tryz.underlying34 rfl Ty.t34 (muC_pr hc.1)) hC λa ha=>?_
 refine QH ha (λw hc=>ex_loadN ha Tryz.underlying116 rfl Ty.t116 (hc.2)) hC λa ha=>?_
 refine RH 0 ha hs hH hC λa ha=>?_
 refine SS ha (ld1 ha (hC.1 8 _ rfl)) λa ha=>?_
 refine RH 1 ha hs hH hC λa ha=>?_
 rw[show ((frontK s.k:Nat):Int)+(d:Int)=((frontK s.k+d:Nat):Int) from rfl]at ha
 refine CL 0 ha hs (fold_from (P:=P.drop d) (zs:=zs.drop d) (fr:=((frontK s.k+d:Nat):Int)) (hs.pick (RoP W p M.adO M.cO)) hpr hsz hdg1 ⟨by rw[List.length_drop];omega,λb hb=>hal1 b (List.mem_of_mem_drop hb)⟩ ⟨by omega,by have:frontK s.k≤1000:=Nat.le_trans hft hhd;omega⟩ (by rw[List.map_drop,hz1]) (λw' h=>(St.rdX (h.sub (M:=Sl 22 1 adh P.length ch (zs.map bbv)::All bbo zs::[]))).drop (by omega))) λa w ha hs=>?_
 refine CL2 0 ha hs (state_encode hs) λad2 c2 a w ha hs=>?_
 refine RN 2 ha hs λa ha=>?_
 refine RT 0 ha hs ?_
 rw[hdf]at hs
 exact⟨ad2,c2,rfl,(MuS.fold hs M p ⟨s,A,T,J,ks,base,frontK s.k⟩).sub⟩
end
end
section
section
variable {W w:World}{L:List SP}{n c cP cT nb nw rm me delay window:Nat}{adP adT:Option Addr}{M:MuB}{B:PlB}{x:UInt8}{p:Pr}{s:Pl}{m:Mu}{tb:List UInt8}{cf:Cf}{y id guess order branches workers room:Int}
set_option maxHeartbeats 1000000 in
theorem mu_new (hs:St W w (RoP W p adP cP::L))(hm:mayCf ⟨n,me,id,delay,window,guess,order,nb,nw,rm⟩)(hpr:prOk p)(hgs:mayGs ⟨guess,order,tb⟩)(hsz:p.title.size≤1000000000)(hol:p.ops.length≤1000000000)(htl:tb.length≤1099511627776)(hT:∀ w',St W w' (RoP W p adP cP::L)→RdB w' adT tb.length tb) :
   Calls Tryz.prog 14 #[.agg (cfC ⟨n,me,id,delay,window,guess,order,nb,nw,rm⟩).toArray,.agg (prV p adP cP).toArray,.slice adT tb.length cT] w λr w'=>∃ (M:MuB) (m:Mu),r=.returned (.tuple #[pt M.mb,.int .i64 0]) ∧
     (M.B.gs=⟨guess,order,tb⟩∧m.s=newP p ⟨n,me,id,delay,window,guess,order,nb,nw,rm⟩∧MI p M 1 m∧m.T.l=[]∧m.J=[]∧∀ k∈m.ks,k.1=wk0)∧St W w' (MuS W M p m::RoP W p adP cP::L):=by
 obtain⟨cf,hcf⟩:∃ cf:Cf,cf=⟨n,me,id,delay,window,guess,order,nb,nw,rm⟩:=⟨_,rfl⟩
 have hin:=hm
 simp only[mayCf,inI]at hin
 obtain⟨⟨h1,h2,h3⟩,⟨h4,h5,h6,h7⟩,h8,h9,h10,h11⟩:=hin
 rw[← hcf]
 refine EN Tryz.func14 Tryz.ntmps14 rfl rfl λa ha=>?_
 refine BX 1 ha hs λb3 a w ha hs=>?_
 change St W w (blk b3 27 (cfC cf)::_) at hs
 refine BX 0 ha hs λb4 a w ha hs=>?_
 change St W w (blk b4 34 (prV p adP cP)::_) at hs
 refine RN 6 ha hs λa ha=>?_
 rw[hcf]at ha
 refine CL1 0 ha hs (plain_new (tb:=tb) (hs.pick (RoP W p adP cP)) hm hpr hgs hsz hol htl (λw' hw=>hT w' hw.sub)) λB a w ha ⟨hBg,hs⟩=>?_
 rw[← hcf]at hs
 refine RN 9 ha hs λa ha=>?_
 replace ha:=ha.isF 19
 refine RN 2 ha hs λa ha=>?_
 replace hs:=hs.sl0 119 4 none
 rw[prV]at hs
 refine RN 2 ha hs λa ha=>?_
 refine st_appendT ha rfl hs Tryz.underlying32 Ty.t119 rfl rfl (by decide) (λh0=>(hs.pick (RoP W p adP cP)).roRd adP h0) (by rw[rows_len opR_len]) (rows_one opR_one _) (by omega) λad23 c23 a w ha hs=>?_
 rw[List.nil_append,Nat.zero_add]at hs
 rw[Nat.zero_add]at ha
 refine ST 1 ha hs (λa w ha hs=>?_)
 refine RN 1 ha hs λa ha=>?_
 replace hs:=(hs.pick (Sl 119 4 ad23 p.ops.length c23 (rows opR p.ops))).roSl
 refine DWC 0 (λw0 w'=>Rd w' b3 0 (cfC cf)∧Rd w' b4 0 [.string p.title,.slice ad23 p.ops.length c23]) [3,4,5] [0,2,3001,1003,1004,1005,6,1007,8] ha hs λa w ha hs hH=>?_
 have hC:=hH.at w ⟨hs.rdAll (b:=b3),hs.rdAll (b:=b4)⟩
 refine RH 2 ha hs hH hC λa ha=>?_
 refine QH ha (λw hc=>ex_loadN ha Tryz.underlying34 rfl Ty.t34 (hc.2)) hC λa ha=>?_
 refine RH 0 ha hs hH hC λa ha=>?_
 refine SS ha (ld1 ha (hC.1 9 _ rfl)) λa ha=>?_
 rw[show cf.room=(rm:Int) from by rw[hcf]]at ha
 refine RH 0 ha hs hH hC λa ha=>?_
 refine CL2 0 ha hs (snap_new (n:=rm) hs (by omega)) λsq r a w ha hs=>?_
 replace hC:=hH.at w ⟨hs.rdAll (b:=b3),hs.rdAll (b:=b4)⟩
 refine RH 0 ha hs hH hC λa ha=>?_
 refine CL1 0 ha hs (new_spec hs) λjq a w ha hs=>?_
 replace hC:=hH.at w ⟨hs.rdAll (b:=b3),hs.rdAll (b:=b4)⟩
 refine RH 1 ha hs hH hC λa ha=>?_
 refine st_box ha rfl hs rfl λb32 a w ha hs ho=>?_
 clear ho
 change St W w (blk b32 110 [pt B.pb,.string p.title,.slice ad23 p.ops.length c23,pt sq,.pointer none,pt jq,.slice none 0 0,.int .i64 0,.int .i64 0]::_) at hs
 refine RN 1 ha hs λa ha=>?_
 refine DWC 1 (λw0 w'=>Rd w' b3 0 (cfC cf)∧w'.cell? ⟨b32,3,none⟩=some (pt sq)) [6] [0,1,2,3,5,3004,1006,1007,8,9,1010] ha hs λa w ha hs hH=>?_
 have hC:=hH.at w ⟨hs.rdAll (b:=b3),(hs.rdAll (b:=b32)) 3 _ rfl⟩
 refine RH 5 ha hs hH hC λa ha=>?_
 refine QH ha (λw hc=>ld1 ha (hc.2)) hC λa ha=>?_
 refine RH 0 ha hs hH hC λa ha=>?_
 refine SS ha (ld1 ha (hC.1 7 _ rfl)) λa ha=>?_
 rw[show cf.branches=(nb:Int) from by rw[hcf]]at ha
 refine RH 0 ha hs hH hC λa ha=>?_
 refine CL1 0 ha hs (tree_new (m:=(nb:Int)) hs) λtq a w ha hs=>?_
 rw[show (min (max (nb:Int) 0) 8).toNat=nb from by omega]at hs
 refine ST 2 ha hs (λa w ha hs=>?_)
 refine RN 3 ha hs λa ha=>?_
 refine SS ha (ld1 ha ((hs.rdAll (b:=b3)) 8 _ rfl)) λa ha=>?_
 rw[show cf.workers=(nw:Int) from by rw[hcf]]at ha
 refine RN 1 ha hs λa ha=>?_
 refine wp_loop_ghost (λμ a w=>∃ (ks:List Kx) (adw:Option Addr) (cw:Nat),(μ=nw-ks.length∧ks.length≤nw∧(∀ k∈ks,k.1=wk0))∧Fr a 93 [(3,pt b3),(8,pt B.pb),(10,pt b32),(44,.int .i64 nw),(45,.int .i64 ks.length)]∧St W w (blk b32 110 (muC p ⟨b32,B,sq,r,tq,jq,adw,cw,ad23,c23⟩ ks.length 0 0)::Sl 112 1 adw ks.length cw (ptrs ks)::All (ownK p ad23 c23 tq jq sq) ks::blk b3 27 (cfC cf)::PlainS W B p (newP p cf)::RoP W p ad23 c23::RoP W p adP cP::Tree tq sq ⟨nb,[],0,0⟩::Store sq r ⟨0,4*rm,0,[]⟩::Jobs jq []::L)) (nw) (⟨[],none,0,⟨by simp,by simp,λk hk=>by cases hk⟩,ha.keep [3,8,10,44,45],(show St W w (Sl 112 1 none ([]:List Kx).length 0 (ptrs [])::All (ownK p ad23 c23 tq jq sq) []::blk b32 110 (muC p ⟨b32,B,sq,r,tq,jq,none,0,ad23,c23⟩ ([]:List Kx).length 0 0)::_) from (hs.allNil (f:=ownK p ad23 c23 tq jq sq)).sl0 112 1 none).sub⟩) ?_
 clear ha hs
 rintro μ a w ⟨ks,adw,cw,⟨rfl,hkl,hk0⟩,ha,hs⟩
 refine IF 3 ha hs (λhc1 a ha=>?_) λhc1 a ha=>?_
 ·
  refine DWC 1 (λw0 w'=>Rd w' b32 0 (muC p ⟨b32,B,sq,r,tq,jq,adw,cw,ad23,c23⟩ ks.length 0 0)) [8,12,16,20,21,22] [0,1,2,3,5,6,7,9,10,11,13,14,15,17,18,19,3004,3008,3012,3016,1020,1021,1022,1023,24,25,1026] ha hs λa w ha hs hH=>?_
  have hC:=hH.at w (hs.rdAll (b:=b32))
  refine RH 16 ha hs hH hC λa ha=>?_
  refine QH ha (λw hc=>ld1 ha (hc 6 _ rfl)) hC λa ha=>?_
  refine QH ha (λw hc=>ex_loadN ha Tryz.underlying34 rfl Ty.t34 (muC_pr hc)) hC λa ha=>?_
  refine QH ha (λw hc=>ld1 ha (hc 4 _ rfl)) hC λa ha=>?_
  refine QH ha (λw hc=>ld1 ha (hc 5 _ rfl)) hC λa ha=>?_
  refine RH 0 ha hs hH hC λa ha=>?_
  refine SS ha (ld1 ha (hC 3 _ rfl)) λa ha=>?_
  refine RH 0 ha hs hH hC λa ha=>?_
  refine CL1 0 ha hs (worker_new hs) λwb a w ha hs=>?_
  replace hC:=hH.at w (hs.rdAll (b:=b32))
  refine RH 0 ha hs hH hC λa ha=>?_
  refine st_buildSlice ha rfl hs Tryz.underlying108 Ty.t112 rfl rfl rfl rfl (by decide) (by decide) λb69 a w ha hs ho=>?_
  clear ho
  replace hC:=hH.at w (hs.rdAll (b:=b32))
  refine RH 0 ha hs hH hC λa ha=>?_
  refine st_append ha rfl hs Tryz.underlying108 Ty.t112 rfl rfl hs.rdAll rfl (by simp[Value.oneCell']) (by decide) (by decide) (by omega) λad70 c70 a w ha hs=>?_
  refine ST 2 ha hs (λa w ha hs=>?_)
  have hs5:St W w (blk b32 110 (muC p ⟨b32,B,sq,r,tq,jq,ad70,c70,ad23,c23⟩ (ks++[(wk0,wb)]).length 0 0)::Sl 112 1 ad70 (ks++[(wk0,wb)]).length c70 (ptrs (ks++[(wk0,wb)]))::blk wb 188 (wkC p ad23 c23 tq jq sq wk0)::All (ownK p ad23 c23 tq jq sq) ks::blk b3 27 (cfC cf)::PlainS W B p (newP p cf)::RoP W p ad23 c23::RoP W p adP cP::Tree tq sq ⟨nb,[],0,0⟩::Store sq r ⟨0,4*rm,0,[]⟩::Jobs jq []::L):=by
    have e1:(ks++[(wk0,wb)]).length=ks.length+1:=by simp
    have e2:ptrs (ks++[(wk0,wb)])=ptrs ks++[pt wb]:=by simp[ptrs]
    rw[e1,e2]
    change St W w (blk b32 110 (muC p ⟨b32,B,sq,r,tq,jq,ad70,c70,ad23,c23⟩ (ks.length+1) 0 0)::Sl 112 1 ad70 (ks.length+1) c70 (ptrs ks++[pt wb])::_) at hs
    exact hs.sub
  have hs6:=St.allPush (f:=ownK p ad23 c23 tq jq sq) (x:=(wk0,wb)) (l:=ks) (hs5.sub (M:=blk wb 188 (wkC p ad23 c23 tq jq sq wk0)::All (ownK p ad23 c23 tq jq sq) ks::blk b32 110 (muC p ⟨b32,B,sq,r,tq,jq,ad70,c70,ad23,c23⟩ (ks++[(wk0,wb)]).length 0 0)::Sl 112 1 ad70 (ks++[(wk0,wb)]).length c70 (ptrs (ks++[(wk0,wb)]))::blk b3 27 (cfC cf)::PlainS W B p (newP p cf)::RoP W p ad23 c23::RoP W p adP cP::Tree tq sq ⟨nb,[],0,0⟩::Store sq r ⟨0,4*rm,0,[]⟩::Jobs jq []::L))
  replace hs:=hs6
  clear hs5 hs6
  refine RN 2 ha hs λa ha=>?_
  have hkl2:(ks++[(wk0,wb)]).length=ks.length+1:=by simp
  refine⟨nw-(ks.length+1),by omega,ks++[(wk0,wb)],ad70,c70,⟨by omega,by omega,λk hk=>?_⟩,?_,hs.sub⟩
  · rcases List.mem_append.1 hk with hk | hk
    · exact hk0 k hk
    · rw[List.mem_singleton.1 hk]
  · rw[hkl2];exact ha.keep [3,8,10,44,45]
 refine DWC 1 (λw0 w'=>Rd w' b32 0 (muC p ⟨b32,B,sq,r,tq,jq,adw,cw,ad23,c23⟩ ks.length 0 0)) [6] [0,1,2,3,5,3004,1006,1007,8,9,10,11,12,1013] ha hs λa w ha hs hH=>?_
 have hC:=hH.at w (hs.rdAll (b:=b32))
 refine RH 5 ha hs hH hC λa ha=>?_
 refine QH ha (λw hc=>ld1 ha (hc 3 _ rfl)) hC λa ha=>?_
 refine RH 0 ha hs hH hC λa ha=>?_
 refine CL 0 ha hs (plain_game (hs.pick (PlainS W B p (newP p cf)))) λa w ha hs=>?_
 replace hC:=hH.at w (hs.rdAll (b:=b32))
 refine RH 0 ha hs hH hC λa ha=>?_
 refine CL1 0 ha hs (snap_make (g:=(newP p cf).g) (hs.store sq) (by simp[Sn.used,cnt_none];omega) (by simp)) λt a w ha ⟨⟨ht1,ht2⟩,hs⟩=>?_
 refine ST 5 ha hs (λa w ha hs=>?_)
 refine RN 3 ha hs λa ha=>?_
 refine SS ha (ld1 ha ((hs.rdAll (b:=b3)) 3 _ rfl)) λa ha=>?_
 rw[show cf.delay=(delay:Int) from by rw[hcf]]at ha
 refine ST 2 ha hs (λa w ha hs=>?_)
 change St W w (blk b32 110 (muC p ⟨b32,B,sq,r,tq,jq,adw,cw,ad23,c23⟩ ks.length 1 delay)::_) at hs
 refine RT 4 ha hs ?_
 obtain rfl:ks.length=nw:=by omega
 have hs9:=MuS.fold hs ⟨b32,B,sq,r,tq,jq,adw,cw,ad23,c23⟩ p ⟨newP p cf,(⟨0,4*rm,0,[]⟩:Sn).add (newP p cf).g t,⟨nb,[],0,0⟩,[],ks,1,delay⟩
 refine⟨⟨b32,B,sq,r,tq,jq,adw,cw,ad23,c23⟩,⟨newP p cf,(⟨0,4*rm,0,[]⟩:Sn).add (newP p cf).g t,⟨nb,[],0,0⟩,[],ks,1,delay⟩,rfl,⟨hBg,rfl,?_,rfl,rfl,hk0⟩,hs9.sub⟩
 obtain⟨ps,ev,mr,hk⟩:∃ ps ev mr,(newP p cf).k={ newK cf with ps:=ps,ev:=ev,mr:=mr }:=(newP_ok (p:=p) (c:=cf) (by rw[hcf];exact hm)).playP.2.2
 have hw9:WF' p (newP p cf):=WF'.new (by rw[hcf];exact hm)
 have hfd:frontK (newP p cf).k=delay:=by
   obtain⟨l,hl1,hl2⟩:=frontL_some hw9.wc.lne
   rw[frontK,hl2]
   rw[hk]at hl1
   have hl3:l∈List.replicate cf.n.toNat (List.replicate cf.delay.toNat 0):=hl1
   rw[(List.mem_replicate.1 hl3).2,List.length_replicate,hcf];rfl
 have hid:∀ k∈ks.map (·.1),k=wk0:=λk hk=>by
   obtain⟨y,hy,rfl⟩:=List.mem_map.1 hk
   exact hk0 y hy
 exact { wf:=hw9,gs:=by rw[hBg];exact hgs,front:=hfd.symm,brs:=λy hy=>(by cases hy),J:=by simp,most:=by rw[hk,hcf];rfl,workers:=by rw[hk,hcf];rfl,ks:=by dsimp only;omega,room:=⟨by rw[hk,hcf];simp only[Sn.add,newK];omega,by simp only[Sn.add];omega⟩,n:=⟨Nat.le_refl _,Nat.zero_le _,Nat.zero_le _⟩,inv:=⟨t,by
   refine⟨?_,λx hx=>?_,λx hx _=>?_,λy hy=>(by cases hy),λk hk=>?_⟩
   · rw[heldW_none (λk hk=>by rw[hid k hk];rfl)]
     exact List.Perm.refl _
   · rw[List.mem_singleton.1 hx];exact⟨rfl,hw9.gok hpr⟩
   · rw[List.mem_singleton.1 hx];exact⟨rfl,rfl⟩
   · rw[hid k hk];exact⟨Int.le_refl _,λh=>(by cases h)⟩⟩ }
end
end
section
def sumP:Pr:=⟨⟨#[115,117,109]⟩,[⟨1,30,1,0⟩,⟨11,1,0,0⟩,⟨5,2,2,31⟩,⟨3,2,2,1⟩,⟨3,0,0,30⟩,⟨1,29,8,0⟩,⟨7,28,0,29⟩,⟨10,28,9,0⟩,⟨9,1,0,0⟩,⟨1,0,0,0⟩,⟨15,31,0,0⟩,⟨13,31,2,0⟩]⟩
theorem dec_oneAt {s:ByteArray}{i b:Nat}(hb:byteN s i=b)(h:b<128):Utf8.decode s i=(b,1):=by
 simp only[byteN]at hb
 simp[Utf8.decode,hb,h]
theorem sumP_runes:runesAt sumP.title 0=[(115,1),(117,1),(109,1)]:=by
 have h1:sumP.title.size=3:=rfl
 have h2:Utf8.decode sumP.title 0=(115,1):=dec_oneAt (b:=115) rfl (by decide)
 have h3:Utf8.decode sumP.title 1=(117,1):=dec_oneAt (b:=117) rfl (by decide)
 have h4:Utf8.decode sumP.title 2=(109,1):=dec_oneAt (b:=109) rfl (by decide)
 have r3:runesAt sumP.title 3=[]:=runesAt_out (by omega)
 have r2:runesAt sumP.title 2=[(109,1)]:=by rw[runesAt_in (by omega),adv,if_pos (by omega),h4];exact congrArg _ r3
 have r1:runesAt sumP.title 1=[(117,1),(109,1)]:=by rw[runesAt_in (by omega),adv,if_pos (by omega),h3];exact congrArg _ r2
 rw[runesAt_in (by omega),adv,if_pos (by omega),h2];exact congrArg _ r1
theorem sumP_ok:prOk sumP:=by
 refine⟨⟨?_,by decide,by decide,?_⟩,?_⟩
 · rw[tOk,sumP_runes];decide
 · intro o ho
   simp[sumP]at ho
   rcases ho with rfl | rfl | rfl | rfl | rfl | rfl | rfl | rfl | rfl | rfl | rfl | rfl <;> simp[i32O,i32P]
 · intro o ho
   simp[sumP]at ho
   rcases ho with rfl | rfl | rfl | rfl | rfl | rfl | rfl | rfl | rfl | rfl | rfl | rfl <;> simp[okOp,cellP,sumP]
section
variable {W w:World}{L:List SP}{n c:Nat}{ad:Option Addr}
theorem prog22 (hs:St W w L):Calls Tryz.prog 15 #[] w λe w'=>∃ ad,e=.returned (.agg (prV sumP ad 12).toArray)∧St W w' (RoP W sumP ad 12::L):=by
 refine EN Tryz.func15 Tryz.ntmps15 rfl rfl λa ha=>?_
 refine AL 1 ha hs λb0 a w ha hs=>?_
 refine RN 13 ha hs λa ha=>?_
 refine st_buildSlice ha rfl hs Tryz.underlying32 Ty.t119 rfl rfl rfl rfl (by decide) (by decide) λb13 a w ha hs ho=>?_
 clear ho
 refine SA 1 ha hs λa w ha hs=>?_
 refine RT 0 ha hs ?_
 refine⟨some ⟨b13,0,none⟩,rfl,?_⟩
 have h1:St W w (blk b13 119 ([]++rows opR sumP.ops++[])::_):=hs.bring b13
 have h2:=St.slShut (n:=12) (c:=12) (sz:=4) h1 rfl (Nat.le_refl _) (Nat.zero_le _)
 have h3:St W w (RoP W sumP (some ⟨b13,0,none⟩) 12::_):=h2.roSl
 exact h3.sub
set_option maxHeartbeats 2000000 in
end
section
variable {W w:World}{L:List SP}{n c m cP K:Nat}{ad adP:Option Addr}{p:Pr}{bs:List UInt8}
theorem shortN (hs:St W w L)(hr:RdB W ad n bs)(hnc:n≤c):Calls Tryz.prog 12 #[.slice ad n c,.int .i64 (K:Nat)] w λe w'=>∃ ad' c',e=.returned (.slice ad' (bs.take K).length c')∧RdB W ad' (bs.take K).length (bs.take K)∧(bs.take K).length≤c'∧St W w' L:=by
 have hl:=hr.1
 refine EN Tryz.func12 Tryz.ntmps12 rfl rfl λa ha=>?_
 refine IF 8 ha hs (λhc0 a ha=>?_) λhc0 a ha=>?_
 ·
  refine RT 5 ha hs ?_
  have h2:(bs.take K).length=K:=by rw[List.length_take];omega
  refine⟨ad,c,by rw[h2,cutAd_zero,Nat.sub_zero,Nat.sub_zero],by rw[h2];exact hr.cutH (by omega),by omega,hs⟩
 refine RT 3 ha hs ?_
 have h2:bs.take K=bs:=List.take_of_length_le (by omega)
 rw[h2]
 exact⟨ad,c,by rw[hl],by rw[hl];exact hr,by omega,hs⟩
theorem refFold_len {fr:Int}{g:Nat→Int}{adO:Option Addr}{cO:Nat}{P:List (List UInt8)}{zs:List BBx}(hs:St W w (RoP W p adO cO::L))(hm:P.length=m)(hpr:prOk p)(hsz:p.title.size≤1000000000)(hg:gOk g)(hP:P.length≤65536∧∀ b∈P,b.length≤1099511627776)(hz:zs.map (·.2.2)=P)(hf:-1099511627776≤fr∧fr≤1099511627776)(hp:∀ w',St W w' L→RdX w' adP zs) :
   Calls Tryz.prog 66 #[.agg (prV p adO cO).toArray,.agg (ints .i32 32 g).toArray,.int .i64 fr,.slice adP m cP] w λe w'=>e=.returned (.agg (ints .i32 32 (foldI p fr g P)).toArray)∧gOk (foldI p fr g P)∧St W w' (RoP W p adO cO::L):=by
 subst hm;exact refFold_spec hs hpr hsz hg hP hz hf hp
end
def jn (P O:List UInt8)(k:Nat):List (List UInt8):=(List.range k).map (jointL [P,O])
theorem _root_.Go.Proofs.YtdilfdkendjjhaaGreat.capLe {k:IntKind}{w:World}{a:Option Addr}{len cap:Nat}{zs:List Int}(h:ArgInts k w a len cap zs):len≤cap:=by
 rcases h with ⟨_,rfl,rfl,_⟩ | ⟨x,_,hl,_⟩
 · exact Nat.le_refl _
 · exact hl
abbrev pkT (f:Nat)(bs:List UInt8):Pk:=⟨1,((1-0:Nat):Int),((0:Nat):Int),0,f,0,0,0,bs⟩
end
section
def jb (e:Nat)(y:Br):Int×Int:=((y.id:Int),(e:Int))
theorem putJ_in {J:Js}{b e:Int}(h:b∈J.map (·.1)):putJ J b e=J:=by
 rw[putJ,if_neg]
 obtain⟨y,hy,he⟩:=List.mem_map.1 h
 simp only[mayPut,Bool.and_eq_true,Bool.not_eq_true',not_and]
 intro _ h2
 rw[List.any_eq_false]at h2
 exact h2 y hy (decide_eq_true he)
theorem putJ_new {J:Js}{b e:Int}(h:b ∉ J.map (·.1))(hl:J.length<16):putJ J b e=J++[(b,e)]:=by
 rw[putJ,if_pos]
 simp only[mayPut,Bool.and_eq_true,Bool.not_eq_true',decide_eq_true_eq,List.any_eq_false]
 exact⟨hl,λy hy he=>h (List.mem_map.2 ⟨y,hy,he⟩)⟩
def stepJ (e:Nat)(J:Js)(y:Br):Js:=if y.done<y.press.length then putJ J y.id e else J
theorem foldJ_in {e:Nat}:∀ (l:List Br) (J:Js),(∀ y∈l,(y.id:Int)∈J.map (·.1))→l.foldl (stepJ e) J=J
 | [],_,_=>rfl
 | y::l,J,h=>by
   have h1:stepJ e J y=J:=by
     unfold stepJ
     split
     · exact putJ_in (h y (List.mem_cons_self ..))
     · rfl
   rw[List.foldl_cons,h1]
   exact foldJ_in l J λz hz=>h z (List.mem_cons_of_mem _ hz)
theorem foldJ_new {e:Nat}:∀ (l:List Br) (J:Js),(∀ y∈l,y.done<y.press.length)→(∀ y∈l,(y.id:Int) ∉ J.map (·.1))→(l.map (·.id)).Nodup→J.length+l.length≤16→l.foldl (stepJ e) J=J++l.map (jb e)
 | [],J,_,_,_,_=>by simp
 | y::l,J,hd,hn,nd,hl=>by
   rw[List.length_cons]at hl
   rw[List.map_cons,List.nodup_cons]at nd
   have h1:stepJ e J y=J++[jb e y]:=by
     rw[stepJ,if_pos (hd y (List.mem_cons_self ..)),putJ_new (hn y (List.mem_cons_self ..)) (by omega)];rfl
   rw[List.foldl_cons,h1,foldJ_new l _ (λz hz=>hd z (List.mem_cons_of_mem _ hz)) ?_ nd.2 (by simp;omega)]
   · simp
   · intro z hz hm
     rw[List.map_append]at hm
     rcases List.mem_append.1 hm with hm | hm
     · exact hn z (List.mem_cons_of_mem _ hz) hm
     · simp[jb]at hm
       exact nd.1 (List.mem_map.2 ⟨z,hz,by omega⟩)
theorem WT.nd {T:Tr}(hT:WT T):(T.l.map (·.id)).Nodup:=hT.ids.imp λh=>Nat.ne_of_lt h
theorem jobs_new {T:Tr}{l0 l:List Br}(hT:WT T)(hd:∀ y∈T.l,y.done<y.press.length)(h:T.l=l0++l):jobsT T (l0.map (jb T.epoch))=T.l.map (jb T.epoch):=by
 have h1:kept (λj=>decide (j.2<(T.epoch:Int))) (l0.map (jb T.epoch))=l0.map (jb T.epoch):=by
   refine List.filter_eq_self.2 λj hj=>?_
   obtain⟨y,_,rfl⟩:=List.mem_map.1 hj
   simp[jb]
 have h2:jobsT T (l0.map (jb T.epoch))=T.l.foldl (stepJ T.epoch) (l0.map (jb T.epoch)):=by
   rw[jobsT,h1,jobsN,List.take_length];rfl
 have hnd:=hT.nd
 have h8:=hT.most
 rw[h]at hnd hd
 rw[h2,h,List.foldl_append]
 rw[List.map_append]at hnd
 have hnd2:=List.nodup_append.1 hnd
 rw[foldJ_in l0 _ (λy hy=>List.mem_map.2 ⟨_,List.mem_map.2 ⟨y,hy,rfl⟩,rfl⟩),foldJ_new l _ (λy hy=>hd y (List.mem_append_right _ hy)) ?_ hnd2.2.1 ?_,List.map_append]
 · intro y hy hm
   obtain⟨j,hj,he⟩:=List.mem_map.1 hm
   obtain⟨z,hz,rfl⟩:=List.mem_map.1 hj
   have h3:z.id=y.id:=by simp[jb]at he;omega
   exact hnd2.2.2 _ (List.mem_map.2 ⟨z,hz,rfl⟩) _ (List.mem_map.2 ⟨y,hy,rfl⟩) h3
 · have h9:T.l.length=l0.length+l.length:=by rw[h,List.length_append]
   rw[List.length_map];omega
end
end Go.Proofs.YtdilfdkendjjhaaGreat
