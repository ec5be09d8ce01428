/- Package multi: what is let go, and how the base's picture moves on. -/
import Derived.Test.YtdilfdkendjjhaaGreatA28Sort
import Derived.Test.YtdilfdkendjjhaaGreatA26Rank
namespace Go.Proofs.YtdilfdkendjjhaaGreat
open Go.RowKit
set_option linter.unusedVariables false
set_option linter.unusedSimpArgs false
set_option maxRecDepth 10000
set_option synthInstance.maxSize 4000
set_option synthInstance.maxHeartbeats 400000
section
theorem Tl.rest {N L:List SP}{A:SP}(t:Tl N (A::L)):Tl N L:=⟨let ⟨K,h⟩:=t.h;⟨K++[A],by simpa using h⟩⟩
section
variable {W w:World}{L:List SP}{n i tq sq r:Nat}{M:MuB}{B:PlB}{x:UInt8}{p:Pr}{s:Pl}{m:Mu}{A:Sn}{T:Tr}{F:Int}{g0:Nat→Int}{t:Nat→Nat}{px:Pic}
theorem tree_keep {kp:Br→Bool}{g:Nat}{ws:List Value}(hs:St W w (Tree tq sq T::Store sq r A::L))(he:T.epoch+1<1099511627776)(hcl:callable Tryz.prog g=true)
   (hg:∀ (N:List SP) (w':World) (x:Br) (ad':Option Addr) (c':Nat),x∈T.l→St W w' N→Tl N L→RdZ W N ad' x.press→x.press.length≤c'→OkP x.press →
     Calls Tryz.prog g (ws++[Value.agg (brC x ad' c').toArray]).toArray w' λe w''=>e=.returned (.bool (kp x))∧St W w'' N) :
   Calls Tryz.prog 122 #[pt tq,.func (.func g) ws.toArray #[]] w λe w'=>(∃ v:Int,e=.returned (.int .i64 v)) ∧
     St W w' (Tree tq sq (T.cut λx=>!kp x)::Store sq r (A.dropAll (T.l.filter λx=>!kp x))::L):=by
 have hF : ∀ (b3 : Nat) (N : List SP) (w' : World) (x : Br) (ad' : Option Addr) (c' : Nat), x ∈ T.l → St W w' N → Tl N (blk b3 199 [.func (.func g) ws.toArray #[]] :: L) → RdZ W N ad' x.press → x.press.length ≤ c' → OkP x.press →
     Calls Tryz.prog 182 (List.toArray [.agg (brC x ad' c').toArray,pt b3]) w' λe w''=>e=.returned (.bool (!kp x))∧St W w'' N:=by
   intro b3 N w x ad' c' hxt hs hM hx hxc hox
   refine EN Tryz.func182 Tryz.ntmps182 rfl rfl λa ha=>?_
   refine BX 1 ha hs λb2 a w ha hs=>?_
   refine RN 2 ha hs λa ha=>?_
   have hs5:=hs.tail.tl hM
   refine SS ha (ld1 ha (hs5.rd1 rfl)) λa ha=>?_
   refine CL 1 ha hs (hg (blk b2 45 (brC x ad' c')::N) _ x ad' c' hxt hs (@Tl.cons _ _ _ hM.rest) (hx.imp λzs h=>⟨h.1,λw'' h2=>h.2 _ h2.tail⟩) hxc hox) (hf:=hcl) λa w ha hs=>?_
   refine RT 2 ha hs ?_
   exact⟨rfl,hs.tail⟩
 refine EN Tryz.func122 Tryz.ntmps122 rfl rfl λa ha=>?_
 refine BX 1 ha hs λb3 a w ha hs=>?_
 refine CL 4 ha hs (tree_drop (tq:=tq) (sq:=sq) (r:=r) (A:=A) (T:=T) (wh:=λx=>!kp x) (us:=[pt b3]) (L:=blk b3 199 [.func (.func g) ws.toArray #[]]::L) hs.sub he (by kernel_rfl) (hF b3)) λa w ha hs=>?_
 refine RT 1 ha hs ?_
 exact⟨⟨_,rfl⟩,hs.sub⟩
theorem mu_rest (hs:St W w (MuS W M p m::L))(hI:Inv p F g0 t m.base m.A m.T (m.ks.map (·.1)))(he:m.T.epoch+1<1099511627776)(h4:m.ks.length≤4) :
   Calls Tryz.prog 179 #[pt M.mb] w λe w'=>∃ (A':Sn) (ks':List Kx),e=.returned (.tuple #[]) ∧
     (Inv p F g0 t m.base A' (m.T.cut λ_=>true) (ks'.map (·.1))∧ks'.length=m.ks.length∧(∀ k∈ks',k.1.busy=false)∧A'.room=m.A.room∧A'.n=m.A.n) ∧
     St W w' (MuS W M p { m with A:=A',ks:=ks',T:=m.T.cut λ_=>true }::L):=by
 obtain⟨mb,B,sq,r,tq,jq,adw,cw,adO,cO⟩:=M
 obtain⟨s,A,T,J,ks,base,front⟩:=m
 replace hs:=MuS.open hs
 simp only at hI he h4
 refine EN Tryz.func179 Tryz.ntmps179 rfl rfl λa ha=>?_
 refine RN 8 ha hs λa ha=>?_
 refine wp_loop_ghost (λμ a w=>∃ (i:Nat) (A1:Sn) (ks1:List Kx),(μ=ks.length-i∧i≤ks.length∧ks1.length=ks.length∧(∀ (j:Nat) (k:Kx),j<i→ks1[j]?=some k→k.1.busy=false)∧Inv p F g0 t base A1 T (ks1.map (·.1))∧A1.room=A.room∧A1.n=A.n)∧Fr a 21 [(0,pt mb),(7,.slice adw ks.length cw),(8,.int .i64 ks.length),(9,.int .i64 i)]∧St W w (blk mb 110 (muC p ⟨mb,B,sq,r,tq,jq,adw,cw,adO,cO⟩ ks.length base front)::PlainS W B p s::RoP W p adO cO::Sl 112 1 adw ks.length cw (ptrs ks1)::All (ownK p adO cO tq jq sq) ks1::Tree tq sq T::Store sq r A1::Jobs jq J::L)) (ks.length) (⟨0,A,ks,⟨rfl,by omega,rfl,λj k h=>absurd h (by omega),hI,rfl,rfl⟩,ha.keep [0,7,8,9],hs.sub⟩) ?_
 clear ha hs
 rintro μ a w ⟨i,A1,ks1,⟨rfl,hi,hkl,hidle,hI1,hrm,hnn⟩,ha,hs⟩
 refine IF 3 ha hs (λhc0 a ha=>?_) λhc0 a ha=>?_
 ·
  have hik:i<ks1.length:=by omega
  obtain⟨⟨k,wb⟩,hk⟩:∃ y,ks1[i]?=some y:=⟨_,List.getElem?_eq_getElem hik⟩
  obtain⟨b',off',rfl,hrd⟩:=hs.slRd adw (by omega)
  refine RN 3 ha hs λa ha=>?_
  refine SS ha (ld1 ha (hrd i _ (ptrs_at hk))) λa ha=>?_
  refine CL2 2 ha hs (shop_rest ((hs.store sq).pick (All (ownK p adO cO tq jq sq) ks1)) hk hI1) λA2 k2 a w ha ⟨⟨hk2,hI2,hr2,hn2⟩,hs⟩=>?_
  rw[← ptrs_set (k':=k2) hk]at hs
  refine RN 2 ha hs λa ha=>?_
  refine⟨ks.length-(i+1),by omega,i+1,A2,ks1.set i (k2,wb),⟨rfl,by omega,by rw[List.length_set];exact hkl,λj z hj hz=>?_,hI2,hr2.trans hrm,hn2.trans hnn⟩,ha.keep [0,7,8,9],hs.sub⟩
  rw[List.getElem?_set]at hz
  split at hz
  · cases hz;exact hk2
  · exact hidle j z (by omega) hz
 refine RN 0 ha hs λa ha=>?_
 have hs0:=hs
 refine CL 4 ha hs (tree_clear ((hs.store sq).tree tq) he) λa w ha hs=>?_
 refine RT 0 ha hs ?_
 obtain rfl:i=ks.length:=by omega
 have hA1:=hI1.cut (Store.facts (hs0.store sq)).1 (λ_=>true)
 rw[show T.l.filter (λ_=>true)=T.l from by simp]at hA1
 have hd:=dropAll_room T.l A1
 refine⟨A1.dropAll T.l,ks1,rfl,⟨hA1,hkl,λk hk=>?_,hd.1.trans hrm,hd.2.1.trans hnn⟩,?_⟩
 · obtain⟨j,hj⟩:=List.mem_iff_getElem?.1 hk
   exact hidle j k (by have:=(List.getElem?_eq_some_iff.1 hj).1;omega) hj
 · rw[← hkl]at hs
   exact MuS.fold hs ⟨mb,B,sq,r,tq,jq,adw,cw,adO,cO⟩ p ⟨s,A1.dropAll T.l,T.cut λ_=>true,J,ks1,base,front⟩
theorem mu_picture {id:Nat}(hs:St W w (MuS W M p m::L))(hx:m.A.pics[i]?=some px)(hid:px.id=id) :
   Calls Tryz.prog 88 #[pt M.mb,.int .i64 id] w λe w'=>e=.returned (.agg (ints .i32 32 px.g).toArray)∧St W w' (MuS W M p m::L):=by
 replace hs:=MuS.open hs
 refine EN Tryz.func88 Tryz.ntmps88 rfl rfl λa ha=>?_
 refine AL 1 ha hs λb4 a w ha hs=>?_
 change St W w (blk b4 116 (ints .i32 32 (λ_=>0))::_) at hs
 refine CL 6 ha hs (snap_state_id (hs.store M.sq) hx hid) λa w ha hs=>?_
 refine AL 3 ha hs λb5 a w ha hs=>?_
 change St W w (blk b5 116 (ints .i32 32 (λ_=>0))::_) at hs
 refine SA 0 ha hs λa w ha hs=>?_
 refine SA 3 ha hs λa w ha hs=>?_
 refine RT 0 ha hs ?_
 exact⟨rfl,(MuS.fold hs M p m).sub⟩
structure Moved (p:Pr)(M:MuB)(m m':Mu)(t':Nat→Nat):Prop where
 inv:Inv p (frontK m.s.k:Int) m.s.g t' m'.base m'.A m'.T (m'.ks.map (·.1))
 s:m'.s=m.s
 J:m'.J=m.J
 front:m'.front=frontK m.s.k
 room:m'.A.room=m.A.room
 n:m'.A.n≤m.A.n+1
 last:m'.T.last=m.T.last
 most:m'.T.most=m.T.most
 ep:m'.T.epoch≤m.T.epoch+2
 ks:m'.ks.length=m.ks.length
 tr:(m'.T=m.T∧m'.A=m.A∧m'.ks=m.ks)∨m'.T.l=[]
 same:m.front=frontK m.s.k→m'.T=m.T∧m'.A=m.A∧m'.ks=m.ks
theorem mu_move (hs:St W w (MuS W M p m::L))(hw:WF' p m.s)(hg:gOk m.s.g)(hI:Inv p (m.front:Int) g0 t m.base m.A m.T (m.ks.map (·.1)))(hfr:m.front=frontK m.s.k→g0=m.s.g)
   (he:m.T.epoch+2<1099511627776) (hn:m.A.n+1<1099511627776) (h4:m.ks.length≤4) (hR:12≤m.A.room) :
   Calls Tryz.prog 121 #[pt M.mb] w λe w'=>∃ (m':Mu) (t':Nat→Nat),e=.returned (.tuple #[])∧Moved p M m m' t'∧St W w' (MuS W M p m'::L):=by
 have hne:=hw.wc.lne
 have hl8:m.s.k.ls.length≤8:=by rw[hw.wc.ls];exact hw.wc.n.2
 obtain⟨mb,B,sq,r,tq,jq,adw,cw,adO,cO⟩:=M
 obtain⟨s,A,T,J,ks,base,front⟩:=m
 obtain⟨i,px,hpx,hpid⟩:=hI.pic (List.mem_cons_self ..)
 have hF : ∀ (N : List SP) (w' : World) (x : Br) (ad' : Option Addr) (c' : Nat), St W w' N →
     Calls Tryz.prog 178 ([]++[Value.agg (brC x ad' c').toArray]).toArray w' λe w''=>e=.returned (.bool false)∧St W w'' N:=by
   intro N w x ad' c' hs
   refine EN Tryz.func178 Tryz.ntmps178 rfl rfl λa ha=>?_
   refine BX 1 ha hs λb1 a w ha hs=>?_
   refine RT 3 ha hs ?_
   exact⟨rfl,hs.tail⟩
 simp only at hw hg hI hfr he hn h4 hR hne hl8 hpx hpid
 subst hpid
 replace hs:=MuS.open hs
 dsimp only at hs
 refine EN Tryz.func121 Tryz.ntmps121 rfl rfl λa ha=>?_
 refine CL 5 ha hs (plain_core (hs.pick (PlainS W B p s))) λa w ha hs=>?_
 replace hs:=PlainS.open hs
 refine CL 0 ha hs (core_queue (hs.pick (CoreS B.core s.k))) λa w ha hs=>?_
 obtain⟨D,hs,hD⟩:=CoreS.qu hs
 refine CL 0 ha hs (queue_front hs hne hl8) λa w ha hs=>?_
 refine RN 1 ha hs λa ha=>?_
 replace hs:=(PlainS.fold (hD _ _ hs) B p s)
 refine IF 8 ha hs (λhc0 a ha=>?_) λhc0 a ha=>?_
 ·
  have hff:front=frontK s.k:=by rw[frontK];omega
  refine RT 0 ha hs ?_
  exact⟨⟨s,A,T,J,ks,px.id,front⟩,t,rfl,⟨by rw[← hff,← hfr hff];exact hI,rfl,rfl,hff,rfl,by simp only;omega,rfl,rfl,by simp only;omega,rfl,.inl ⟨rfl,rfl,rfl⟩,λ_=>⟨rfl,rfl,rfl⟩⟩,MuS.fold hs ⟨mb,B,sq,r,tq,jq,adw,cw,adO,cO⟩ p ⟨s,A,T,J,ks,px.id,front⟩⟩
 refine RN 5 ha hs λa ha=>?_
 have hIc:=hI.cut (Store.facts (hs.store sq)).1 (λ_=>true)
 have hdr:=dropAll_room (T.l.filter λ_=>true) A
 have hTl:(T.cut λ_=>true).l=[]:=by simp[Tr.cut]
 have hTe:(T.cut λ_=>true).epoch≤T.epoch+1:=by simp only[Tr.cut];split <;> omega
 refine CLX 0 ha hs (tree_keep (kp:=λ_=>false) (ws:=[]) ((hs.store sq).tree tq) (by omega) (by kernel_rfl) (λN w' x ad' c' _ h1 _ _ _ _=>hF N w' x ad' c' h1)) ?_
 clear ha hs
 rintro e w ⟨⟨_,rfl⟩,hs⟩
 refine⟨_,rfl,λa ha=>?_⟩
 replace hs:St W w (Tree tq sq (T.cut λ_=>true)::Store sq r (A.dropAll (T.l.filter λ_=>true))::_):=hs
 generalize A.dropAll (T.l.filter λ_=>true)=A1 at hs hIc hdr
 have hT1:(T.cut λ_=>true).last=T.last∧(T.cut λ_=>true).most=T.most:=⟨rfl,rfl⟩
 generalize (T.cut λ_=>true)=T1 at hs hIc hTl hTe hT1
 obtain⟨i1,px1,hpx1,hpid1⟩:=hIc.pic (List.mem_cons_self ..)
 rw[← hpid1]at hs hIc
 refine RN 0 ha hs λa ha=>?_
 refine wp_seq_cut (M:=λa w=>∃ (A2:Sn) (T2:Tr) (ks2:List Kx),(A2.used+4≤A2.room∧Inv p (front:Int) g0 t px1.id A2 T2 (ks2.map (·.1))∧T2.l=[]∧T2.epoch≤T.epoch+2∧T2.last=T.last∧T2.most=T.most∧ks2.length=ks.length∧A2.room=A.room∧A2.n=A.n)∧Fr a 73 [(0,pt mb),(2,.int .i64 (frontL s.k.ls))]∧St W w (MuS W ⟨mb,B,sq,r,tq,jq,adw,cw,adO,cO⟩ p ⟨s,A2,T2,J,ks2,px1.id,front⟩::L)) ?_ ?_
 ·
  refine DWC 1 (λw0 w'=>Rd w' mb 0 (muC p ⟨mb,B,sq,r,tq,jq,adw,cw,adO,cO⟩ ks.length px1.id front)) [7,11,12,13] [0,1,2,4,5,6,8,9,10,3003,3007,1011,1012,1013,1014,15] ha hs λa w ha hs hH=>?_
  have hC:=hH.at w (hs.rdAll (b:=mb))
  refine RH 9 ha hs hH hC λa ha=>?_
  refine QH ha (λw hc=>ld1 ha (hc 3 _ rfl)) hC λa ha=>?_
  refine QH ha (λw hc=>ld1 ha (hc 3 _ rfl)) hC λa ha=>?_
  refine RH 0 ha hs hH hC λa ha=>?_
  refine SS ha (ld1 ha (hC 7 _ rfl)) λa ha=>?_
  refine RH 0 ha hs hH hC λa ha=>?_
  refine CL2 0 ha hs (snap_pages (hs.store sq) hpx1) λadp cp a w ha hs=>?_
  replace hC:=hH.at w (hs.rdAll (b:=mb))
  refine RH 1 ha hs hH hC λa ha=>?_
  refine CL 0 ha hs (snap_has (hs.store sq)) λa w ha hs=>?_
  refine RN 1 ha hs λa ha=>?_
  refine IF 0 ha hs (λhc1 a ha=>?_) λhc1 a ha=>?_
  ·
   replace hs:=MuS.fold hs ⟨mb,B,sq,r,tq,jq,adw,cw,adO,cO⟩ p ⟨s,A1,T1,J,ks,px1.id,front⟩
   refine CL2 1 ha hs (mu_rest hs hIc (by dsimp only;omega) h4) λA2 ks2 a w ha ⟨⟨hI2,hk2,hid2,hr2,hn2⟩,hs⟩=>?_
   refine RN 0 ha hs λa ha=>?_
   have hcl:(T1.cut λ_=>true).l=[]:=by simp[Tr.cut]
   have hce:(T1.cut λ_=>true).epoch≤T1.epoch+1:=by simp only[Tr.cut];split <;> omega
   have hu:=Store.used_le ((MuS.open hs).store sq)
   have hln:=hI2.len
   rw[heldW_none (λk hk=>by obtain⟨y,hy,rfl⟩:=List.mem_map.1 hk;exact hid2 y hy)]at hln
   simp only[hcl,List.length_nil]at hln hr2 hn2 hk2 hu
   exact⟨A2,T1.cut λ_=>true,ks2,⟨by rw[hr2,hdr.1];omega,hI2,hcl,by omega,hT1.1,hT1.2,hk2,by rw[hr2,hdr.1],by rw[hn2,hdr.2.1]⟩,ha.keep [0,2],hs.sub⟩
  refine RN 0 ha hs λa ha=>?_
  exact⟨A1,T1,ks,⟨by omega,hIc,hTl,by omega,hT1.1,hT1.2,rfl,hdr.1,hdr.2.1⟩,ha.keep [0,2],(MuS.fold hs ⟨mb,B,sq,r,tq,jq,adw,cw,adO,cO⟩ p ⟨s,A1,T1,J,ks,px1.id,front⟩).sub⟩
 clear ha;(try clear hs)
 rintro a w ⟨A2,T2,ks2,⟨hus,hI2,hT2,hE2,hL2,hM2,hk2,hr2,hn2⟩,ha,hs⟩
 refine RN 1 ha hs λa ha=>?_
 replace hs:=MuS.open hs
 dsimp only at hs
 refine DWC 0 (λw0 w'=>Rd w' mb 0 (muC p ⟨mb,B,sq,r,tq,jq,adw,cw,adO,cO⟩ ks2.length px1.id front)) [7,8] [0,1,2,4,5,6,3003,1007,1008,1009,10,11,12,13,14] ha hs λa w ha hs hH=>?_
 have hC:=hH.at w (hs.rdAll (b:=mb))
 refine RH 6 ha hs hH hC λa ha=>?_
 refine QH ha (λw hc=>ld1 ha (hc 3 _ rfl)) hC λa ha=>?_
 refine RH 0 ha hs hH hC λa ha=>?_
 refine SS ha (ld1 ha (hC 0 _ rfl)) λa ha=>?_
 refine RH 0 ha hs hH hC λa ha=>?_
 refine CL 0 ha hs (plain_game (hs.pick (PlainS W B p s))) λa w ha hs=>?_
 replace hC:=hH.at w (hs.rdAll (b:=mb))
 have hA2:=(Store.facts (hs.store sq)).1
 refine RH 0 ha hs hH hC λa ha=>?_
 refine CL1 0 ha hs (snap_make (g:=s.g) (hs.store sq) hus (by omega)) λt' a w ha ⟨⟨ht1,ht2⟩,hs⟩=>?_
 refine RN 5 ha hs λa ha=>?_
 refine RN 4 ha hs λa ha=>?_
 replace ha:=ha.isF 55
 refine DWC 2 (λw0 w'=>Rd w' mb 0 (muC p ⟨mb,B,sq,r,tq,jq,adw,cw,adO,cO⟩ ks2.length px1.id front)) [7] [0,1,2,4,5,6,3003,1007,1008] ha hs λa w ha hs hH=>?_
 have hC:=hH.at w (hs.rdAll (b:=mb))
 refine RH 6 ha hs hH hC λa ha=>?_
 refine QH ha (λw hc=>ld1 ha (hc 3 _ rfl)) hC λa ha=>?_
 refine RH 0 ha hs hH hC λa ha=>?_
 refine SS ha (ld1 ha (hC 7 _ rfl)) λa ha=>?_
 refine RH 0 ha hs hH hC λa ha=>?_
 refine CL1 0 ha hs (snap_dropId (hs.store sq)) λ_ a w ha hs=>?_
 refine ST 6 ha hs (λa w ha hs=>?_)
 refine ST 2 ha hs (λa w ha hs=>?_)
 refine RT 0 ha hs ?_
 have hm:=hI2.moved (F':=(frontK s.k:Int)) (g:=s.g) (t':=t') hA2 (by omega) hT2 hg
 have hd:=dropId_same (A2.add s.g t') px1.id
 exact⟨⟨s,(A2.add s.g t').dropId px1.id,T2,J,ks2,A2.last+1,frontL s.k.ls⟩,t',rfl,⟨hm,rfl,rfl,rfl,hd.1.trans hr2,by rw[hd.2.1];show A2.n+1≤A.n+1;omega,hL2,hM2,hE2,hk2,.inr hT2,λe=>(by have e2:front=frontL s.k.ls:=e;exfalso;omega)⟩,MuS.fold hs ⟨mb,B,sq,r,tq,jq,adw,cw,adO,cO⟩ p ⟨s,(A2.add s.g t').dropId px1.id,T2,J,ks2,A2.last+1,frontL s.k.ls⟩⟩
end
end
section
abbrev prx (xs:List BBx):List (List UInt8):=xs.map (·.2.2)
theorem prx_get {xs:List BBx}{i:Nat}{x:BBx}(h:xs[i]?=some x):(prx xs).getD i []=x.2.2:=by
 rw[List.getD_eq_getElem?_getD,List.getElem?_map,h];rfl
theorem prx_len (xs:List BBx):(prx xs).length=xs.length:=List.length_map _
theorem RdX.at {w:World}{ad:Option Addr}{xs:List BBx}(h:RdX w ad xs){i:Nat}(hi:i<xs.length):∃ b off x,ad=some ⟨b,off,none⟩∧xs[i]?=some x∧w.cell? ⟨b,off+i,none⟩=some (bbv x)∧RdB w x.1 x.2.2.length x.2.2:=by
 obtain⟨b,off,hb,hr⟩:=h.1 (by omega)
 have hx:xs[i]?=some xs[i]:=List.getElem?_eq_getElem hi
 exact⟨b,off,xs[i],hb,hx,hr i _ (by rw[List.getElem?_map,hx];rfl),h.2 _ (List.mem_of_getElem? hx)⟩
section
variable {W w:World}{L:List SP}{m cT to r f cl:Nat}{adT adl:Option Addr}{past:List UInt8}{b:Gs}{xs:List BBx}
theorem ref_front (hs:St W w L)(h0:0<xs.length)(h8:xs.length≤8)(hp:∀ w',St W w' L→RdX w' adl xs) :
   Calls Tryz.prog 94 #[.slice adl xs.length cl] w λe w'=>e=.returned (.int .i64 (frontL (prx xs)))∧St W w' L:=by
 refine EN Tryz.func94 Tryz.ntmps94 rfl rfl λa ha=>?_
 refine RN 3 ha hs λa ha=>?_
 obtain⟨bl,ol,x0,rfl,hx0,hcx,hrx⟩:=(hp _ hs).at h0
 refine RN 3 ha hs λa ha=>?_
 refine SS ha (ld1 ha (hcx)) λa ha=>?_
 rw[bbv]at ha
 refine RN 5 ha hs λa ha=>?_
 rw[show ((x0.2.2.length:Nat):Int)=(frontN (prx xs) 1:Nat) from by rw[frontN_one,frontN,List.headD_eq_getD,prx_get hx0]]at ha
 refine wp_loop_ghost (λμ a w=>∃ (i:Nat),(μ=xs.length-i∧i≤xs.length∧1≤i)∧Fr a 25 [(0,.slice (some ⟨bl,ol,none⟩) xs.length cl),(3,.int .i64 (frontN (prx xs) i:Nat)),(4,.int .i64 i)]∧St W w L) (xs.length-1) (⟨1,⟨rfl,by omega,by omega⟩,ha.keep [0,3,4],hs⟩) ?_
 clear ha hs
 rintro μ a w ⟨i,⟨rfl,hi,hi1⟩,ha,hs⟩
 refine IF 6 ha hs (λhc0 a ha=>?_) λhc0 a ha=>?_
 ·
  obtain⟨_,_,x,hxe,hx,hcx,hrx⟩:=(hp _ hs).at (i:=i) (by omega)
  cases hxe
  refine RN 6 ha hs λa ha=>?_
  refine SS ha (ld1 ha (hcx)) λa ha=>?_
  rw[bbv]at ha
  refine RN 2 ha hs λa ha=>?_
  rw[show min ((frontN (prx xs) i:Nat):Int) ((x.2.2.length:Nat):Int)=((frontN (prx xs) (i+1):Nat):Int) from by rw[frontN,prx_get hx];omega]at ha
  refine RN 4 ha hs λa ha=>?_
  exact⟨xs.length-(i+1),by omega,i+1,⟨rfl,by omega,by omega⟩,ha.keep [0,3,4],hs⟩
 refine RT 3 ha hs ?_
 obtain rfl:i=xs.length:=by omega
 exact⟨by rw[frontL,prx_len],hs⟩
theorem ref_joint (hs:St W w L)(h0:0<xs.length)(h8:xs.length≤8)(hp:∀ w',St W w' L→RdX w' adl xs)(hf:f<frontL (prx xs)) :
   Calls Tryz.prog 133 #[.slice adl xs.length cl,.int .i64 f] w λe w'=>∃ ad' c',e=.returned (.slice ad' (jointL (prx xs) f).length c')∧St W w' (Sl 5 1 ad' (jointL (prx xs) f).length c' (bc (jointL (prx xs) f))::L):=by
 refine EN Tryz.func133 Tryz.ntmps133 rfl rfl λa ha=>?_
 refine RN 7 ha hs λa ha=>?_
 replace hs:=hs.sl0 5 1 none
 refine wp_loop_ghost (λμ a w=>∃ (i:Nat) (ad2:Option Addr) (c2:Nat),(μ=xs.length-i∧i≤xs.length)∧Fr a 25 [(0,.slice adl xs.length cl),(1,.int .i64 f),(5,.slice ad2 (jointN (prx xs) f i).length c2),(6,.int .i64 i)]∧St W w (Sl 5 1 ad2 (jointN (prx xs) f i).length c2 (bc (jointN (prx xs) f i))::L)) (xs.length) (⟨0,none,0,⟨rfl,by omega⟩,ha.keep [0,1,5,6],hs⟩) ?_
 clear ha hs
 rintro μ a w ⟨i,ad2,c2,⟨rfl,hi⟩,ha,hs⟩
 refine IF 6 ha hs (λhc0 a ha=>?_) λhc0 a ha=>?_
 ·
  obtain⟨bl,ol,x,rfl,hx,hcx,hrx⟩:=(hp _ hs.tail).at (i:=i) (by omega)
  have hfl:f<x.2.2.length:=by
    have h1:=frontL_le (ls:=prx xs) (l:=x.2.2) (List.mem_map.2 ⟨x,List.mem_of_getElem? hx,rfl⟩)
    omega
  obtain⟨bx,ox,hxe,hrl⟩:=hrx.get (by omega)
  have hjl:=jointN_len (ls:=prx xs) (f:=f) (i:=i) (by rw[prx_len];exact hi)
  refine RN 6 ha hs λa ha=>?_
  refine SS ha (ld1 ha (hcx)) λa ha=>?_
  rw[bbv,hxe]at ha
  refine RN 2 ha hs λa ha=>?_
  refine SS ha (ld1 ha (hrl f _ (bc_atD hfl))) λa ha=>?_
  refine RN 0 ha hs λa ha=>?_
  refine st_buildSlice ha rfl hs Tryz.underlying22 Ty.t5 rfl rfl rfl rfl (by decide) (by decide) λb22 a w ha hs ho=>?_
  clear ho
  refine RN 0 ha hs λa ha=>?_
  refine st_append ha rfl hs Tryz.underlying22 Ty.t5 rfl rfl hs.rdAll rfl (bc_one [x.2.2.getD f 0]) (by decide) (by decide) (by omega) λad23 c23 a w ha hs=>?_
  rw[show bc (jointN (prx xs) f i)++_=bc (jointN (prx xs) f (i+1)) from by rw[jointN_succ (by rw[prx_len];omega),List.getElem_map,bc_app,(List.getElem?_eq_some_iff.1 hx).2],show (jointN (prx xs) f i).length+1=(jointN (prx xs) f (i+1)).length from by rw[hjl,jointN_len (by rw[prx_len];omega)]]at hs
  rw[show (jointN (prx xs) f i).length+1=(jointN (prx xs) f (i+1)).length from by rw[hjl,jointN_len (by rw[prx_len];omega)]]at ha
  refine RN 4 ha hs λa ha=>?_
  exact⟨xs.length-(i+1),by omega,i+1,ad23,c23,⟨rfl,by omega⟩,ha.keep [0,1,5,6],hs.sub⟩
 refine RT 3 ha hs ?_
 obtain rfl:i=xs.length:=by omega
 have hj:jointN (prx xs) f xs.length=jointL (prx xs) f:=by
   conv=>lhs;rw[← prx_len xs]
   exact jointN_all _ _
 rw[hj]at hs ⊢
 exact⟨_,_,rfl,hs⟩
set_option maxHeartbeats 1000000 in
theorem ref_aheadG (hr:r≤100000)(hs:St W w L)(hb:mayGs b)(h0:0<xs.length)(h8:xs.length≤8)(hl:∀ l∈prx xs,l.length≤1000)(hto:to≤1000)(hp:∀ w',St W w' L→RdX w' adl xs)(ht:∀ w',St W w' L→RdB w' adT b.table.length b.table) :
   Calls Tryz.prog 37 #[.slice adl xs.length cl,.agg (gsC b adT cT).toArray,.int .i64 r,.int .i64 to] w λe w'=>∃ (ad':Option Addr) (c':Nat) (X:List (List UInt8)),e=.returned (.slice ad' (to-frontL (prx xs)) c')∧(FitX to (prx xs) X∧(r=0→X=fullL b (prx xs) to)) ∧
     St W w' (OwnBB ad' (to-frontL (prx xs)) c' (aheadX X (frontL (prx xs)) to)::L):=by
 have hne:prx xs≠[]:=λe=>by have h1:=prx_len xs;rw[e]at h1;simp at h1;omega
 have hfr:frontL (prx xs)≤1000:=by
   obtain⟨l,hl1,hl2⟩:=frontL_some hne
   rw[hl2];exact hl l hl1
 refine EN Tryz.func37 Tryz.ntmps37 rfl rfl λa ha=>?_
 refine BX 1 ha hs λb5 a w ha hs=>?_
 change St W w (blk b5 61 (gsC b adT cT)::_) at hs
 refine CL 3 ha hs (ref_front (cl:=cl) hs h0 h8 (λw' hw=>hp w' hw.tail)) λa w ha hs=>?_
 refine CL1 4 ha hs (ref_mayBy hs) λrr a w ha ⟨hrr,hs⟩=>?_
 rw[hrr.2 hb]at ha
 refine RN 2 ha hs λa ha=>?_
 replace ha:=ha.isF 23
 refine RN 4 ha hs λa ha=>?_
 rw[decide_eq_false (by omega)]at ha
 refine RN 4 ha hs λa ha=>?_
 rw[decide_eq_false (by omega)]at ha
 refine IF 4 ha hs (λhc0 a ha=>?_) λhc0 a ha=>?_
 ·
  refine RT 2 ha hs ?_
  have hz:to-frontL (prx xs)=0:=by omega
  refine⟨none,0,fullL b (prx xs) to,by rw[hz],⟨⟨by rw[fullL,List.length_map],λj l x hj hx=>?_⟩,λ_=>rfl⟩,?_⟩
  · rw[fullL,List.getElem?_map,hj]at hx
    obtain rfl:fullB b l to=x:=by simpa using hx
    exact fullB_fit (hl l (List.mem_of_getElem? hj)) hto
  · rw[aheadX,hz];exact OwnBB.nil hs.tail
 refine RN 7 ha hs λa ha=>?_
 replace hs:=hs.sl0 22 1 none
 replace hs:=St.allNil (f:=bbo) hs
 have hfto:frontL (prx xs)<to:=by omega
 refine wp_loop_ghost (λμ a w=>∃ (i:Nat) (odd:Bool) (ys:List BBx) (ady:Option Addr) (cy:Nat),(μ=xs.length-i∧i≤xs.length∧ys.length=i∧(∀ (j:Nat) (l:List UInt8) (x:BBx),(prx xs)[j]?=some l→ys[j]?=some x→FitB to l x.2.2)∧(r=0→prx ys=(fullL b (prx xs) to).take i))∧Fr a 117 [(0,.slice adl xs.length cl),(2,.int .i64 r),(3,.int .i64 to),(5,pt b5),(9,.int .i64 (frontL (prx xs))),(10,.slice ady i cy),(11,.bool odd),(12,.int .i64 i)]∧St W w (Sl 22 1 ady i cy (ys.map bbv)::All bbo ys::blk b5 61 (gsC b adT cT)::L)) (xs.length) (⟨0,false,[],none,0,⟨rfl,by omega,rfl,λj l x _ h=>by simp at h,λ_=>rfl⟩,ha.keep [0,2,3,5,9,10,11,12],(hs.sub:St W w (Sl 22 1 none 0 0 []::All bbo []::blk b5 61 (gsC b adT cT)::L))⟩) ?_
 clear ha hs
 rintro μ a w ⟨i,odd,ys,ady,cy,⟨rfl,hi,hyl,hfit,hful⟩,ha,hs⟩
 refine IF 6 ha hs (λhc1 a ha=>?_) λhc1 a ha=>?_
 ·
  obtain⟨bl,ol,x,rfl,hx,hcx,hrx⟩:=(hp _ hs.tail.tail.tail).at (i:=i) (by omega)
  have hxm:(prx xs)[i]?=some x.2.2:=by rw[List.getElem?_map,hx];rfl
  have hxl:=hl _ (List.mem_of_getElem? hxm)
  replace hs:=hs.sl0 5 1 none
  refine RN 6 ha hs λa ha=>?_
  refine SS ha (ld1 ha (hcx)) λa ha=>?_
  rw[bbv]at ha
  refine RN 0 ha hs λa ha=>?_
  refine st_appendT ha rfl hs Tryz.underlying22 Ty.t5 rfl rfl (by decide) (λh0=>hrx.get h0) (by rw[bc_len];omega) (bc_one _) (by omega) λad47 c47 a w ha hs=>?_
  rw[List.nil_append,Nat.zero_add]at hs
  rw[Nat.zero_add]at ha
  refine RN 1 ha hs λa ha=>?_
  refine wp_seq_cut (M:=λa w=>∃ (odd':Bool) (adp:Option Addr) (cp:Nat) (y:List UInt8),((∃ t,y=x.2.2++t)∧y.length≤x.2.2.length+1∧(y=x.2.2∨x.2.2.length=frontL (prx xs))∧(r=0→y=x.2.2))∧Fr a 117 [(0,.slice (some ⟨bl,ol,none⟩) xs.length cl),(2,.int .i64 r),(3,.int .i64 to),(5,pt b5),(9,.int .i64 (frontL (prx xs))),(10,.slice ady i cy),(11,.bool odd'),(12,.int .i64 i),(13,.slice adp y.length cp)]∧St W w (Sl 5 1 adp y.length cp (bc y)::Sl 22 1 ady i cy (ys.map bbv)::All bbo ys::blk b5 61 (gsC b adT cT)::L)) ?_ ?_
  ·
   refine BY 4 ha hs (λhg2 a ha=>?_) λhg2 a ha=>?_
   ·
    refine BY 4 ha hs (λhg6 a ha=>?_) λhg6 a ha=>?_
    ·
     refine IF 5 ha hs (λhc2 a ha=>?_) λhc2 a ha=>?_
     ·
      refine RN 2 ha hs λa ha=>?_
      have hr6:r%256<256:=Nat.mod_lt _ (by decide)
      have hc47:=(hs.sl ad47).2
      refine SX 4 ha hs (by decide) λa ha=>?_
      rw[show ((r:Nat):Int).tmod 256=((r%256:Nat):Int) from remN _ 256]at ha
      generalize hre:r%256=r6 at ha hr6
      refine RN 1 ha hs λa ha=>?_
      rw[show ((r6:Nat):Int)+1=((r6+1:Nat):Int) from by omega]at ha
      refine CL3 0 ha hs (ref_rank (past:=x.2.2) (k:=r6+1) hs hb (by omega) (by omega) hc47 (λw' hw=>hw.rdB ad47 x.2.2 rfl rfl) (λw' hw=>ht w' hw.tail.tail.tail.tail)) λadr cr out a w ha ⟨⟨hol,_⟩,hs⟩=>?_
      obtain⟨br,or',rfl,hrr⟩:=hs.slRd adr (by omega)
      refine SX 1 ha hs (by decide) λa ha=>?_
      rw[show ((r:Nat):Int).tmod 256=((r6:Nat):Int) from by rw[← hre];exact remN _ 256]at ha
      refine RN 1 ha hs λa ha=>?_
      refine SS ha (ld1 ha (hrr r6 _ (bc_at (by omega)))) λa ha=>?_
      refine RN 0 ha hs λa ha=>?_
      refine st_buildSlice ha rfl hs Tryz.underlying22 Ty.t5 rfl rfl rfl rfl (by decide) (by decide) λb71 a w ha hs ho=>?_
      clear ho
      refine RN 0 ha hs λa ha=>?_
      refine st_append ha rfl hs Tryz.underlying22 Ty.t5 rfl rfl hs.rdAll rfl (bc_one [out[r6]]) (by decide) (by decide) (by omega) λad72 c72 a w ha hs=>?_
      rw[show bc x.2.2++_=bc (x.2.2++[out[r6]]) from (bc_app _ [_]).symm,show x.2.2.length+1=(x.2.2++[out[r6]]).length from by simp]at hs
      rw[show x.2.2.length+1=(x.2.2++[out[r6]]).length from by simp]at ha
      refine RN 1 ha hs λa ha=>?_
      exact⟨_,ad72,c72,x.2.2++[out[r6]],⟨⟨_,rfl⟩,by simp,.inr (by omega),λh=>by omega⟩,ha.keep [0,2,3,5,9,10,11,12,13],hs.sub⟩
     refine RN 0 ha hs λa ha=>?_
     exact⟨_,ad47,c47,x.2.2,⟨⟨[],by simp⟩,by omega,.inl rfl,λ_=>rfl⟩,ha.keep [0,2,3,5,9,10,11,12,13],hs.sub⟩
    refine RN 6 ha hs λa ha=>?_
    exact⟨_,ad47,c47,x.2.2,⟨⟨[],by simp⟩,by omega,.inl rfl,λ_=>rfl⟩,ha.keep [0,2,3,5,9,10,11,12,13],hs.sub⟩
   refine RN 10 ha hs λa ha=>?_
   exact⟨_,ad47,c47,x.2.2,⟨⟨[],by simp⟩,by omega,.inl rfl,λ_=>rfl⟩,ha.keep [0,2,3,5,9,10,11,12,13],hs.sub⟩
  clear ha;(try clear hs)
  rintro a w ⟨odd',adp,cp,y,⟨hy1,hy2,hy4,hy3⟩,ha,hs⟩
  refine wp_seq_cut (M:=λa w=>∃ (adq:Option Addr) (cq:Nat) (z:List UInt8),(FitB to x.2.2 z∧(r=0→z=fullB b x.2.2 to))∧Fr a 117 [(0,.slice (some ⟨bl,ol,none⟩) xs.length cl),(2,.int .i64 r),(3,.int .i64 to),(5,pt b5),(9,.int .i64 (frontL (prx xs))),(10,.slice ady i cy),(11,.bool odd'),(12,.int .i64 i),(13,.slice adq z.length cq)]∧St W w (Sl 5 1 adq z.length cq (bc z)::Sl 22 1 ady i cy (ys.map bbv)::All bbo ys::blk b5 61 (gsC b adT cT)::L)) ?_ ?_
  ·
   refine IF 5 ha hs (λhc3 a ha=>?_) λhc3 a ha=>?_
   ·
    have hyc:=(hs.sl adp).2
    have hchl:=chainB_len b y (to-y.length)
    refine RN 7 ha hs λa ha=>?_
    rw[show ((to:Nat):Int)-((y.length:Nat):Int)=((to-y.length:Nat):Int) from by omega]at ha
    refine CL2 0 ha hs (ref_chain (past:=y) (m:=to-y.length) hs hb (by omega) hyc (by omega) (λw' hw=>hw.rdB adp y rfl rfl) (λw' hw=>ht w' hw.tail.tail.tail.tail)) λadc cc a w ha hs=>?_
    refine RN 0 ha hs λa ha=>?_
    refine st_appendT ha rfl hs Tryz.underlying22 Ty.t5 rfl rfl (by decide) (λh0=>(hs.rdB adc (chainB b y (to-y.length)) rfl hchl).get h0) (by rw[bc_len];omega) (bc_one _) (by omega) λad85 c85 a w ha hs=>?_
    rw[← bc_app,chain_all,show y.length+(to-y.length)=(chainN b y (to-y.length)).length from by rw[chainN_len]]at hs
    rw[show y.length+(to-y.length)=(chainN b y (to-y.length)).length from by rw[chainN_len]]at ha
    refine RN 1 ha hs λa ha=>?_
    obtain⟨t,hyt⟩:=hy1
    refine⟨ad85,c85,_,⟨⟨⟨t++chainB b y (to-y.length),?_⟩,by rw[chainN_len];omega,by rw[chainN_len];omega⟩,λh=>?_⟩,ha.keep [0,2,3,5,9,10,11,12,13],hs.sub⟩
    · rw[← chain_all,hyt,List.append_assoc]
    · rw[hy3 h,fullB]
   refine RN 0 ha hs λa ha=>?_
   exact⟨adp,cp,y,⟨⟨hy1,by omega,by omega⟩,λh=>by rw[fullB_long (by rw[← hy3 h];omega)];exact hy3 h⟩,ha.keep [0,2,3,5,9,10,11,12,13],hs⟩
  clear ha;(try clear hs)
  rintro a w ⟨adq,cq,z,⟨hz1,hz2⟩,ha,hs⟩
  refine RN 2 ha hs λa ha=>?_
  refine st_buildSlice ha rfl hs Tryz.underlying42 Ty.t22 rfl rfl rfl rfl (by decide) (by decide) λb88 a w ha hs ho=>?_
  clear ho
  refine RN 0 ha hs λa ha=>?_
  refine st_append ha rfl hs Tryz.underlying42 Ty.t22 rfl rfl hs.rdAll rfl (by simp[Value.oneCell']) (by decide) (by decide) (by omega) λad89 c89 a w ha hs=>?_
  rw[show List.map bbv ys++_=List.map bbv (ys++[(adq,cq,z)]) from by rw[List.map_append];rfl]at hs
  refine RN 4 ha hs λa ha=>?_
  have hs2:=St.allPush (f:=bbo) (x:=(adq,cq,z)) (hs.sub (M:=Sl 5 1 adq z.length cq (bc z)::All bbo ys::Sl 22 1 ad89 (i+1) c89 ((ys++[(adq,cq,z)]).map bbv)::blk b5 61 (gsC b adT cT)::L))
  refine⟨xs.length-(i+1),by omega,i+1,odd',ys++[(adq,cq,z)],ad89,c89,⟨rfl,by omega,by rw[List.length_append,hyl];rfl,λj l y hj hy=>?_,λh=>?_⟩,ha.keep [0,2,3,5,9,10,11,12],hs2.sub⟩
  · by_cases hji:j<i
    · rw[List.getElem?_append_left (by omega)]at hy
      exact hfit j l y hj hy
    · have hjl:=(List.getElem?_eq_some_iff.1 hy).1
      rw[List.length_append,List.length_singleton]at hjl
      obtain rfl:j=i:=by omega
      rw[List.getElem?_append_right (by omega),hyl,Nat.sub_self]at hy
      obtain rfl:(adq,cq,z)=y:=by simpa using hy
      rw[hxm]at hj
      obtain rfl:x.2.2=l:=by simpa using hj
      exact hz1
  · rw[prx,List.map_append,← prx,hful h,List.take_succ_eq_append_getElem (by rw[fullL,List.length_map,prx_len];omega)]
    congr 1
    rw[List.map_singleton,hz2 h]
    simp only[fullL,List.getElem_map]
    rw[(List.getElem?_eq_some_iff.1 hx).2]
 obtain rfl:i=xs.length:=by omega
 have hX:FitX to (prx xs) (prx ys):=⟨by rw[prx_len,prx_len];exact hyl,λj l x hj hx=>by
   rw[List.getElem?_map]at hx
   obtain⟨y,hy,rfl⟩:=Option.map_eq_some_iff.1 hx
   exact hfit j l y hj hy⟩
 have hXf:r=0→prx ys=fullL b (prx xs) to:=λh=>by rw[hful h,List.take_of_length_le (by rw[fullL,List.length_map,prx_len];exact Nat.le_refl _)]
 clear hfit hful
 refine RN 6 ha hs λa ha=>?_
 replace hs:=hs.sl0 22 1 none
 replace hs:=St.allNil (f:=bbo) hs
 refine wp_loop_ghost (λμ a w=>∃ (d:Nat) (zs:List BBx) (adz:Option Addr) (cz:Nat),(μ=to-frontL (prx xs)-d∧d≤to-frontL (prx xs)∧prx zs=(List.range d).map λi=>jointL (prx ys) (frontL (prx xs)+i))∧Fr a 117 [(0,.slice adl xs.length cl),(3,.int .i64 to),(10,.slice ady xs.length cy),(14,.slice adz d cz),(15,.int .i64 (frontL (prx xs)+d:Nat))]∧St W w (Sl 22 1 adz d cz (zs.map bbv)::All bbo zs::Sl 22 1 ady xs.length cy (ys.map bbv)::All bbo ys::L)) (to-frontL (prx xs)) (⟨0,[],none,0,⟨rfl,by omega,rfl⟩,by rw[Nat.add_zero];exact ha.keep [0,3,10,14,15],(hs.sub:St W w (Sl 22 1 none 0 0 []::All bbo []::Sl 22 1 ady xs.length cy (ys.map bbv)::All bbo ys::L))⟩) ?_
 clear ha hs
 rintro μ a w ⟨d,zs,adz,cz,⟨rfl,hd,hzs⟩,ha,hs⟩
 refine IF 5 ha hs (λhc4 a ha=>?_) λhc4 a ha=>?_
 ·
  refine RN 6 ha hs λa ha=>?_
  replace hs:=hs.sl0 5 1 none
  refine wp_loop_ghost (λμ a w=>∃ (i:Nat) (adj:Option Addr) (cj:Nat),(μ=xs.length-i∧i≤xs.length)∧Fr a 117 [(0,.slice adl xs.length cl),(3,.int .i64 to),(10,.slice ady xs.length cy),(14,.slice adz d cz),(15,.int .i64 (frontL (prx xs)+d:Nat)),(16,.slice adj i cj),(17,.int .i64 i)]∧St W w (Sl 5 1 adj i cj (bc (jointN (prx ys) (frontL (prx xs)+d) i))::Sl 22 1 adz d cz (zs.map bbv)::All bbo zs::Sl 22 1 ady xs.length cy (ys.map bbv)::All bbo ys::L)) (xs.length) (⟨0,none,0,⟨rfl,by omega⟩,ha.keep [0,3,10,14,15,16,17],hs⟩) ?_
  clear ha hs
  rintro μ a w ⟨i,adj,cj,⟨rfl,hi⟩,ha,hs⟩
  refine IF 6 ha hs (λhc5 a ha=>?_) λhc5 a ha=>?_
  ·
   have hil:i<xs.length:=by omega
   have hrX:=St.rdX (xs:=ys) (hs.sub (M:=Sl 22 1 ady xs.length cy (ys.map bbv)::All bbo ys::[]))
   obtain⟨by',oy,y,rfl,hy,hcy,hry⟩:=hrX.at (i:=i) (by omega)
   have hyf:=hX.fit i _ y.2.2 (List.getElem?_eq_getElem (by rw[prx_len];exact hil)) (by rw[List.getElem?_map,hy];rfl)
   obtain⟨bb,oo,hye,hrl⟩:=hry.get (by have:=hyf.2.1;omega)
   refine RN 5 ha hs λa ha=>?_
   refine SS ha (ld1 ha (hcy)) λa ha=>?_
   rw[bbv,hye]at ha
   refine SX 1 ha hs (by have:=hyf.2.1;omega) λa ha=>?_
   refine RN 0 ha hs λa ha=>?_
   refine SS ha (ld1 ha (hrl (frontL (prx xs)+d) _ (bc_atD (by have:=hyf.2.1;omega)))) λa ha=>?_
   refine RN 0 ha hs λa ha=>?_
   refine st_buildSlice ha rfl hs Tryz.underlying22 Ty.t5 rfl rfl rfl rfl (by decide) (by decide) λb110 a w ha hs ho=>?_
   clear ho
   refine RN 0 ha hs λa ha=>?_
   refine st_append ha rfl hs Tryz.underlying22 Ty.t5 rfl rfl hs.rdAll rfl (bc_one [y.2.2.getD (frontL (prx xs)+d) 0]) (by decide) (by decide) (by omega) λad111 c111 a w ha hs=>?_
   rw[show bc (jointN (prx ys) (frontL (prx xs)+d) i)++_=bc (jointN (prx ys) (frontL (prx xs)+d) (i+1)) from by rw[jointN_succ (by rw[prx_len];omega),List.getElem_map,bc_app,(List.getElem?_eq_some_iff.1 hy).2]]at hs
   refine RN 4 ha hs λa ha=>?_
   exact⟨xs.length-(i+1),by omega,i+1,ad111,c111,⟨rfl,by omega⟩,ha.keep [0,3,10,14,15,16,17],hs.sub⟩
  obtain rfl:i=xs.length:=by omega
  have hjl:jointN (prx ys) (frontL (prx xs)+d) xs.length=jointL (prx ys) (frontL (prx xs)+d):=by
    conv=>lhs;rw[← hyl,← prx_len]
    exact jointN_all _ _
  rw[hjl]at hs
  have hjn:(jointL (prx ys) (frontL (prx xs)+d)).length=xs.length:=by rw[jointL_len,prx_len];exact hyl
  refine RN 2 ha hs λa ha=>?_
  refine st_buildSlice ha rfl hs Tryz.underlying42 Ty.t22 rfl rfl rfl rfl (by decide) (by decide) λb114 a w ha hs ho=>?_
  clear ho
  refine RN 0 ha hs λa ha=>?_
  refine st_append ha rfl hs Tryz.underlying42 Ty.t22 rfl rfl hs.rdAll rfl (by simp[Value.oneCell']) (by decide) (by decide) (by omega) λad115 c115 a w ha hs=>?_
  rw[show List.map bbv zs++_=List.map bbv (zs++[(adj,cj,jointL (prx ys) (frontL (prx xs)+d))]) from by rw[List.map_append,List.map_singleton,bbv,hjn];rfl]at hs
  refine RN 4 ha hs λa ha=>?_
  have hs2:=St.allPush (f:=bbo) (x:=(adj,cj,jointL (prx ys) (frontL (prx xs)+d))) (by
    rw[bbo,hjn]
    exact hs.sub (M:=Sl 5 1 adj xs.length cj (bc (jointL (prx ys) (frontL (prx xs)+d)))::All bbo zs::Sl 22 1 ad115 (d+1) c115 ((zs++[(adj,cj,jointL (prx ys) (frontL (prx xs)+d))]).map bbv)::Sl 22 1 ady xs.length cy (ys.map bbv)::All bbo ys::L))
  exact⟨to-frontL (prx xs)-(d+1),by omega,d+1,zs++[(adj,cj,jointL (prx ys) (frontL (prx xs)+d))],ad115,c115,⟨rfl,by omega,by rw[prx,List.map_append,← prx,hzs,List.range_succ,List.map_append];rfl⟩,by rw[show ((frontL (prx xs)+(d+1):Nat):Int)=((frontL (prx xs)+d:Nat):Int)+1 from by omega];exact ha.keep [0,3,10,14,15],hs2.sub⟩
 obtain rfl:d=to-frontL (prx xs):=by omega
 refine RT 3 ha hs ?_
 exact⟨adz,cz,prx ys,rfl,⟨hX,hXf⟩,OwnBB.close (xs:=zs) (hs.sub (M:=Sl 22 1 adz (to-frontL (prx xs)) cz (zs.map bbv)::All bbo zs::L)) hzs (aheadX_len _ _ _)⟩
end
end
end Go.Proofs.YtdilfdkendjjhaaGreat
