/- Package multi: what is let go, and how the base's picture moves on. -/
import Derived.Test.YtdilfdkendjjhaaGreatA26Sort
import Derived.Test.YtdilfdkendjjhaaGreatA24Fold
namespace Go.Proofs.YtdilfdkendjjhaaGreat
open Go.RowKit
set_option linter.unusedVariables false
set_option linter.unusedSimpArgs false
set_option maxRecDepth 10000
set_option synthInstance.maxSize 4000
set_option synthInstance.maxHeartbeats 400000
section
theorem Tl.rest {N L:List SP}{A:SP}(t:Tl N (A::L)):Tl N L:=⟨let ⟨K,h⟩:=t.h;⟨K++[A],by simpa using h⟩⟩
section
variable {W w:World}{L:List SP}{n i tq sq r:Nat}{M:MuB}{B:PlB}{x:UInt8}{p:Pr}{s:Pl}{m:Mu}{A:Sn}{T:Tr}{F:Int}{g0:Nat→Int}{t:Nat→Nat}{px:Pic}
theorem tree_keep {kp:Br→Bool}{g:Nat}{ws:List Value}(hs:St W w (Tree tq sq T::Store sq r A::L))(he:T.epoch+1<1099511627776)(hcl:callable Tryz.prog g=true)
   (hg:∀ (N:List SP) (w':World) (x:Br) (ad':Option Addr) (c':Nat),x∈T.l→St W w' N→Tl N L→RdZ W N ad' x.press→x.press.length≤c'→OkP x.press →
     Calls Tryz.prog g (ws++[Value.agg (brC x ad' c').toArray]).toArray w' λe w''=>e=.returned (.bool (kp x))∧St W w'' N) :
   Calls Tryz.prog 122 #[pt tq,.func (.func g) ws.toArray #[]] w λe w'=>(∃ v:Int,e=.returned (.int .i64 v)) ∧
     St W w' (Tree tq sq (T.cut λx=>!kp x)::Store sq r (A.dropAll (T.l.filter λx=>!kp x))::L):=by
 have hF : ∀ (b3 : Nat) (N : List SP) (w' : World) (x : Br) (ad' : Option Addr) (c' : Nat), x ∈ T.l → St W w' N → Tl N (blk b3 199 [.func (.func g) ws.toArray #[]] :: L) → RdZ W N ad' x.press → x.press.length ≤ c' → OkP x.press →
     Calls Tryz.prog 182 (List.toArray [.agg (brC x ad' c').toArray,pt b3]) w' λe w''=>e=.returned (.bool (!kp x))∧St W w'' N:=by
   intro b3 N w x ad' c' hxt hs hM hx hxc hox
   refine EN Tryz.func182 Tryz.ntmps182 rfl rfl λa ha=>?_
   refine BX 1 ha hs λb2 a w ha hs=>?_
   refine RN 2 ha hs λa ha=>?_
   have hs5:=hs.tail.tl hM
   refine SS ha (ld1 ha (hs5.rd1 rfl)) λa ha=>?_
   refine CL 1 ha hs (hg (blk b2 45 (brC x ad' c')::N) _ x ad' c' hxt hs (@Tl.cons _ _ _ hM.rest) (hx.imp λzs h=>⟨h.1,λw'' h2=>h.2 _ h2.tail⟩) hxc hox) (hf:=hcl) λa w ha hs=>?_
   refine RT 2 ha hs ?_
   exact⟨rfl,hs.tail⟩
 refine EN Tryz.func122 Tryz.ntmps122 rfl rfl λa ha=>?_
 refine BX 1 ha hs λb3 a w ha hs=>?_
 refine CL 4 ha hs (tree_drop (tq:=tq) (sq:=sq) (r:=r) (A:=A) (T:=T) (wh:=λx=>!kp x) (us:=[pt b3]) (L:=blk b3 199 [.func (.func g) ws.toArray #[]]::L) hs.sub he (by kernel_rfl) (hF b3)) λa w ha hs=>?_
 refine RT 1 ha hs ?_
 exact⟨⟨_,rfl⟩,hs.sub⟩
theorem mu_rest (hs:St W w (MuS W M p m::L))(hI:Inv p F g0 t m.base m.A m.T (m.ks.map (·.1)))(he:m.T.epoch+1<1099511627776)(h4:m.ks.length≤4) :
   Calls Tryz.prog 179 #[pt M.mb] w λe w'=>∃ (A':Sn) (ks':List Kx),e=.returned (.tuple #[]) ∧
     (Inv p F g0 t m.base A' (m.T.cut λ_=>true) (ks'.map (·.1))∧ks'.length=m.ks.length∧(∀ k∈ks',k.1.busy=false)∧A'.room=m.A.room∧A'.n=m.A.n) ∧
     St W w' (MuS W M p { m with A:=A',ks:=ks',T:=m.T.cut λ_=>true }::L):=by
 obtain⟨mb,B,sq,r,tq,jq,adw,cw,adO,cO⟩:=M
 obtain⟨s,A,T,J,ks,base,front⟩:=m
 replace hs:=MuS.open hs
 simp only at hI he h4
 refine EN Tryz.func179 Tryz.ntmps179 rfl rfl λa ha=>?_
 refine RN 8 ha hs λa ha=>?_
 refine wp_loop_ghost (λμ a w=>∃ (i:Nat) (A1:Sn) (ks1:List Kx),(μ=ks.length-i∧i≤ks.length∧ks1.length=ks.length∧(∀ (j:Nat) (k:Kx),j<i→ks1[j]?=some k→k.1.busy=false)∧Inv p F g0 t base A1 T (ks1.map (·.1))∧A1.room=A.room∧A1.n=A.n)∧Fr a 21 [(0,pt mb),(7,.slice adw ks.length cw),(8,.int .i64 ks.length),(9,.int .i64 i)]∧St W w (blk mb 110 (muC p ⟨mb,B,sq,r,tq,jq,adw,cw,adO,cO⟩ ks.length base front)::PlainS W B p s::RoP W p adO cO::Sl 112 1 adw ks.length cw (ptrs ks1)::All (ownK p adO cO tq jq sq) ks1::Tree tq sq T::Store sq r A1::Jobs jq J::L)) (ks.length) (⟨0,A,ks,⟨rfl,by omega,rfl,λj k h=>absurd h (by omega),hI,rfl,rfl⟩,ha.keep [0,7,8,9],hs.sub⟩) ?_
 clear ha hs
 rintro μ a w ⟨i,A1,ks1,⟨rfl,hi,hkl,hidle,hI1,hrm,hnn⟩,ha,hs⟩
 refine IF 3 ha hs (λhc0 a ha=>?_) λhc0 a ha=>?_
 ·
  have hik:i<ks1.length:=by omega
  obtain⟨⟨k,wb⟩,hk⟩:∃ y,ks1[i]?=some y:=⟨_,List.getElem?_eq_getElem hik⟩
  obtain⟨b',off',rfl,hrd⟩:=hs.slRd adw (by omega)
  refine RN 3 ha hs λa ha=>?_
  refine SS ha (ld1 ha (hrd i _ (ptrs_at hk))) λa ha=>?_
  refine CL2 2 ha hs (shop_rest ((hs.store sq).pick (All (ownK p adO cO tq jq sq) ks1)) hk hI1) λA2 k2 a w ha ⟨⟨hk2,hI2,hr2,hn2⟩,hs⟩=>?_
  rw[← ptrs_set (k':=k2) hk]at hs
  refine RN 2 ha hs λa ha=>?_
  refine⟨ks.length-(i+1),by omega,i+1,A2,ks1.set i (k2,wb),⟨rfl,by omega,by rw[List.length_set];exact hkl,λj z hj hz=>?_,hI2,hr2.trans hrm,hn2.trans hnn⟩,ha.keep [0,7,8,9],hs.sub⟩
  rw[List.getElem?_set]at hz
  split at hz
  · cases hz;exact hk2
  · exact hidle j z (by omega) hz
 refine RN 0 ha hs λa ha=>?_
 have hs0:=hs
 refine CL 4 ha hs (tree_clear ((hs.store sq).tree tq) he) λa w ha hs=>?_
 refine RT 0 ha hs ?_
 obtain rfl:i=ks.length:=by omega
 have hA1:=hI1.cut (Store.facts (hs0.store sq)).1 (λ_=>true)
 rw[show T.l.filter (λ_=>true)=T.l from by simp]at hA1
 have hd:=dropAll_room T.l A1
 refine⟨A1.dropAll T.l,ks1,rfl,⟨hA1,hkl,λk hk=>?_,hd.1.trans hrm,hd.2.1.trans hnn⟩,?_⟩
 · obtain⟨j,hj⟩:=List.mem_iff_getElem?.1 hk
   exact hidle j k (by have:=(List.getElem?_eq_some_iff.1 hj).1;omega) hj
 · rw[← hkl]at hs
   exact MuS.fold hs ⟨mb,B,sq,r,tq,jq,adw,cw,adO,cO⟩ p ⟨s,A1.dropAll T.l,T.cut λ_=>true,J,ks1,base,front⟩
theorem mu_picture {id:Nat}(hs:St W w (MuS W M p m::L))(hx:m.A.pics[i]?=some px)(hid:px.id=id) :
   Calls Tryz.prog 88 #[pt M.mb,.int .i64 id] w λe w'=>e=.returned (.agg (ints .i32 32 px.g).toArray)∧St W w' (MuS W M p m::L):=by
 replace hs:=MuS.open hs
 refine EN Tryz.func88 Tryz.ntmps88 rfl rfl λa ha=>?_
 refine AL 1 ha hs λb4 a w ha hs=>?_
 change St W w (blk b4 116 (ints .i32 32 (λ_=>0))::_) at hs
 refine CL 6 ha hs (snap_state_id (hs.store M.sq) hx hid) λa w ha hs=>?_
 refine AL 3 ha hs λb5 a w ha hs=>?_
 change St W w (blk b5 116 (ints .i32 32 (λ_=>0))::_) at hs
 refine SA 0 ha hs λa w ha hs=>?_
 refine SA 3 ha hs λa w ha hs=>?_
 refine RT 0 ha hs ?_
 exact⟨rfl,(MuS.fold hs M p m).sub⟩
structure Moved (p:Pr)(M:MuB)(m m':Mu)(t':Nat→Nat):Prop where
 inv:Inv p (frontK m.s.k:Int) m.s.g t' m'.base m'.A m'.T (m'.ks.map (·.1))
 s:m'.s=m.s
 J:m'.J=m.J
 front:m'.front=frontK m.s.k
 room:m'.A.room=m.A.room
 n:m'.A.n≤m.A.n+1
 last:m'.T.last=m.T.last
 most:m'.T.most=m.T.most
 ep:m'.T.epoch≤m.T.epoch+2
 ks:m'.ks.length=m.ks.length
 tr:(m'.T=m.T∧m'.A=m.A∧m'.ks=m.ks)∨m'.T.l=[]
 same:m.front=frontK m.s.k→m'.T=m.T∧m'.A=m.A∧m'.ks=m.ks
theorem mu_move (hs:St W w (MuS W M p m::L))(hw:WF' p m.s)(hg:gOk m.s.g)(hI:Inv p (m.front:Int) g0 t m.base m.A m.T (m.ks.map (·.1)))(hfr:m.front=frontK m.s.k→g0=m.s.g)
   (he:m.T.epoch+2<1099511627776) (hn:m.A.n+1<1099511627776) (h4:m.ks.length≤4) (hR:12≤m.A.room) :
   Calls Tryz.prog 121 #[pt M.mb] w λe w'=>∃ (m':Mu) (t':Nat→Nat),e=.returned (.tuple #[])∧Moved p M m m' t'∧St W w' (MuS W M p m'::L):=by
 have hne:=hw.wc.lne
 have hl8:m.s.k.ls.length≤8:=by rw[hw.wc.ls];exact hw.wc.n.2
 obtain⟨mb,B,sq,r,tq,jq,adw,cw,adO,cO⟩:=M
 obtain⟨s,A,T,J,ks,base,front⟩:=m
 obtain⟨i,px,hpx,hpid⟩:=hI.pic (List.mem_cons_self ..)
 have hF : ∀ (N : List SP) (w' : World) (x : Br) (ad' : Option Addr) (c' : Nat), St W w' N →
     Calls Tryz.prog 178 ([]++[Value.agg (brC x ad' c').toArray]).toArray w' λe w''=>e=.returned (.bool false)∧St W w'' N:=by
   intro N w x ad' c' hs
   refine EN Tryz.func178 Tryz.ntmps178 rfl rfl λa ha=>?_
   refine BX 1 ha hs λb1 a w ha hs=>?_
   refine RT 3 ha hs ?_
   exact⟨rfl,hs.tail⟩
 simp only at hw hg hI hfr he hn h4 hR hne hl8 hpx hpid
 subst hpid
 replace hs:=MuS.open hs
 dsimp only at hs
 refine EN Tryz.func121 Tryz.ntmps121 rfl rfl λa ha=>?_
 refine CL 5 ha hs (plain_core (hs.pick (PlainS W B p s))) λa w ha hs=>?_
 replace hs:=PlainS.open hs
 refine CL 0 ha hs (core_queue (hs.pick (CoreS B.core s.k))) λa w ha hs=>?_
 obtain⟨D,hs,hD⟩:=CoreS.qu hs
 refine CL 0 ha hs (queue_front hs hne hl8) λa w ha hs=>?_
 refine RN 1 ha hs λa ha=>?_
 replace hs:=(PlainS.fold (hD _ _ hs) B p s)
 refine IF 8 ha hs (λhc0 a ha=>?_) λhc0 a ha=>?_
 ·
  have hff:front=frontK s.k:=by rw[frontK];omega
  refine RT 0 ha hs ?_
  exact⟨⟨s,A,T,J,ks,px.id,front⟩,t,rfl,⟨by rw[← hff,← hfr hff];exact hI,rfl,rfl,hff,rfl,by simp only;omega,rfl,rfl,by simp only;omega,rfl,.inl ⟨rfl,rfl,rfl⟩,λ_=>⟨rfl,rfl,rfl⟩⟩,MuS.fold hs ⟨mb,B,sq,r,tq,jq,adw,cw,adO,cO⟩ p ⟨s,A,T,J,ks,px.id,front⟩⟩
 refine RN 5 ha hs λa ha=>?_
 have hIc:=hI.cut (Store.facts (hs.store sq)).1 (λ_=>true)
 have hdr:=dropAll_room (T.l.filter λ_=>true) A
 have hTl:(T.cut λ_=>true).l=[]:=by simp[Tr.cut]
 have hTe:(T.cut λ_=>true).epoch≤T.epoch+1:=by simp only[Tr.cut];split <;> omega
 refine CLX 0 ha hs (tree_keep (kp:=λ_=>false) (ws:=[]) ((hs.store sq).tree tq) (by omega) (by kernel_rfl) (λN w' x ad' c' _ h1 _ _ _ _=>hF N w' x ad' c' h1)) ?_
 clear ha hs
 rintro e w ⟨⟨_,rfl⟩,hs⟩
 refine⟨_,rfl,λa ha=>?_⟩
 replace hs:St W w (Tree tq sq (T.cut λ_=>true)::Store sq r (A.dropAll (T.l.filter λ_=>true))::_):=hs
 generalize A.dropAll (T.l.filter λ_=>true)=A1 at hs hIc hdr
 have hT1:(T.cut λ_=>true).last=T.last∧(T.cut λ_=>true).most=T.most:=⟨rfl,rfl⟩
 generalize (T.cut λ_=>true)=T1 at hs hIc hTl hTe hT1
 obtain⟨i1,px1,hpx1,hpid1⟩:=hIc.pic (List.mem_cons_self ..)
 rw[← hpid1]at hs hIc
 refine RN 0 ha hs λa ha=>?_
 refine wp_seq_cut (M:=λa w=>∃ (A2:Sn) (T2:Tr) (ks2:List Kx),(A2.used+4≤A2.room∧Inv p (front:Int) g0 t px1.id A2 T2 (ks2.map (·.1))∧T2.l=[]∧T2.epoch≤T.epoch+2∧T2.last=T.last∧T2.most=T.most∧ks2.length=ks.length∧A2.room=A.room∧A2.n=A.n)∧Fr a 73 [(0,pt mb),(2,.int .i64 (frontL s.k.ls))]∧St W w (MuS W ⟨mb,B,sq,r,tq,jq,adw,cw,adO,cO⟩ p ⟨s,A2,T2,J,ks2,px1.id,front⟩::L)) ?_ ?_
 ·
  refine DWC 1 (λw0 w'=>Rd w' mb 0 (muC p ⟨mb,B,sq,r,tq,jq,adw,cw,adO,cO⟩ ks.length px1.id front)) [7,11,12,13] [0,1,2,4,5,6,8,9,10,3003,3007,1011,1012,1013,1014,15] ha hs λa w ha hs hH=>?_
  have hC:=hH.at w (hs.rdAll (b:=mb))
  refine RH 9 ha hs hH hC λa ha=>?_
  refine QH ha (λw hc=>ld1 ha (hc 3 _ rfl)) hC λa ha=>?_
  refine QH ha (λw hc=>ld1 ha (hc 3 _ rfl)) hC λa ha=>?_
  refine RH 0 ha hs hH hC λa ha=>?_
  refine SS ha (ld1 ha (hC 7 _ rfl)) λa ha=>?_
  refine RH 0 ha hs hH hC λa ha=>?_
  refine CL2 0 ha hs (snap_pages (hs.store sq) hpx1) λadp cp a w ha hs=>?_
  replace hC:=hH.at w (hs.rdAll (b:=mb))
  refine RH 1 ha hs hH hC λa ha=>?_
  refine CL 0 ha hs (snap_has (hs.store sq)) λa w ha hs=>?_
  refine RN 1 ha hs λa ha=>?_
  refine IF 0 ha hs (λhc1 a ha=>?_) λhc1 a ha=>?_
  ·
   replace hs:=MuS.fold hs ⟨mb,B,sq,r,tq,jq,adw,cw,adO,cO⟩ p ⟨s,A1,T1,J,ks,px1.id,front⟩
   refine CL2 1 ha hs (mu_rest hs hIc (by dsimp only;omega) h4) λA2 ks2 a w ha ⟨⟨hI2,hk2,hid2,hr2,hn2⟩,hs⟩=>?_
   refine RN 0 ha hs λa ha=>?_
   have hcl:(T1.cut λ_=>true).l=[]:=by simp[Tr.cut]
   have hce:(T1.cut λ_=>true).epoch≤T1.epoch+1:=by simp only[Tr.cut];split <;> omega
   have hu:=Store.used_le ((MuS.open hs).store sq)
   have hln:=hI2.len
   rw[heldW_none (λk hk=>by obtain⟨y,hy,rfl⟩:=List.mem_map.1 hk;exact hid2 y hy)]at hln
   simp only[hcl,List.length_nil]at hln hr2 hn2 hk2 hu
   exact⟨A2,T1.cut λ_=>true,ks2,⟨by rw[hr2,hdr.1];omega,hI2,hcl,by omega,hT1.1,hT1.2,hk2,by rw[hr2,hdr.1],by rw[hn2,hdr.2.1]⟩,ha.keep [0,2],hs.sub⟩
  refine RN 0 ha hs λa ha=>?_
  exact⟨A1,T1,ks,⟨by omega,hIc,hTl,by omega,hT1.1,hT1.2,rfl,hdr.1,hdr.2.1⟩,ha.keep [0,2],(MuS.fold hs ⟨mb,B,sq,r,tq,jq,adw,cw,adO,cO⟩ p ⟨s,A1,T1,J,ks,px1.id,front⟩).sub⟩
 clear ha;(try clear hs)
 rintro a w ⟨A2,T2,ks2,⟨hus,hI2,hT2,hE2,hL2,hM2,hk2,hr2,hn2⟩,ha,hs⟩
 refine RN 1 ha hs λa ha=>?_
 replace hs:=MuS.open hs
 dsimp only at hs
 refine DWC 0 (λw0 w'=>Rd w' mb 0 (muC p ⟨mb,B,sq,r,tq,jq,adw,cw,adO,cO⟩ ks2.length px1.id front)) [7,8] [0,1,2,4,5,6,3003,1007,1008,1009,10,11,12,13,14] ha hs λa w ha hs hH=>?_
 have hC:=hH.at w (hs.rdAll (b:=mb))
 refine RH 6 ha hs hH hC λa ha=>?_
 refine QH ha (λw hc=>ld1 ha (hc 3 _ rfl)) hC λa ha=>?_
 refine RH 0 ha hs hH hC λa ha=>?_
 refine SS ha (ld1 ha (hC 0 _ rfl)) λa ha=>?_
 refine RH 0 ha hs hH hC λa ha=>?_
 refine CL 0 ha hs (plain_game (hs.pick (PlainS W B p s))) λa w ha hs=>?_
 replace hC:=hH.at w (hs.rdAll (b:=mb))
 have hA2:=(Store.facts (hs.store sq)).1
 refine RH 0 ha hs hH hC λa ha=>?_
 refine CL1 0 ha hs (snap_make (g:=s.g) (hs.store sq) hus (by omega)) λt' a w ha ⟨⟨ht1,ht2⟩,hs⟩=>?_
 refine RN 5 ha hs λa ha=>?_
 refine RN 4 ha hs λa ha=>?_
 replace ha:=ha.isF 55
 refine DWC 2 (λw0 w'=>Rd w' mb 0 (muC p ⟨mb,B,sq,r,tq,jq,adw,cw,adO,cO⟩ ks2.length px1.id front)) [7] [0,1,2,4,5,6,3003,1007,1008] ha hs λa w ha hs hH=>?_
 have hC:=hH.at w (hs.rdAll (b:=mb))
 refine RH 6 ha hs hH hC λa ha=>?_
 refine QH ha (λw hc=>ld1 ha (hc 3 _ rfl)) hC λa ha=>?_
 refine RH 0 ha hs hH hC λa ha=>?_
 refine SS ha (ld1 ha (hC 7 _ rfl)) λa ha=>?_
 refine RH 0 ha hs hH hC λa ha=>?_
 refine CL1 0 ha hs (snap_dropId (hs.store sq)) λ_ a w ha hs=>?_
 refine ST 6 ha hs (λa w ha hs=>?_)
 refine ST 2 ha hs (λa w ha hs=>?_)
 refine RT 0 ha hs ?_
 have hm:=hI2.moved (F':=(frontK s.k:Int)) (g:=s.g) (t':=t') hA2 (by omega) hT2 hg
 have hd:=dropId_same (A2.add s.g t') px1.id
 exact⟨⟨s,(A2.add s.g t').dropId px1.id,T2,J,ks2,A2.last+1,frontL s.k.ls⟩,t',rfl,⟨hm,rfl,rfl,rfl,hd.1.trans hr2,by rw[hd.2.1];show A2.n+1≤A.n+1;omega,hL2,hM2,hE2,hk2,.inr hT2,λe=>(by have e2:front=frontL s.k.ls:=e;exfalso;omega)⟩,MuS.fold hs ⟨mb,B,sq,r,tq,jq,adw,cw,adO,cO⟩ p ⟨s,(A2.add s.g t').dropId px1.id,T2,J,ks2,A2.last+1,frontL s.k.ls⟩⟩
end
end
section
abbrev prx (xs:List BBx):List (List UInt8):=xs.map (·.2.2)
theorem prx_get {xs:List BBx}{i:Nat}{x:BBx}(h:xs[i]?=some x):(prx xs).getD i []=x.2.2:=by
 rw[List.getD_eq_getElem?_getD,List.getElem?_map,h];rfl
theorem prx_len (xs:List BBx):(prx xs).length=xs.length:=List.length_map _
theorem RdX.at {w:World}{ad:Option Addr}{xs:List BBx}(h:RdX w ad xs){i:Nat}(hi:i<xs.length):∃ b off x,ad=some ⟨b,off,none⟩∧xs[i]?=some x∧w.cell? ⟨b,off+i,none⟩=some (bbv x)∧RdB w x.1 x.2.2.length x.2.2:=by
 obtain⟨b,off,hb,hr⟩:=h.1 (by omega)
 have hx:xs[i]?=some xs[i]:=List.getElem?_eq_getElem hi
 exact⟨b,off,xs[i],hb,hx,hr i _ (by rw[List.getElem?_map,hx];rfl),h.2 _ (List.mem_of_getElem? hx)⟩
section
variable {W w:World}{L:List SP}{f cl:Nat}{adl:Option Addr}{xs:List BBx}
theorem ref_front (hs:St W w L)(h0:0<xs.length)(h8:xs.length≤8)(hp:∀ w',St W w' L→RdX w' adl xs) :
   Calls Tryz.prog 94 #[.slice adl xs.length cl] w λe w'=>e=.returned (.int .i64 (frontL (prx xs)))∧St W w' L:=by
 refine EN Tryz.func94 Tryz.ntmps94 rfl rfl λa ha=>?_
 refine RN 3 ha hs λa ha=>?_
 obtain⟨bl,ol,x0,rfl,hx0,hcx,hrx⟩:=(hp _ hs).at h0
 refine RN 3 ha hs λa ha=>?_
 refine SS ha (ld1 ha (hcx)) λa ha=>?_
 rw[bbv]at ha
 refine RN 5 ha hs λa ha=>?_
 rw[show ((x0.2.2.length:Nat):Int)=(frontN (prx xs) 1:Nat) from by rw[frontN_one,frontN,List.headD_eq_getD,prx_get hx0]]at ha
 refine wp_loop_ghost (λμ a w=>∃ (i:Nat),(μ=xs.length-i∧i≤xs.length∧1≤i)∧Fr a 25 [(0,.slice (some ⟨bl,ol,none⟩) xs.length cl),(3,.int .i64 (frontN (prx xs) i:Nat)),(4,.int .i64 i)]∧St W w L) (xs.length-1) (⟨1,⟨rfl,by omega,by omega⟩,ha.keep [0,3,4],hs⟩) ?_
 clear ha hs
 rintro μ a w ⟨i,⟨rfl,hi,hi1⟩,ha,hs⟩
 refine IF 6 ha hs (λhc0 a ha=>?_) λhc0 a ha=>?_
 ·
  obtain⟨_,_,x,hxe,hx,hcx,hrx⟩:=(hp _ hs).at (i:=i) (by omega)
  cases hxe
  refine RN 6 ha hs λa ha=>?_
  refine SS ha (ld1 ha (hcx)) λa ha=>?_
  rw[bbv]at ha
  refine RN 2 ha hs λa ha=>?_
  rw[show min ((frontN (prx xs) i:Nat):Int) ((x.2.2.length:Nat):Int)=((frontN (prx xs) (i+1):Nat):Int) from by rw[frontN,prx_get hx];omega]at ha
  refine RN 4 ha hs λa ha=>?_
  exact⟨xs.length-(i+1),by omega,i+1,⟨rfl,by omega,by omega⟩,ha.keep [0,3,4],hs⟩
 refine RT 3 ha hs ?_
 obtain rfl:i=xs.length:=by omega
 exact⟨by rw[frontL,prx_len],hs⟩
theorem ref_joint (hs:St W w L)(h0:0<xs.length)(h8:xs.length≤8)(hp:∀ w',St W w' L→RdX w' adl xs)(hf:f<frontL (prx xs)) :
   Calls Tryz.prog 133 #[.slice adl xs.length cl,.int .i64 f] w λe w'=>∃ ad' c',e=.returned (.slice ad' (jointL (prx xs) f).length c')∧St W w' (Sl 5 1 ad' (jointL (prx xs) f).length c' (bc (jointL (prx xs) f))::L):=by
 refine EN Tryz.func133 Tryz.ntmps133 rfl rfl λa ha=>?_
 refine RN 7 ha hs λa ha=>?_
 replace hs:=hs.sl0 5 1 none
 refine wp_loop_ghost (λμ a w=>∃ (i:Nat) (ad2:Option Addr) (c2:Nat),(μ=xs.length-i∧i≤xs.length)∧Fr a 25 [(0,.slice adl xs.length cl),(1,.int .i64 f),(5,.slice ad2 (jointN (prx xs) f i).length c2),(6,.int .i64 i)]∧St W w (Sl 5 1 ad2 (jointN (prx xs) f i).length c2 (bc (jointN (prx xs) f i))::L)) (xs.length) (⟨0,none,0,⟨rfl,by omega⟩,ha.keep [0,1,5,6],hs⟩) ?_
 clear ha hs
 rintro μ a w ⟨i,ad2,c2,⟨rfl,hi⟩,ha,hs⟩
 refine IF 6 ha hs (λhc0 a ha=>?_) λhc0 a ha=>?_
 ·
  obtain⟨bl,ol,x,rfl,hx,hcx,hrx⟩:=(hp _ hs.tail).at (i:=i) (by omega)
  have hfl:f<x.2.2.length:=by
    have h1:=frontL_le (ls:=prx xs) (l:=x.2.2) (List.mem_map.2 ⟨x,List.mem_of_getElem? hx,rfl⟩)
    omega
  obtain⟨bx,ox,hxe,hrl⟩:=hrx.get (by omega)
  have hjl:=jointN_len (ls:=prx xs) (f:=f) (i:=i) (by rw[prx_len];exact hi)
  refine RN 6 ha hs λa ha=>?_
  refine SS ha (ld1 ha (hcx)) λa ha=>?_
  rw[bbv,hxe]at ha
  refine RN 2 ha hs λa ha=>?_
  refine SS ha (ld1 ha (hrl f _ (bc_atD hfl))) λa ha=>?_
  refine RN 0 ha hs λa ha=>?_
  refine st_buildSlice ha rfl hs Tryz.underlying22 Ty.t5 rfl rfl rfl rfl (by decide) (by decide) λb22 a w ha hs ho=>?_
  clear ho
  refine RN 0 ha hs λa ha=>?_
  refine st_append ha rfl hs Tryz.underlying22 Ty.t5 rfl rfl hs.rdAll rfl (bc_one [x.2.2.getD f 0]) (by decide) (by decide) (by omega) λad23 c23 a w ha hs=>?_
  rw[show bc (jointN (prx xs) f i)++_=bc (jointN (prx xs) f (i+1)) from by rw[jointN_succ (by rw[prx_len];omega),List.getElem_map,bc_app,(List.getElem?_eq_some_iff.1 hx).2],show (jointN (prx xs) f i).length+1=(jointN (prx xs) f (i+1)).length from by rw[hjl,jointN_len (by rw[prx_len];omega)]]at hs
  rw[show (jointN (prx xs) f i).length+1=(jointN (prx xs) f (i+1)).length from by rw[hjl,jointN_len (by rw[prx_len];omega)]]at ha
  refine RN 4 ha hs λa ha=>?_
  exact⟨xs.length-(i+1),by omega,i+1,ad23,c23,⟨rfl,by omega⟩,ha.keep [0,1,5,6],hs.sub⟩
 refine RT 3 ha hs ?_
 obtain rfl:i=xs.length:=by omega
 have hj:jointN (prx xs) f xs.length=jointL (prx xs) f:=by
   conv=>lhs;rw[← prx_len xs]
   exact jointN_all _ _
 rw[hj]at hs ⊢
 exact⟨_,_,rfl,hs⟩
end
end
section
section
variable {W w:World}{Z:List SP}{n c i tq sq r nk base front:Nat}{ad:Option Addr}{M:MuB}{B:PlB}{y:UInt8}{x:Br}{p:Pr}{s:Pl}{T:Tr}
theorem mu_may (hs:St W w (blk M.mb 110 (muC p M nk base front)::PlainS W M.B p s::Z))(hw:WF' p s)(hx:RdZ W (blk M.mb 110 (muC p M nk base front)::PlainS W M.B p s::Z) ad x.press)
   (hf:x.frm=(front:Int)) (hj:∀ j∈x.press,j.length=s.k.n) (hb:front+x.press.length≤100000) :
   Calls Tryz.prog 123 #[pt M.mb,.agg (brC x ad c).toArray] w λe w'=>e=.returned (.bool (knP s.k.ls front x.press))∧St W w' (blk M.mb 110 (muC p M nk base front)::PlainS W M.B p s::Z):=by
 obtain⟨zs,hz,hx⟩:=hx
 have hne:=hw.wc.lne
 have hls:=hw.wc.ls
 have hn8:=hw.wc.n
 have hzl:zs.length=x.press.length:=by rw[← hz,List.length_map]
 refine EN Tryz.func123 Tryz.ntmps123 rfl rfl λa ha=>?_
 refine BX 1 ha hs λb3 a w ha hs=>?_
 refine CL 6 ha hs (plain_core (hs.pick (PlainS W M.B p s))) λa w ha hs=>?_
 replace hs:=PlainS.open hs
 refine CL 0 ha hs (core_queue (hs.pick (CoreS M.B.core s.k))) λa w ha hs=>?_
 refine RN 1 ha hs λa ha=>?_
 obtain⟨D,hs,hD⟩:=CoreS.qu hs
 have hxD:∀ w',St W w' (Qu M.B.core.qb M.B.core.lbs s.k.ls::D::blk M.B.pb 180 (plC p M.B s.g)::RoP W p M.B.adO M.B.cO::Sl 5 1 M.B.adT M.B.gs.table.length M.B.cT (bc M.B.gs.table)::blk M.mb 110 (muC p M nk base front)::Z)→RdX w' ad zs :=
   λw' h=>hx w' ((PlainS.fold (hD _ _ h) M.B p s).sub)
 refine RN 6 ha hs λa ha=>?_
 refine wp_loop_ghost (λμ a w=>∃ (i:Nat),(μ=x.press.length-i∧i≤x.press.length∧(∀ j,j<i→knB s.k.ls (front+j) (x.press.getD j [])=true))∧Fr a 59 [(0,pt M.mb),(3,pt b3),(5,pt M.B.core.qb),(19,.slice ad x.press.length c),(20,.int .i64 x.press.length),(21,.int .i64 i)]∧St W w (Qu M.B.core.qb M.B.core.lbs s.k.ls::D::blk b3 45 (brC x ad c)::blk M.B.pb 180 (plC p M.B s.g)::RoP W p M.B.adO M.B.cO::Sl 5 1 M.B.adT M.B.gs.table.length M.B.cT (bc M.B.gs.table)::blk M.mb 110 (muC p M nk base front)::Z)) (x.press.length) (⟨0,⟨rfl,by omega,λj h=>absurd h (by omega)⟩,ha.keep [0,3,5,19,20,21],hs.sub⟩) ?_
 clear ha hs
 rintro μ a w ⟨i,⟨rfl,hi,hkn⟩,ha,hs⟩
 refine IF 3 ha hs (λhc0 a ha=>?_) λhc0 a ha=>?_
 ·
  have hil:i<zs.length:=by omega
  obtain⟨bx,ox,z,hade,hzi,hcell,hrz⟩:=(hxD _ hs.sub).at hil
  have hzp:x.press.getD i []=z.2.2:=by rw[List.getD_eq_getElem?_getD,← hz,List.getElem?_map,hzi];rfl
  have hzn:z.2.2.length=s.k.n:=hj _ (by rw[← hz];exact List.mem_map.2 ⟨z,List.mem_of_getElem? hzi,rfl⟩)
  refine RN 3 ha hs λa ha=>?_
  rw[hade]at ha
  refine RN 1 ha hs λa ha=>?_
  refine SS ha (ld1 ha (hcell)) λa ha=>?_
  rw[← hade]at ha
  rw[bbv]at ha
  refine RN 6 ha hs λa ha=>?_
  refine wp_loop_ghost (λμ a w=>∃ (v:Nat),(μ=z.2.2.length-v∧v≤z.2.2.length∧(∀ q,q<v→front+i<(s.k.ls.getD q []).length→(s.k.ls.getD q []).getD (front+i) 0=z.2.2.getD q 0))∧Fr a 59 [(0,pt M.mb),(3,pt b3),(5,pt M.B.core.qb),(6,.int .i64 i),(19,.slice ad x.press.length c),(20,.int .i64 x.press.length),(21,.int .i64 i),(26,.slice z.1 z.2.2.length z.2.1),(27,.int .i64 z.2.2.length),(28,.int .i64 v)]∧St W w (Qu M.B.core.qb M.B.core.lbs s.k.ls::D::blk b3 45 (brC x ad c)::blk M.B.pb 180 (plC p M.B s.g)::RoP W p M.B.adO M.B.cO::Sl 5 1 M.B.adT M.B.gs.table.length M.B.cT (bc M.B.gs.table)::blk M.mb 110 (muC p M nk base front)::Z)) (z.2.2.length) (⟨0,⟨rfl,by omega,λj h=>absurd h (by omega)⟩,ha.keep [0,3,5,6,19,20,21,26,27,28],hs⟩) ?_
  clear ha hs
  rintro μ a w ⟨v,⟨rfl,hv,hkv⟩,ha,hs⟩
  refine IF 3 ha hs (λhc1 a ha=>?_) λhc1 a ha=>?_
  ·
   have hvl:v<z.2.2.length:=by omega
   have hvs:v<s.k.ls.length:=by omega
   obtain⟨bz,oz,hz1,hrv⟩:=((hxD _ hs.sub).2 z (List.mem_of_getElem? hzi)).get (by omega)
   refine RN 3 ha hs λa ha=>?_
   rw[hz1]at ha
   refine RN 1 ha hs λa ha=>?_
   refine SS ha (ld1 ha (hrv v _ (bc_atD hvl))) λa ha=>?_
   rw[← hz1]at ha
   refine DWC 3 (λw0 w'=>Rd w' b3 0 (brC x ad c)) [2] [0,1,3,5,3004,6,1002,1007,8,9,10,11,12] ha hs λa w ha hs hH=>?_
   have hC:=hH.at w (hs.rdAll (b:=b3))
   refine RH 4 ha hs hH hC λa ha=>?_
   refine QH ha (λw hc=>ld1 ha (hc 1 _ rfl)) hC λa ha=>?_
   refine RH 1 ha hs hH hC λa ha=>?_
   rw[hf,show ((front:Nat):Int)+(i:Int)=((front+i:Nat):Int) from rfl]at ha
   refine CL 0 ha hs (queue_line (hs.pick (Qu M.B.core.qb M.B.core.lbs s.k.ls)) hvs) λa w ha hs=>?_
   replace hC:=hH.at w (hs.rdAll (b:=b3))
   refine RH 0 ha hs hH hC λa ha=>?_
   refine CL 0 ha hs (q_at hs hvs) λa w ha hs=>?_
   refine RN 5 ha hs λa ha=>?_
   refine BY 3 ha hs (λhg1 a ha=>?_) λhg1 a ha=>?_
   ·
    refine IF 4 ha hs (λhc2 a ha=>?_) λhc2 a ha=>?_
    ·
     refine RT 2 ha hs ?_
     exact⟨by rw[knP_no (i:=i) (by omega) (by rw[hzp];exact knB_no hvl hg1 (λe=>hc2 (by rw[e])))],((PlainS.fold (hD _ _ hs) M.B p s).sub)⟩
    refine RN 2 ha hs λa ha=>?_
    refine⟨z.2.2.length-(v+1),by omega,v+1,⟨rfl,by omega,λq hq h1=>?_⟩,ha.keep [0,3,5,6,19,20,21,26,27,28],hs.sub⟩
    rcases (by omega:q<v∨q=v) with h | rfl
    · exact hkv q h h1
    · exact UInt8.toNat.inj (by omega)
   refine RN 7 ha hs λa ha=>?_
   refine⟨z.2.2.length-(v+1),by omega,v+1,⟨rfl,by omega,λq hq h1=>?_⟩,ha.keep [0,3,5,6,19,20,21,26,27,28],hs.sub⟩
   rcases (by omega:q<v∨q=v) with h | rfl
   · exact hkv q h h1
   · omega
  refine RN 2 ha hs λa ha=>?_
  refine⟨x.press.length-(i+1),by omega,i+1,⟨rfl,by omega,λj hj=>?_⟩,ha.keep [0,3,5,19,20,21],hs.sub⟩
  rcases (by omega:j<i∨j=i) with h | rfl
  · exact hkn j h
  · rw[hzp];exact knB_yes λq hq=>hkv q (by omega)
 refine DWO 1 [5] [0,2,3,4,3001,1005,6,7] ha hs λa w ha hs hH hC=>?_
 refine RH 8 ha hs hH hC λa ha=>?_
 refine RT 0 ha hs ?_
 exact⟨by rw[hf,decide_eq_true rfl,knP_yes λj hj=>hkn j (by omega)],((PlainS.fold (hD _ _ hs) M.B p s).sub)⟩
theorem mu_has {P:List (List UInt8)}(hs:St W w (blk M.mb 110 (muC p M nk base front)::Tree M.tq M.sq T::Z))(hx:RdZ W Z ad P)(hPl:P.length≤65536) :
   Calls Tryz.prog 184 #[pt M.mb,.slice ad P.length c] w λe w'=>∃ r:Bool,e=.returned (.bool r)∧(r=true→T.l≠[])∧St W w' (blk M.mb 110 (muC p M nk base front)::Tree M.tq M.sq T::Z):=by
 obtain⟨zs,hz,hx⟩:=hx
 have hzl:zs.length=P.length:=by rw[← hz,List.length_map]
 have hwt:=Tree.wt (hs.tree M.tq)
 have hTm:=hwt.most
 refine EN Tryz.func184 Tryz.ntmps184 rfl rfl λa ha=>?_
 refine CL2 8 ha hs (tree_all (hs.tree M.tq)) λadt ct a w ha hs=>?_
 obtain⟨xs,h1,h2,hs⟩:=OwnBr.open hs
 have hxl:xs.length=T.l.length:=by rw[← h1,List.length_map]
 refine RN 2 ha hs λa ha=>?_
 refine wp_loop_ghost (λμ a w=>∃ (i:Nat),(μ=T.l.length-i∧i≤T.l.length)∧Fr a 61 [(0,pt M.mb),(1,.slice ad P.length c),(14,.slice adt T.l.length ct),(15,.int .i64 T.l.length),(16,.int .i64 i)]∧St W w (Sl 45 5 adt T.l.length ct (rows brc xs)::All bro xs::Tree M.tq M.sq T::blk M.mb 110 (muC p M nk base front)::Z)) (T.l.length) (⟨0,⟨rfl,by omega⟩,ha.keep [0,1,14,15,16],hs.sub⟩) ?_
 clear ha hs
 rintro μ a w ⟨i,⟨hμ,hi⟩,ha,hs⟩
 refine IF 3 ha hs (λhc0 a ha=>?_) λhc0 a ha=>?_
 ·
  obtain⟨b',off',rfl,hrd⟩:=hs.slRd adt (by omega)
  obtain⟨⟨x,ax,cx⟩,hxx⟩:∃ y,xs[i]?=some y:=⟨_,List.getElem?_eq_getElem (by omega)⟩
  have hrk:=row_rd hrd hxx
  have hTx:T.l[i]?=some x:=by rw[← h1,List.getElem?_map,hxx];rfl
  have hox:=hwt.ok x (List.mem_of_getElem? hTx)
  have hxP:=hox.1.1
  have hTne:T.l≠[]:=λe=>by rw[e]at hTx;cases hTx
  refine RN 3 ha hs λa ha=>?_
  refine SS ha (ex_loadN ha Tryz.underlying45 rfl Ty.t45 (hrk)) λa ha=>?_
  refine AL 0 ha hs λb6 a w ha hs=>?_
  refine SA 0 ha hs λa w ha hs=>?_
  refine RN 6 ha hs λa ha=>?_
  refine wp_seq_cut (M:=λa w=>∃ q:Bool,(q=false→x.press.length≤P.length)∧Fr a 61 [(0,pt M.mb),(1,.slice ad P.length c),(6,pt b6),(7,.int .i64 x.press.length),(14,.slice (some ⟨b',off',none⟩) T.l.length ct),(15,.int .i64 T.l.length),(16,.int .i64 i),(38,.bool q)]∧St W w (blk b6 45 (brC x ax cx)::Sl 45 5 (some ⟨b',off',none⟩) T.l.length ct (rows brc xs)::All bro xs::Tree M.tq M.sq T::blk M.mb 110 (muC p M nk base front)::Z)) ?_ ?_
  ·
   refine BY 5 ha hs (λhg4 a ha=>?_) λhg4 a ha=>?_
   ·
    refine RN 11 ha hs λa ha=>?_
    exact⟨_,(λh=>by first | omega | cases h),ha.keep [0,1,6,7,14,15,16,38],hs.sub⟩
   refine BY 5 ha hs (λhg9 a ha=>?_) λhg9 a ha=>?_
   ·
    refine RN 6 ha hs λa ha=>?_
    exact⟨_,(λh=>by first | omega | cases h),ha.keep [0,1,6,7,14,15,16,38],hs.sub⟩
   refine RN 6 ha hs λa ha=>?_
   exact⟨_,(λh=>by first | omega | cases h),ha.keep [0,1,6,7,14,15,16,38],hs.sub⟩
  clear ha;(try clear hs)
  rintro a w ⟨q,hq,ha,hs⟩
  refine IF 0 ha hs (λhc1 a ha=>?_) λhc1 a ha=>?_
  ·
   refine RN 2 ha hs λa ha=>?_
   exact⟨T.l.length-(i+1),by omega,i+1,⟨rfl,by omega⟩,ha.keep [0,1,14,15,16],hs.sub⟩
  have hnl:=hq hc1
  refine RN 6 ha hs λa ha=>?_
  refine wp_loop_ghost (λμ a w=>∃ (v:Nat) (sm:Bool),(μ=x.press.length-v∧v≤x.press.length)∧Fr a 61 [(0,pt M.mb),(1,.slice ad P.length c),(6,pt b6),(7,.int .i64 x.press.length),(8,.bool sm),(14,.slice (some ⟨b',off',none⟩) T.l.length ct),(15,.int .i64 T.l.length),(16,.int .i64 i),(39,.int .i64 x.press.length),(40,.int .i64 v)]∧St W w (blk b6 45 (brC x ax cx)::Sl 45 5 (some ⟨b',off',none⟩) T.l.length ct (rows brc xs)::All bro xs::Tree M.tq M.sq T::blk M.mb 110 (muC p M nk base front)::Z)) (x.press.length) (⟨0,true,⟨rfl,by omega⟩,ha.keep [0,1,6,7,8,14,15,16,39,40],hs⟩) ?_
  clear ha hs
  rintro μ a w ⟨v,sm,⟨rfl,hv⟩,ha,hs⟩
  refine IF 3 ha hs (λhc2 a ha=>?_) λhc2 a ha=>?_
  ·
   have hvl:v<x.press.length:=by omega
   refine RN 4 ha hs λa ha=>?_
   obtain⟨b9,o9,hax,f9⟩:=(All.rdBB (hs.drew.pick (All bro xs)) hxx).1.2 (by omega)
   obtain⟨a8,c8,hc8,hr8⟩:=f9 v x.press[v] (List.getElem?_eq_getElem hvl)
   obtain⟨b7,o7,z,hade,hzi,hcell,hrz⟩:=(hx _ hs.drew.sub).at (i:=v) (by omega)
   clear f9
   refine DWG 0 (λw'=>(Rd w' b6 0 (brC x ax cx)∧w'.cell? ⟨b9,o9+v,none⟩=some (.slice a8 x.press[v].length c8)∧RdB w' a8 x.press[v].length x.press[v])∧(w'.cell? ⟨b7,o7+v,none⟩=some (bbv z)∧RdB w' z.1 z.2.2.length z.2.2)) [11,12] [0,1,2,4,8,9,10,3003,5,3006,3007,1011,1012,13,14,15] ha hs λa ha=>?_
   replace hs:=hs.drew
   generalize w.drew=w at hs hc8 hr8 hcell hrz ⊢
   have hC:(Rd w b6 0 (brC x ax cx)∧w.cell? ⟨b9,o9+v,none⟩=some (.slice a8 x.press[v].length c8)∧RdB w a8 x.press[v].length x.press[v])∧(w.cell? ⟨b7,o7+v,none⟩=some (bbv z)∧RdB w z.1 z.2.2.length z.2.2):=⟨⟨hs.rdAll (b:=b6),hc8,hr8⟩,hcell,hrz⟩
   have hH:=Hd.any (λw'=>(Rd w' b6 0 (brC x ax cx)∧w'.cell? ⟨b9,o9+v,none⟩=some (.slice a8 x.press[v].length c8)∧RdB w' a8 x.press[v].length x.press[v])∧(w'.cell? ⟨b7,o7+v,none⟩=some (bbv z)∧RdB w' z.1 z.2.2.length z.2.2))
   refine RH 2 ha hs hH hC λa ha=>?_
   refine ha.by (s:=44) (λhg1 ha=>?_) (λhg1 ha=>?_)
   ·
    refine RH 4 ha hs hH hC λa ha=>?_
    rw[hade]at ha
    refine RH 1 ha hs hH hC λa ha=>?_
    rw[← hade]at ha
    refine QH ha (λw hc=>ld1 ha (hc.1.1 2 _ rfl)) hC λa ha=>?_
    rw[hax]at ha
    refine RH 1 ha hs hH hC λa ha=>?_
    refine QH ha (λw hc=>ld1 ha (hc.1.2.1)) hC λa ha=>?_
    refine QH ha (λw hc=>ex_toString ha Tryz.underlying22 Tryz.underlying5 Tryz.underlying9 (hc.1.2.2)) hC λa ha=>?_
    refine RH 0 ha hs hH hC λa ha=>?_
    refine st_set ha (wgT ha rfl (s:=44)) (ld1 ha (hC.2.1)) rfl λa ha=>?_
    rw[bbv]at ha
    refine RH 0 ha hs hH hC λa ha=>?_
    refine st_set ha (wgT ha rfl (s:=44)) (ex_toString ha Tryz.underlying22 Tryz.underlying5 Tryz.underlying9 (hC.2.2)) rfl λa ha=>?_
    refine RH 0 ha hs hH hC λa ha=>?_
    refine QP ha (λw=>ex_eqlS ha) λa ha=>?_
    refine RH 2 ha hs hH hC λa ha=>?_
    refine RN 2 ha hs λa ha=>?_
    exact⟨x.press.length-(v+1),by omega,v+1,_,⟨rfl,by omega⟩,ha.keep [0,1,6,7,8,14,15,16,39,40],hs.sub⟩
   refine RH 14 ha hs hH hC λa ha=>?_
   refine RN 2 ha hs λa ha=>?_
   exact⟨x.press.length-(v+1),by omega,v+1,_,⟨rfl,by omega⟩,ha.keep [0,1,6,7,8,14,15,16,39,40],hs.sub⟩
  refine IF 2 ha hs (λhc3 a ha=>?_) λhc3 a ha=>?_
  ·
   refine RT 2 ha hs ?_
   exact⟨_,rfl,λ_=>hTne,hs.sub⟩
  refine RN 2 ha hs λa ha=>?_
  exact⟨T.l.length-(i+1),by omega,i+1,⟨rfl,by omega⟩,ha.keep [0,1,14,15,16],hs.sub⟩
 refine RT 2 ha hs ?_
 exact⟨_,rfl,(λh=>by cases h),hs.sub⟩
end
end
end Go.Proofs.YtdilfdkendjjhaaGreat
