/- The walks of package worker. -/
import Derived.Test.YtdilfdkendjjhaaGreatA13Vm
import Derived.Test.YtdilfdkendjjhaaGreatA11Job
import Derived.Test.YtdilfdkendjjhaaGreatA10Branch2
namespace Go.Proofs.YtdilfdkendjjhaaGreat
open Go.RowKit
set_option linter.unusedVariables false
set_option linter.unusedSimpArgs false
set_option maxRecDepth 10000
set_option synthInstance.maxSize 4000
set_option synthInstance.maxHeartbeats 400000
section
abbrev wkC (p:Pr)(adO:Option Addr)(cO tq jq sq:Nat)(k:Wk):List Value :=
 [.string p.title,.slice adO p.ops.length cO,pt tq,pt jq,pt sq,.bool k.busy,.int .i64 k.jb,.int .i64 k.je,.int .i64 k.x,.int .i64 k.done,.bool k.played]
section
variable {W w:World}{L:List SP}{tq jq sq r wb i kk cO:Nat}{adO:Option Addr}{A:Sn}{T:Tr}{J:Js}{k:Wk}{p:Pr}{x:Br}{px:Pic}
theorem busy_spec (hs:St W w (blk wb 188 (wkC p adO cO tq jq sq k)::L)) :
   Calls Tryz.prog 191 #[pt wb] w λe w'=>e=.returned (.bool k.busy)∧St W w' (blk wb 188 (wkC p adO cO tq jq sq k)::L):=by
 refine EN Tryz.func191 Tryz.ntmps191 rfl rfl λa ha=>?_
 refine RN 6 ha hs λa ha=>?_
 replace ha:=ha.isT 5
 refine RT 6 ha hs ?_
 exact⟨rfl,hs⟩
theorem rest_busy (hs:St W w (blk wb 188 (wkC p adO cO tq jq sq k)::Store sq r A::L))(hb:k.busy=true) :
   Calls Tryz.prog 128 #[pt wb] w λe w'=>e=.returned (.bool true)∧St W w' (blk wb 188 (wkC p adO cO tq jq sq { k with busy:=false })::Store sq r (A.dropId k.x)::L):=by
 refine EN Tryz.func128 Tryz.ntmps128 rfl rfl λa ha=>?_
 refine CL 5 ha hs (busy_spec hs) λa w ha hs=>?_
 rw[hb]at ha
 refine RN 1 ha hs λa ha=>?_
 replace ha:=ha.isF 5
 refine DWO 2 [7] [0,1,2,4,5,6,3003,1007,1008] ha hs λa w ha hs hH hC=>?_
 refine RH 8 ha hs hH hC λa ha=>?_
 refine CL1 0 ha hs (snap_dropId (hs.store sq)) λv a w ha hs=>?_
 refine ST 4 ha hs (λa w ha hs=>?_) (hlt:=(by simp[wkC]))
 change St W w (blk wb 188 (wkC p adO cO tq jq sq { k with busy:=false })::_) at hs
 refine RT 2 ha hs ?_
 exact⟨rfl,hs.sub⟩
theorem rest_idle (hs:St W w (blk wb 188 (wkC p adO cO tq jq sq k)::L))(hb:k.busy=false) :
   Calls Tryz.prog 128 #[pt wb] w λe w'=>e=.returned (.bool false)∧St W w' (blk wb 188 (wkC p adO cO tq jq sq k)::L):=by
 refine EN Tryz.func128 Tryz.ntmps128 rfl rfl λa ha=>?_
 refine CL 5 ha hs (busy_spec hs) λa w ha hs=>?_
 rw[hb]at ha
 refine RN 1 ha hs λa ha=>?_
 replace ha:=ha.isT 5
 refine RT 3 ha hs ?_
 exact⟨rfl,hs⟩
theorem tree_get_any {id:Int}(hs:St W w (Tree tq sq T::L)) :
   Calls Tryz.prog 126 #[pt tq,.int .i64 id] w λe w'=>∃ (x:Br) (ad:Option Addr) (c:Nat) (ok:Bool),e=.returned (.tuple #[.agg (brC x ad c).toArray,.bool ok])∧((ok=true∧x∈T.l∧(x.id:Int)=id)∨(ok=false∧∀ y∈T.l,(y.id:Int)≠id)) ∧
     St W w' (OwnBB ad x.press.length c x.press::Tree tq sq T::L):=by
 by_cases h:∃ x∈T.l,(x.id:Int)=id
 · obtain⟨x,hx,rfl⟩:=h
   obtain⟨k,hk⟩:=List.mem_iff_getElem?.1 hx
   exact (tree_get hs hk).mono λe w' ⟨ad,c,h1,hs⟩=>⟨x,ad,c,true,h1,.inl ⟨rfl,hx,rfl⟩,hs⟩
 · have hn:∀ y∈T.l,(y.id:Int)≠id:=λy hy e=>h ⟨y,hy,e⟩
   exact (tree_get_no hs hn).mono λe w' ⟨h1,hs⟩=>⟨⟨0,0,[],0,0⟩,none,0,false,h1,.inr ⟨rfl,hn⟩,OwnBB.nil hs⟩
theorem snap_fork_id {id:Nat}(hs:St W w (Store sq r A::L))(hx:A.pics[i]?=some px)(hid:px.id=id)(hb:A.n+1<1099511627776) :
   Calls Tryz.prog 189 #[pt sq,.int .i64 id] w λe w'=>e=.returned (.tuple #[.int .i64 ((A.last+1:Nat):Int),.bool true])∧St W w' (Store sq r (A.add px.g px.p)::L):=by
 subst hid;exact snap_fork hs hx hb
theorem publish_try {d:Nat}{id:Nat}(hs:St W w (Tree tq sq T::Store sq r A::L))(hx:T.l[kk]?=some x)(hd2:d≤x.press.length)(hp:A.pics[i]?=some px)(hid:px.id=id) :
   Calls Tryz.prog 193 #[pt tq,.int .i64 x.id,.int .i64 d,.int .i64 id] w λe w'=>e=.returned (.bool (decide (x.done<d))) ∧
     ((x.done<d∧St W w' (Tree tq sq (T.pub kk x d id)::Store sq r (A.dropId x.snap)::L))∨(d≤x.done∧St W w' (Tree tq sq T::Store sq r A::L))):=by
 subst hid
 by_cases h:x.done<d
 · exact (publish_ok hs hx h hd2 hp).mono λe w' ⟨h1,hs⟩=>⟨by rw[h1,decide_eq_true h],.inl ⟨h,hs⟩⟩
 · exact (publish_no (d:=(d:Int)) (i:=i) (px:=px) hs hx (.inl (by omega))).mono λe w' ⟨h1,hs⟩=>⟨by rw[h1,decide_eq_false h],.inr ⟨by omega,hs⟩⟩
theorem dropId_set {A:Sn}{i:Nat}{px:Pic}{g:Nat→Int}{p':Nat→Nat}(hA:WF A)(hB:WF { A with pics:=A.pics.set i ⟨px.id,px.refs,g,p'⟩ })(hi:A.pics[i]?=some px)(hr:px.refs=1) :
   ({ A with pics:=A.pics.set i ⟨px.id,px.refs,g,p'⟩ }:Sn).dropId px.id=A.dropId px.id:=by
 have hl:=(List.getElem?_eq_some_iff.1 hi).1
 rw[dropId_some hA hi,dropId_some (px:=⟨px.id,px.refs,g,p'⟩) hB (i:=i) (by simp[hl])]
 simp[Sn.drop,hr,List.eraseIdx_set_eq]
theorem take_bit (hs:St W w (blk wb 188 (wkC p adO cO tq jq sq k)::Tree tq sq T::Store sq r A::Jobs jq J::L))(hb:k.busy=false)(hbr:∀ x∈T.l,∃ (i:Nat) (px:Pic),A.pics[i]?=some px∧px.id=x.snap)(hn:A.n+1<1099511627776) :
   Calls Tryz.prog 125 #[pt wb] w λe w'=>∃ (z:Bool) (A':Sn) (J':Js) (k':Wk),e=.returned (.bool z)∧Bit p A T J k z A' T J' k' ∧
     St W w' (blk wb 188 (wkC p adO cO tq jq sq k')::Tree tq sq T::Store sq r A'::Jobs jq J'::L):=by
 refine EN Tryz.func125 Tryz.ntmps125 rfl rfl λa ha=>?_
 refine CL 7 ha hs (take_any (hs.jobs jq)) λa w ha hs=>?_
 refine AL 3 ha hs λb3 a w ha hs=>?_
 refine SA 0 ha hs λa w ha hs=>?_
 refine IF 5 ha hs (λhc0 a ha=>?_) λhc0 a ha=>?_
 ·
  obtain rfl:J=[]:=by simpa using hc0
  change St W w (blk b3 186 [.int .i64 0,.int .i64 0]::Jobs jq []::_) at hs
  refine RT 2 ha hs ?_
  exact⟨false,A,[],k,rfl,.idle hb rfl,hs.sub⟩
 obtain⟨j,J',rfl⟩:∃ j J',J=j::J':=by
   cases J with
   | nil=>simp at hc0
   | cons j J'=>exact⟨j,J',rfl⟩
 change St W w (blk b3 186 [.int .i64 j.1,.int .i64 j.2]::Jobs jq J'::_) at hs
 replace ha:=ha.keep [0,3]
 clear hc0
 refine RN 0 ha hs λa ha=>?_
 refine wp_seq_cut (M:=λa w=>∃ (b5:Nat) (x:Br) (ad:Option Addr) (c:Nat) (ok:Bool),((ok=true∧x∈T.l∧(x.id:Int)=j.1)∨(ok=false∧∀ y∈T.l,(y.id:Int)≠j.1))∧Fr a 85 [(0,pt wb),(3,pt b3),(5,pt b5),(6,.bool ok)]∧St W w (blk b5 45 (brC x ad c)::blk b3 186 [.int .i64 j.1,.int .i64 j.2]::Jobs jq J'::blk wb 188 (wkC p adO cO tq jq sq k)::Tree tq sq T::Store sq r A::L)) ?_ ?_
 ·
  refine DWC 0 (λw0 w'=>Rd w' wb 0 (wkC p adO cO tq jq sq k)∧Rd w' b3 0 [.int .i64 j.1,.int .i64 j.2]) [5,10] [0,1,2,4,3003,3005,2006,7,8,9,1010,1011,12] ha hs λa w ha hs hH=>?_
  have hC:=hH.at w (And.intro hs.rdAll hs.rdAll)
  refine RH 4 ha hs hH hC λa ha=>?_
  refine QH ha (λw hc=>ld1 ha (hc.1 2 _ rfl)) hC λa ha=>?_
  refine QH ha (λw hc=>ld1 ha (hc.2 0 _ rfl)) hC λa ha=>?_
  refine RH 0 ha hs hH hC λa ha=>?_
  refine DN [(6,[7,8,9,1010,1011,12]),(10,[1006,7,8,9,1011,12])] (by kernel_rfl) rfl ⟨⟨_,rfl,?_⟩,⟨_,rfl,?_⟩,trivial⟩
  ·
   refine RH 0 ha hs hH hC λa ha=>?_
   refine CLX 0 ha hs (tree_get_any (id:=j.1) (hs.tree tq)) ?_
   clear ha hs
   rintro e w ⟨x,ad,c,ok,rfl,hok,hs⟩
   refine⟨_,rfl,λa ha=>?_⟩
   refine RN 3 ha hs λa ha=>?_
   refine st_alloc ha rfl hs Ty.t45 rfl λb5 a w ha hs ho=>?_
   clear ho
   replace hC:=hH.at w (And.intro hs.rdAll hs.rdAll)
   refine RH 0 ha hs hH hC λa ha=>?_
   refine SA 0 ha hs λa w ha hs=>?_
   refine RN 1 ha hs λa ha=>?_
   exact⟨_,x,ad,c,ok,hok,ha.keep [0,3,5,6],hs.sub⟩
  refine RH 0 ha hs hH hC λa ha=>?_
  refine st_alloc ha rfl hs Ty.t45 rfl λb5 a w ha hs ho=>?_
  clear ho
  replace hC:=hH.at w (And.intro hs.rdAll hs.rdAll)
  refine RH 0 ha hs hH hC λa ha=>?_
  refine CLX 0 ha hs (tree_get_any (id:=j.1) (hs.tree tq)) ?_
  clear ha hs
  rintro e w ⟨x,ad,c,ok,rfl,hok,hs⟩
  refine⟨_,rfl,λa ha=>?_⟩
  refine SA 3 ha hs λa w ha hs=>?_
  refine RN 1 ha hs λa ha=>?_
  exact⟨_,x,ad,c,ok,hok,ha.keep [0,3,5,6],hs.sub⟩
 clear ha;(try clear hs)
 rintro a w ⟨b5,x,ad,c,ok,hok,ha,hs⟩
 refine DWC 2 (λw0 w'=>Rd w' wb 0 (wkC p adO cO tq jq sq k)∧Rd w' b3 0 [.int .i64 j.1,.int .i64 j.2]∧Rd w' b5 0 (brC x ad c)) [5,6,16,17] [0,2,3,4,3001,1005,1006,7,8,9,10,11,12,13,15,3014,1016,1017,18,19] ha hs λa w ha hs hH=>?_
 have hC:=hH.at w ⟨hs.rdAll,hs.rdAll,hs.rdAll⟩
 refine RH 4 ha hs hH hC λa ha=>?_
 refine QH ha (λw hc=>ld1 ha (hc.2.1 1 _ rfl)) hC λa ha=>?_
 refine RH 1 ha hs hH hC λa ha=>?_
 refine CL 0 ha hs (tree_epoch (hs.tree tq)) λa w ha hs=>?_
 replace hC:=hH.at w ⟨hs.rdAll,hs.rdAll,hs.rdAll⟩
 refine RH 2 ha hs hH hC λa ha=>?_
 refine ha.by (s:=36) (λhg8 ha=>?_) (λhg8 ha=>?_)
 ·
  refine RH 11 ha hs hH hC λa ha=>?_
  refine RT 3 ha hs ?_
  exact⟨true,A,J',k,rfl,.stale hb rfl (.inl hg8),hs.sub⟩
 refine RH 4 ha hs hH hC λa ha=>?_
 refine ha.by (s:=40) (λhg12 ha=>?_) (λhg12 ha=>?_)
 ·
  have hno:∀ y∈T.l,(y.id:Int)≠j.1:=by
    rcases hok with ⟨h,_⟩ | ⟨_,h⟩
    · rw[h]at hg12;cases hg12
    · exact h
  refine RH 7 ha hs hH hC λa ha=>?_
  refine RT 3 ha hs ?_
  exact⟨true,A,J',k,rfl,.stale hb rfl (.inr (.inl hno)),hs.sub⟩
 obtain⟨hx,hid⟩:x∈T.l∧(x.id:Int)=j.1:=by
   rcases hok with ⟨_,h⟩ | ⟨h,_⟩
   · exact h
   · rw[h]at hg12;cases hg12
 refine RH 2 ha hs hH hC λa ha=>?_
 refine QH ha (λw hc=>ld1 ha (hc.2.2 3 _ rfl)) hC λa ha=>?_
 refine RH 0 ha hs hH hC λa ha=>?_
 refine st_set ha (wgT ha rfl (s:=40)) (ld1 ha (hC.2.2 2 _ rfl)) rfl λa ha=>?_
 refine RH 3 ha hs hH hC λa ha=>?_
 refine IF 0 ha hs (λhc1 a ha=>?_) λhc1 a ha=>?_
 ·
  refine RT 2 ha hs ?_
  exact⟨true,A,J',k,rfl,.stale hb rfl (.inr (.inr ⟨x,hx,hid,by omega⟩)),hs.sub⟩
 refine RN 1 ha hs λa ha=>?_
 obtain⟨i,px,hpx,hpid⟩:=hbr x hx
 refine DWC 0 (λw0 w'=>Rd w' wb 0 (wkC p adO cO tq jq sq k)∧Rd w' b5 0 (brC x ad c)) [5] [0,1,2,4,3003,1005,1006,7,8,9,10,11] ha hs λa w ha hs hH=>?_
 have hC:=hH.at w ⟨hs.rdAll,hs.rdAll⟩
 refine RH 4 ha hs hH hC λa ha=>?_
 refine QH ha (λw hc=>ld1 ha (hc.1 4 _ rfl)) hC λa ha=>?_
 refine RH 0 ha hs hH hC λa ha=>?_
 refine SS ha (ld1 ha (hC.2 4 _ rfl)) λa ha=>?_
 refine RH 0 ha hs hH hC λa ha=>?_
 refine CL 0 ha hs (snap_fork_id (hs.store sq) hpx hpid hn) λa w ha hs=>?_
 refine RN 5 ha hs λa ha=>?_
 refine RN 4 ha hs λa ha=>?_
 replace ha:=ha.isF 59
 refine DWC 2 (λw0 w'=>Rd w' b3 0 [.int .i64 j.1,.int .i64 j.2]∧Rd w' b5 0 (brC x ad c)) [8,11,12,13,14,15,16,17] [0,1,2,3,4,6,7,9,10,3005,3008,1011,1012,1013,1014,1015,1016,1017,18,19,1020,21,22,1023] ha hs λa w ha hs hH=>?_
 have hC:=hH.at w ⟨hs.rdAll,hs.rdAll⟩
 refine RH 9 ha hs hH hC λa ha=>?_
 refine QH ha (λw hc=>ex_loadN ha Tryz.underlying186 rfl Ty.t186 (hc.1)) hC λa ha=>?_
 refine QH ha (λw hc=>ld1 ha (hc.2 3 _ rfl)) hC λa ha=>?_
 refine RH 0 ha hs hH hC λa ha=>?_
 refine ST 0 ha hs (λa w ha hs=>?_) (hlt:=(by simp[wkC]))
 replace hC:=hH.at w ⟨hs.rdAll,hs.rdAll⟩
 refine RH 2 ha hs hH hC λa ha=>?_
 refine st_storeN ha rfl hs Ty.t186 (by simp[Value.oneCell']) (by simp[wkC]) λa w ha hs=>?_
 replace hC:=hH.at w ⟨hs.rdAll,hs.rdAll⟩
 refine RH 2 ha hs hH hC λa ha=>?_
 refine ST 0 ha hs (λa w ha hs=>?_) (hlt:=(by simp[wkC,splice]))
 replace hC:=hH.at w ⟨hs.rdAll,hs.rdAll⟩
 refine RH 2 ha hs hH hC λa ha=>?_
 refine ST 0 ha hs (λa w ha hs=>?_) (hlt:=(by simp[wkC,splice]))
 refine ST 2 ha hs (λa w ha hs=>?_) (hlt:=(by simp[wkC,splice]))
 refine RN 0 ha hs λa ha=>?_
 change St W w (blk wb 188 (wkC p adO cO tq jq sq ⟨true,j.1,j.2,A.last+1,x.done,false⟩)::_) at hs
 refine RT 2 ha hs ?_
 exact⟨true,A.add px.g px.p,J',⟨true,j.1,j.2,A.last+1,x.done,false⟩,rfl,.took hb rfl hg8 hx hid (by omega) hpx hpid,hs.sub⟩
theorem play_bit {ad:Option Addr}{c:Nat}(hs:St W w (blk wb 188 (wkC p adO cO tq jq sq k)::OwnBB ad x.press.length c x.press::Tree tq sq T::Store sq r A::Jobs jq J::RoP W p adO cO::L))
   (hb:k.busy=true) (he:k.je=T.epoch) (hx:x∈T.l) (hid:(x.id:Int)=k.jb) (hpl:k.played=false) (hi:A.pics[i]?=some px) (hpi:px.id=k.x) (hr:px.refs=1) (hg:gOk px.g) (hd:k.done<x.press.length) (hf:0≤x.frm∧x.frm≤1099511627776)
   (hpr:prOk p) (hsz:p.title.size≤1000000000) (hJ:J.length≤16) :
   Calls Tryz.prog 129 #[pt wb,.agg (brC x ad c).toArray] w λe w'=>∃ (A':Sn) (J':Js) (k':Wk),e=.returned (.tuple #[])∧Bit p A T J k true A' T J' k' ∧
     St W w' (blk wb 188 (wkC p adO cO tq jq sq k')::Tree tq sq T::Store sq r A'::Jobs jq J'::RoP W p adO cO::L):=by
 have hwt:=Tree.wt (hs.tree tq)
 have hA:=(Store.facts (hs.store sq)).1
 have hOk:=(hwt.ok x hx).1
 have hil:=(List.getElem?_eq_some_iff.1 hi).1
 have hdl:x.press.length≤65536:=hOk.1
 refine EN Tryz.func129 Tryz.ntmps129 rfl rfl λa ha=>?_
 refine BX 1 ha hs λb3 a w ha hs=>?_
 change St W w (blk b3 45 (brC x ad c)::_) at hs
 refine DWO 1 [7] [0,1,2,4,5,6,3003,1007,8,1009,10] ha hs λa w ha hs hH hC=>?_
 refine RH 9 ha hs hH hC λa ha=>?_
 refine st_box ha rfl hs rfl λb14 a w ha hs ho=>?_
 replace hC:=hC.trans ho
 clear ho
 change St W w (blk b14 278 [pt sq,.int .i64 k.x,.bool false]::_) at hs
 refine RH 1 ha hs hH hC λa ha=>?_
 refine RN 1 ha hs λa ha=>?_
 obtain⟨zs,hz,hzl,hs⟩:=OwnBB.open (hs.pick (OwnBB ad x.press.length c x.press))
 obtain⟨bb,oo,rfl,hrd⟩:=hs.drew.slRd ad (by omega)
 have hzn:zs.length=x.press.length:=by rw[← hz,List.length_map]
 have hzk:zs[k.done]?=some (zs[k.done]'(by omega)):=List.getElem?_eq_getElem (by omega)
 have hpk2:x.press[k.done]?=some (zs[k.done]'(by omega)).2.2:=by rw[← hz,List.getElem?_map,hzk];rfl
 have hcell:=hrd k.done _ (by rw[List.getElem?_map,hzk];rfl)
 have hwk:Rd w.drew wb 0 (wkC p adO cO tq jq sq k):=hs.drew.rdAll
 have hwp:Rd w.drew wb 0 (prV p adO cO):=hwk.part 0 2
 have hwb:Rd w.drew b3 0 (brC x (some ⟨bb,oo,none⟩) c):=hs.drew.rdAll
 have hwl:(zs[k.done]'(by omega)).2.2.length≤1099511627776:=hOk.2 _ (List.mem_of_getElem? hpk2)
 refine DWG 0 (λw'=>Rd w' wb 0 (wkC p adO cO tq jq sq k)∧Rd w' wb 0 (prV p adO cO)∧Rd w' b3 0 (brC x (some ⟨bb,oo,none⟩) c)∧w'.cell? ⟨bb,oo+k.done,none⟩=some (bbv (zs[k.done]'(by omega)))) [5,7,11,12,14,18,19,20] [0,1,2,4,6,8,9,10,13,15,16,17,3003,3007,3011,3012,3014,3018,3019,3020,1005,1021] ha hs λa ha=>?_
 replace hs:=hs.drew
 generalize w.drew=w at hs hcell hwk hwp hwb ⊢
 have hC:=And.intro hwk (And.intro hwp (And.intro hwb hcell))
 have hH:=Hd.any (λw'=>Rd w' wb 0 (wkC p adO cO tq jq sq k)∧Rd w' wb 0 (prV p adO cO)∧Rd w' b3 0 (brC x (some ⟨bb,oo,none⟩) c)∧w'.cell? ⟨bb,oo+k.done,none⟩=some (bbv (zs[k.done]'(by omega))))
 refine RH 12 ha hs hH hC λa ha=>?_
 refine QH ha (λw hc=>ex_loadN ha Tryz.underlying34 rfl Ty.t34 (hc.2.1)) hC λa ha=>?_
 refine QH ha (λw hc=>ld1 ha (hc.2.2.1 1 _ rfl)) hC λa ha=>?_
 refine QH ha (λw hc=>ld1 ha (hc.1 9 _ rfl)) hC λa ha=>?_
 refine RH 1 ha hs hH hC λa ha=>?_
 refine QH ha (λw hc=>ld1 ha (hc.2.2.1 2 _ rfl)) hC λa ha=>?_
 refine QH ha (λw hc=>ld1 ha (hc.1 9 _ rfl)) hC λa ha=>?_
 refine RH 1 ha hs hH hC λa ha=>?_
 refine QH ha (λw hc=>ld1 ha (hc.2.2.2)) hC λa ha=>?_
 refine RH 1 ha hs hH hC λa ha=>?_
 have hs2:St W w (Store sq r { A with pics:=A.pics.set i ⟨px.id,px.refs,px.g,px.p⟩ }::blk b14 278 [pt sq,.int .i64 k.x,.bool false]::RoP W p adO cO::Sl 22 1 (some ⟨bb,oo,none⟩) x.press.length c (zs.map bbv)::All bbo zs::blk wb 188 (wkC p adO cO tq jq sq k)::blk b3 45 (brC x (some ⟨bb,oo,none⟩) c)::Tree tq sq T::Jobs jq J::L):=by
   rw[show ({ A with pics:=A.pics.set i ⟨px.id,px.refs,px.g,px.p⟩ }:Sn)=A from by rw[← set_same hi]]
   exact hs.sub
 rw[← hpi]at hs2
 have hs3:=Jw.close (i:=i) (A:=A) (px:=px) (g:=px.g) (bad:=false) (p':=px.p) (hs2.sub (M:=blk b14 278 [pt sq,.int .i64 px.id,.bool false]::Store sq r { A with pics:=A.pics.set i ⟨px.id,px.refs,px.g,px.p⟩ }::RoP W p adO cO::Sl 22 1 (some ⟨bb,oo,none⟩) x.press.length c (zs.map bbv)::All bbo zs::blk wb 188 (wkC p adO cO tq jq sq k)::blk b3 45 (brC x (some ⟨bb,oo,none⟩) c)::Tree tq sq T::Jobs jq J::L)) hg (λh=>by cases h)
 refine CL3 0 ha hs (run_spec (M:=cells_mem (W:=W) (q:=sq) (r:=r) (bc:=b14) (A:=A) (px:=px) (i:=i) hil) hs3 hpr hsz hwl (λw' h=>(St.rdX (h.sub (M:=Sl 22 1 (some ⟨bb,oo,none⟩) x.press.length c (zs.map bbv)::All bbo zs::[]))).2 _ (List.getElem_mem _))) λg2 bad2 n2 a w ha ⟨hgb,hs⟩=>?_
 obtain⟨p2,⟨hg2,hbad2⟩,hs⟩:=Jw.open hs
 have hA2:=(Store.facts (hs.store sq)).1
 refine RN 0 ha hs λa ha=>?_
 refine IF 6 ha hs (λhc0 a ha=>?_) λhc0 a ha=>?_
 ·
  refine CL 2 ha hs (rest_busy (L:=Tree tq sq T::Jobs jq J::RoP W p adO cO::L) (hs.sub (M:=blk wb 188 (wkC p adO cO tq jq sq k)::Store sq r { A with pics:=A.pics.set i ⟨px.id,px.refs,g2,p2⟩ }::Tree tq sq T::Jobs jq J::RoP W p adO cO::L)) hb) λa w ha hs=>?_
  refine RN 0 ha hs λa ha=>?_
  have hwp2:Rd w wb 6 [.int .i64 k.jb,.int .i64 k.je]:=(hs.rdAll (b:=wb)).part 6 2
  refine DWC 1 (λw0 w'=>Rd w' wb 0 (wkC p adO cO tq jq sq { k with busy:=false })∧Rd w' wb 6 [.int .i64 k.jb,.int .i64 k.je]) [7] [0,1,2,4,5,6,3003,1007,1008] ha hs λa w ha hs hH=>?_
  replace hwp2:Rd w wb 6 [.int .i64 k.jb,.int .i64 k.je]:=(hs.rdAll (b:=wb)).part 6 2
  have hC:=hH.at w ⟨hs.rdAll,hwp2⟩
  refine RH 6 ha hs hH hC λa ha=>?_
  refine QH ha (λw hc=>ld1 ha (hc.1 3 _ rfl)) hC λa ha=>?_
  refine RH 0 ha hs hH hC λa ha=>?_
  refine SS ha (ex_loadN ha Tryz.underlying186 rfl Ty.t186 (hC.2)) λa ha=>?_
  refine RH 0 ha hs hH hC λa ha=>?_
  refine CL 0 ha hs (put_spec (hs.jobs jq) hJ) λa w ha hs=>?_
  change St W w (Jobs jq (putJ J k.jb k.je)::_) at hs
  refine RT 0 ha hs ?_
  refine⟨A.dropId k.x,putJ J k.jb k.je,{ k with busy:=false },rfl,.failed hb he hx hid hpl (hbad2 hc0),?_⟩
  rw[← hpi,dropId_set hA hA2 hi hr] at *
  exact hs.sub
 refine ST 3 ha hs (λa w ha hs=>?_) (hlt:=(by simp[wkC]))
 change St W w (blk wb 188 (wkC p adO cO tq jq sq { k with played:=true })::_) at hs
 refine RT 0 ha hs ?_
 obtain⟨_,hge⟩:=hgb hc0
 subst hge
 exact⟨_,J,{ k with played:=true },rfl,.played (p':=p2) hb he hx hid hpl hi hpi hpk2 hg2,hs.sub⟩
theorem publish_bit {ad:Option Addr}{c:Nat}(hs:St W w (blk wb 188 (wkC p adO cO tq jq sq k)::Tree tq sq T::Store sq r A::Jobs jq J::L))
   (hb:k.busy=true) (he:k.je=T.epoch) (hx:T.l[kk]?=some x) (hid:(x.id:Int)=k.jb) (hpl:k.played=true) (hi:A.pics[i]?=some px) (hpi:px.id=k.x) (hd:k.done<x.press.length) (hJ:J.length≤16) :
   Calls Tryz.prog 130 #[pt wb,.agg (brC x ad c).toArray] w λe w'=>∃ (A':Sn) (T':Tr) (J':Js) (k':Wk),e=.returned (.tuple #[])∧Bit p A T J k true A' T' J' k' ∧
     St W w' (blk wb 188 (wkC p adO cO tq jq sq k')::Tree tq sq T'::Store sq r A'::Jobs jq J'::L):=by
 have hwt:=Tree.wt (hs.tree tq)
 have hxm:=List.mem_of_getElem? hx
 have hkl:=(List.getElem?_eq_some_iff.1 hx).1
 have hOk:=(hwt.ok x hxm).1
 have hdl:x.press.length≤65536:=hOk.1
 refine EN Tryz.func130 Tryz.ntmps130 rfl rfl λa ha=>?_
 refine BX 1 ha hs λb3 a w ha hs=>?_
 change St W w (blk b3 45 (brC x ad c)::_) at hs
 refine DWC 2 (λw0 w'=>Rd w' wb 0 (wkC p adO cO tq jq sq k)∧Rd w' b3 0 (brC x ad c)) [5,9,10,14] [0,1,2,4,6,7,8,11,12,13,3003,3005,3009,3010,1014,1015] ha hs λa w ha hs hH=>?_
 have hC:=hH.at w ⟨hs.rdAll,hs.rdAll⟩
 refine RH 10 ha hs hH hC λa ha=>?_
 refine QH ha (λw hc=>ld1 ha (hc.1 2 _ rfl)) hC λa ha=>?_
 refine QH ha (λw hc=>ld1 ha (hc.2 0 _ rfl)) hC λa ha=>?_
 refine QH ha (λw hc=>ld1 ha (hc.1 9 _ rfl)) hC λa ha=>?_
 refine RH 1 ha hs hH hC λa ha=>?_
 refine SS ha (ld1 ha (hC.1 8 _ rfl)) λa ha=>?_
 refine RH 0 ha hs hH hC λa ha=>?_
 refine CL 0 ha hs (publish_try (kk:=kk) (d:=k.done+1) (L:=blk wb 188 (wkC p adO cO tq jq sq k)::blk b3 45 (brC x ad c)::Jobs jq J::L) (hs.sub (M:=Tree tq sq T::Store sq r A::blk wb 188 (wkC p adO cO tq jq sq k)::blk b3 45 (brC x ad c)::Jobs jq J::L)) hx (by omega) hi hpi) λa w ha hpub=>?_
 refine RN 0 ha (St.start _) λa ha=>?_
 refine IFR 0 ha (St.start _) (λhc0 a ha=>?_) λhc0 a ha=>?_
 ·
  have hlt:x.done<k.done+1:=by simpa using hc0
  replace hs:=(hpub.resolve_right (λh=>by omega)).2
  refine ST 3 ha hs (λa w ha hs=>?_) (hlt:=(by simp[wkC]))
  change St W w (blk wb 188 (wkC p adO cO tq jq sq { k with busy:=false })::_) at hs
  refine CL 2 ha hs (rest_idle (k:={ k with busy:=false }) hs rfl) λa w ha hs=>?_
  refine RN 0 ha hs λa ha=>?_
  refine wp_seq_cut (M:=λa w=>∃ (b4:Nat) (ad2:Option Addr) (c2:Nat),Fr a 55 [(0,pt wb),(4,pt b4),(5,.bool true)]∧St W w (blk b4 45 (brC { x with done:=k.done+1,snap:=k.x } ad2 c2)::blk wb 188 (wkC p adO cO tq jq sq { k with busy:=false })::Tree tq sq (T.pub kk x (k.done+1) k.x)::Store sq r (A.dropId x.snap)::Jobs jq J::L)) ?_ ?_
  ·
   refine DWC 0 (λw0 w'=>Rd w' wb 0 (wkC p adO cO tq jq sq { k with busy:=false })∧Rd w' b3 0 (brC x ad c)) [5,10] [0,1,2,4,3003,3005,2006,7,8,9,1010,1011,12] ha hs λa w ha hs hH=>?_
   have hC:=hH.at w ⟨hs.rdAll,hs.rdAll⟩
   refine RH 4 ha hs hH hC λa ha=>?_
   refine QH ha (λw hc=>ld1 ha (hc.1 2 _ rfl)) hC λa ha=>?_
   refine QH ha (λw hc=>ld1 ha (hc.2 0 _ rfl)) hC λa ha=>?_
   refine RH 0 ha hs hH hC λa ha=>?_
   refine DN [(6,[7,8,9,1010,1011,12]),(10,[1006,7,8,9,1011,12])] (by kernel_rfl) rfl ⟨⟨_,rfl,?_⟩,⟨_,rfl,?_⟩,trivial⟩
   ·
    refine RH 0 ha hs hH hC λa ha=>?_
    refine CL2 0 ha hs (tree_get (x:={ x with done:=k.done+1,snap:=k.x }) (k:=kk) (hs.tree tq) (by simp[Tr.pub,hkl])) λad2 c2 a w ha hs=>?_
    refine RN 3 ha hs λa ha=>?_
    refine st_alloc ha rfl hs Ty.t45 rfl λb4 a w ha hs ho=>?_
    clear ho
    replace hC:=hH.at w (And.intro hs.rdAll hs.rdAll)
    refine RH 0 ha hs hH hC λa ha=>?_
    refine SA 0 ha hs λa w ha hs=>?_
    refine RN 1 ha hs λa ha=>?_
    exact⟨_,ad2,c2,ha.keep [0,4,5],hs.sub⟩
   refine RH 0 ha hs hH hC λa ha=>?_
   refine st_alloc ha rfl hs Ty.t45 rfl λb4 a w ha hs ho=>?_
   clear ho
   replace hC:=hH.at w (And.intro hs.rdAll hs.rdAll)
   refine RH 0 ha hs hH hC λa ha=>?_
   refine CL2 0 ha hs (tree_get (x:={ x with done:=k.done+1,snap:=k.x }) (k:=kk) (hs.tree tq) (by simp[Tr.pub,hkl])) λad2 c2 a w ha hs=>?_
   refine SA 3 ha hs λa w ha hs=>?_
   refine RN 1 ha hs λa ha=>?_
   exact⟨_,ad2,c2,ha.keep [0,4,5],hs.sub⟩
  clear ha;(try clear hs)
  rintro a w ⟨b4,ad2,c2,ha,hs⟩
  refine RN 3 ha hs λa ha=>?_
  replace ha:=ha.isT 38
  refine IF 7 ha hs (λhc1 a ha=>?_) λhc1 a ha=>?_
  ·
   replace hc1:((k.done+1:Nat):Int)<((x.press.length:Nat):Int):=hc1
   refine DWC 0 (λw0 w'=>Rd w' wb 0 (wkC p adO cO tq jq sq { k with busy:=false })∧Rd w' wb 6 [.int .i64 k.jb,.int .i64 k.je]) [7] [0,1,2,4,5,6,3003,1007,1008] ha hs λa w ha hs hH=>?_
   have hwp2:Rd w wb 6 [.int .i64 k.jb,.int .i64 k.je]:=(hs.rdAll (b:=wb)).part 6 2
   have hC:=hH.at w ⟨hs.rdAll,hwp2⟩
   refine RH 6 ha hs hH hC λa ha=>?_
   refine QH ha (λw hc=>ld1 ha (hc.1 3 _ rfl)) hC λa ha=>?_
   refine RH 0 ha hs hH hC λa ha=>?_
   refine SS ha (ex_loadN ha Tryz.underlying186 rfl Ty.t186 (hC.2)) λa ha=>?_
   refine RH 0 ha hs hH hC λa ha=>?_
   refine CL 0 ha hs (put_spec (hs.jobs jq) hJ) λa w ha hs=>?_
   change St W w (Jobs jq (putJ J k.jb k.je)::_) at hs
   refine RT 0 ha hs ?_
   refine⟨_,_,if k.done+1<x.press.length then putJ J k.jb k.je else J,{ k with busy:=false },rfl,.pub (x:=x) (kk:=kk) hb he hx hid hpl hlt (by omega),?_⟩
   rw[if_pos (by omega)]
   exact hs.sub
  replace hc1:((x.press.length:Nat):Int)≤((k.done+1:Nat):Int):=hc1
  refine RT 0 ha hs ?_
  refine⟨_,_,if k.done+1<x.press.length then putJ J k.jb k.je else J,{ k with busy:=false },rfl,.pub (x:=x) (kk:=kk) hb he hx hid hpl hlt (by omega),?_⟩
  rw[if_neg (by omega)]
  exact hs.sub
 have hlt:k.done+1≤x.done:=by
   have:=of_decide_eq_false hc0
   omega
 replace hs:=(hpub.resolve_left (λh=>by omega)).2
 refine CL 2 ha hs (rest_busy (L:=blk b3 45 (brC x ad c)::Tree tq sq T::Jobs jq J::L) (hs.sub (M:=blk wb 188 (wkC p adO cO tq jq sq k)::Store sq r A::blk b3 45 (brC x ad c)::Tree tq sq T::Jobs jq J::L)) hb) λa w ha hs=>?_
 refine RN 0 ha hs λa ha=>?_
 refine wp_seq_cut (M:=λa w=>∃ (b4:Nat) (ad2:Option Addr) (c2:Nat),Fr a 55 [(0,pt wb),(4,pt b4),(5,.bool true)]∧St W w (blk b4 45 (brC x ad2 c2)::blk wb 188 (wkC p adO cO tq jq sq { k with busy:=false })::Tree tq sq T::Store sq r (A.dropId k.x)::Jobs jq J::L)) ?_ ?_
 ·
  refine DWC 0 (λw0 w'=>Rd w' wb 0 (wkC p adO cO tq jq sq { k with busy:=false })∧Rd w' b3 0 (brC x ad c)) [5,10] [0,1,2,4,3003,3005,2006,7,8,9,1010,1011,12] ha hs λa w ha hs hH=>?_
  have hC:=hH.at w ⟨hs.rdAll,hs.rdAll⟩
  refine RH 4 ha hs hH hC λa ha=>?_
  refine QH ha (λw hc=>ld1 ha (hc.1 2 _ rfl)) hC λa ha=>?_
  refine QH ha (λw hc=>ld1 ha (hc.2 0 _ rfl)) hC λa ha=>?_
  refine RH 0 ha hs hH hC λa ha=>?_
  refine DN [(6,[7,8,9,1010,1011,12]),(10,[1006,7,8,9,1011,12])] (by kernel_rfl) rfl ⟨⟨_,rfl,?_⟩,⟨_,rfl,?_⟩,trivial⟩
  ·
   refine RH 0 ha hs hH hC λa ha=>?_
   refine CL2 0 ha hs (tree_get (x:=x) (k:=kk) (hs.tree tq) hx) λad2 c2 a w ha hs=>?_
   refine RN 3 ha hs λa ha=>?_
   refine st_alloc ha rfl hs Ty.t45 rfl λb4 a w ha hs ho=>?_
   clear ho
   replace hC:=hH.at w (And.intro hs.rdAll hs.rdAll)
   refine RH 0 ha hs hH hC λa ha=>?_
   refine SA 0 ha hs λa w ha hs=>?_
   refine RN 1 ha hs λa ha=>?_
   exact⟨_,ad2,c2,ha.keep [0,4,5],hs.sub⟩
  refine RH 0 ha hs hH hC λa ha=>?_
  refine st_alloc ha rfl hs Ty.t45 rfl λb4 a w ha hs ho=>?_
  clear ho
  replace hC:=hH.at w (And.intro hs.rdAll hs.rdAll)
  refine RH 0 ha hs hH hC λa ha=>?_
  refine CL2 0 ha hs (tree_get (x:=x) (k:=kk) (hs.tree tq) hx) λad2 c2 a w ha hs=>?_
  refine SA 3 ha hs λa w ha hs=>?_
  refine RN 1 ha hs λa ha=>?_
  exact⟨_,ad2,c2,ha.keep [0,4,5],hs.sub⟩
 clear ha;(try clear hs)
 rintro a w ⟨b4,ad2,c2,ha,hs⟩
 refine RN 3 ha hs λa ha=>?_
 replace ha:=ha.isT 38
 refine IF 7 ha hs (λhc1 a ha=>?_) λhc1 a ha=>?_
 ·
  refine DWC 0 (λw0 w'=>Rd w' wb 0 (wkC p adO cO tq jq sq { k with busy:=false })∧Rd w' wb 6 [.int .i64 k.jb,.int .i64 k.je]) [7] [0,1,2,4,5,6,3003,1007,1008] ha hs λa w ha hs hH=>?_
  have hwp2:Rd w wb 6 [.int .i64 k.jb,.int .i64 k.je]:=(hs.rdAll (b:=wb)).part 6 2
  have hC:=hH.at w ⟨hs.rdAll,hwp2⟩
  refine RH 6 ha hs hH hC λa ha=>?_
  refine QH ha (λw hc=>ld1 ha (hc.1 3 _ rfl)) hC λa ha=>?_
  refine RH 0 ha hs hH hC λa ha=>?_
  refine SS ha (ex_loadN ha Tryz.underlying186 rfl Ty.t186 (hC.2)) λa ha=>?_
  refine RH 0 ha hs hH hC λa ha=>?_
  refine CL 0 ha hs (put_spec (hs.jobs jq) hJ) λa w ha hs=>?_
  change St W w (Jobs jq (putJ J k.jb k.je)::_) at hs
  refine RT 0 ha hs ?_
  refine⟨_,_,if x.done<x.press.length then putJ J k.jb k.je else J,{ k with busy:=false },rfl,.lost (x:=x) hb he hxm hid hpl hlt,?_⟩
  rw[if_pos (by omega)]
  exact hs.sub
 refine RT 0 ha hs ?_
 refine⟨_,_,if x.done<x.press.length then putJ J k.jb k.je else J,{ k with busy:=false },rfl,.lost (x:=x) hb he hxm hid hpl hlt,?_⟩
 rw[if_neg (by omega)]
 exact hs.sub
structure Ready (p:Pr)(A:Sn)(T:Tr)(J:Js)(k:Wk):Prop where
 pr:prOk p
 sz:p.title.size≤1000000000
 frm:∀ y∈T.l,0≤y.frm∧y.frm≤1099511627776
 br:∀ x∈T.l,∃ (i:Nat) (px:Pic),A.pics[i]?=some px∧px.id=x.snap
 wk:k.busy=true→(∃ (i:Nat) (px:Pic),A.pics[i]?=some px∧px.id=k.x∧px.refs=1∧gOk px.g)∧∀ y∈T.l,(y.id:Int)=k.jb→k.done<y.press.length
 n:A.n+1<1099511627776
 len:J.length≤16
theorem Inv.ready {F:Int}{g0:Nat→Int}{t:Nat→Nat}{base:Nat}{ws:List Wk}(h:Inv p F g0 t base A T ws)(hk:k∈ws)(hF:0≤F∧F≤1099511627776)(hp:prOk p)(hz:p.title.size≤1000000000)(hn:A.n+1<1099511627776)(hJ:J.length≤16):Ready p A T J k :=
 ⟨hp,hz,λy hy=>by rw[(h.brs y hy).1];exact hF,λx hx=>h.ofBr hx,λhb=>⟨by
   obtain⟨i,px,h1,h2⟩:=h.ofWk hk hb
   have h3:=h.pics px (List.mem_of_getElem? h1)
   exact⟨i,px,h1,h2,h3.1,h3.2⟩,λy hy he=>((h.wks k hk).2 hb y hy he).1⟩,hn,hJ⟩
theorem step_bit (hs:St W w (blk wb 188 (wkC p adO cO tq jq sq k)::Tree tq sq T::Store sq r A::Jobs jq J::RoP W p adO cO::L))(hr:Ready p A T J k) :
   Calls Tryz.prog 57 #[pt wb] w λe w'=>∃ (z:Bool) (A':Sn) (T':Tr) (J':Js) (k':Wk),e=.returned (.bool z)∧Bit p A T J k z A' T' J' k' ∧
     St W w' (blk wb 188 (wkC p adO cO tq jq sq k')::Tree tq sq T'::Store sq r A'::Jobs jq J'::RoP W p adO cO::L):=by
 refine EN Tryz.func57 Tryz.ntmps57 rfl rfl λa ha=>?_
 refine RN 6 ha hs λa ha=>?_
 replace ha:=ha.isF 6
 refine IF 8 ha hs (λhc1 a ha=>?_) λhc1 a ha=>?_
 ·
  refine CLX 2 ha hs (take_bit (p:=p) hs hc1 hr.br hr.n) ?_
  clear ha hs
  rintro e w ⟨z,A',J',k',rfl,hbit,hs⟩
  refine⟨_,rfl,λa ha=>?_⟩
  refine RT 1 ha hs ?_
  exact⟨z,A',T,J',k',rfl,hbit,hs⟩
 obtain⟨⟨i,px,hpx,hpid,hpr,hpg⟩,hdn⟩:=hr.wk hc1
 refine RN 0 ha hs λa ha=>?_
 refine wp_seq_cut (M:=λa w=>∃ (b3:Nat) (x:Br) (ad:Option Addr) (c:Nat) (ok:Bool),((ok=true∧x∈T.l∧(x.id:Int)=k.jb)∨(ok=false∧∀ y∈T.l,(y.id:Int)≠k.jb))∧Fr a 57 [(0,pt wb),(3,pt b3),(4,.bool ok)]∧St W w (blk b3 45 (brC x ad c)::OwnBB ad x.press.length c x.press::blk wb 188 (wkC p adO cO tq jq sq k)::Tree tq sq T::Store sq r A::Jobs jq J::RoP W p adO cO::L)) ?_ ?_
 ·
  refine DWC 0 (λw0 w'=>Rd w' wb 0 (wkC p adO cO tq jq sq k)) [8,13] [0,1,2,4,5,6,7,3003,3008,2009,10,11,12,1013,1014,15] ha hs λa w ha hs hH=>?_
  have hC:=hH.at w hs.rdAll
  refine RH 7 ha hs hH hC λa ha=>?_
  refine QH ha (λw hc=>ld1 ha (hc 2 _ rfl)) hC λa ha=>?_
  refine QH ha (λw hc=>ld1 ha (hc 6 _ rfl)) hC λa ha=>?_
  refine RH 0 ha hs hH hC λa ha=>?_
  refine DN [(9,[10,11,12,1013,1014,15]),(13,[1009,10,11,12,1014,15])] (by kernel_rfl) rfl ⟨⟨_,rfl,?_⟩,⟨_,rfl,?_⟩,trivial⟩
  ·
   refine RH 0 ha hs hH hC λa ha=>?_
   refine CLX 0 ha hs (tree_get_any (id:=k.jb) (hs.tree tq)) ?_
   clear ha hs
   rintro e w ⟨x,ad,c,ok,rfl,hok,hs⟩
   refine⟨_,rfl,λa ha=>?_⟩
   refine RN 3 ha hs λa ha=>?_
   refine st_alloc ha rfl hs Ty.t45 rfl λb3 a w ha hs ho=>?_
   clear ho
   replace hC:=hH.at w hs.rdAll
   refine RH 0 ha hs hH hC λa ha=>?_
   refine SA 0 ha hs λa w ha hs=>?_
   refine RN 1 ha hs λa ha=>?_
   exact⟨_,x,ad,c,ok,hok,ha.keep [0,3,4],hs.sub⟩
  refine RH 0 ha hs hH hC λa ha=>?_
  refine st_alloc ha rfl hs Ty.t45 rfl λb3 a w ha hs ho=>?_
  clear ho
  replace hC:=hH.at w hs.rdAll
  refine RH 0 ha hs hH hC λa ha=>?_
  refine CLX 0 ha hs (tree_get_any (id:=k.jb) (hs.tree tq)) ?_
  clear ha hs
  rintro e w ⟨x,ad,c,ok,rfl,hok,hs⟩
  refine⟨_,rfl,λa ha=>?_⟩
  refine SA 3 ha hs λa w ha hs=>?_
  refine RN 1 ha hs λa ha=>?_
  exact⟨_,x,ad,c,ok,hok,ha.keep [0,3,4],hs.sub⟩
 clear ha;(try clear hs)
 rintro a w ⟨b3,x,ad,c,ok,hok,ha,hs⟩
 refine DWC 2 (λw0 w'=>Rd w' wb 0 (wkC p adO cO tq jq sq k)) [8,9] [0,1,2,3,5,6,7,3004,1008,1009,10,11,12,13,14,15] ha hs λa w ha hs hH=>?_
 have hC:=hH.at w hs.rdAll
 refine RH 7 ha hs hH hC λa ha=>?_
 refine QH ha (λw hc=>ld1 ha (hc 7 _ rfl)) hC λa ha=>?_
 refine RH 0 ha hs hH hC λa ha=>?_
 refine SS ha (ld1 ha (hC 2 _ rfl)) λa ha=>?_
 refine RH 0 ha hs hH hC λa ha=>?_
 refine CL 0 ha hs (tree_epoch (hs.tree tq)) λa w ha hs=>?_
 replace hC:=hH.at w hs.rdAll
 refine RH 2 ha hs hH hC λa ha=>?_
 refine ha.by (s:=42) (λhg11 ha=>?_) (λhg11 ha=>?_)
 ·
  refine RH 4 ha hs hH hC λa ha=>?_
  refine CL 2 ha hs (rest_busy (L:=Tree tq sq T::Jobs jq J::RoP W p adO cO::L) (hs.sub (M:=blk wb 188 (wkC p adO cO tq jq sq k)::Store sq r A::Tree tq sq T::Jobs jq J::RoP W p adO cO::L)) hc1) λa w ha hs=>?_
  refine RT 2 ha hs ?_
  exact⟨true,A.dropId k.x,T,J,{ k with busy:=false },rfl,.gone hc1 (.inl hg11),hs.sub⟩
 refine RH 4 ha hs hH hC λa ha=>?_
 refine IF 0 ha hs (λhc2 a ha=>?_) λhc2 a ha=>?_
 ·
  have hno:∀ y∈T.l,(y.id:Int)≠k.jb:=by
    rcases hok with ⟨h,_⟩ | ⟨_,h⟩
    · rw[h]at hc2;cases hc2
    · exact h
  refine CL 1 ha hs (rest_busy (L:=Tree tq sq T::Jobs jq J::RoP W p adO cO::L) (hs.sub (M:=blk wb 188 (wkC p adO cO tq jq sq k)::Store sq r A::Tree tq sq T::Jobs jq J::RoP W p adO cO::L)) hc1) λa w ha hs=>?_
  refine RT 2 ha hs ?_
  exact⟨true,A.dropId k.x,T,J,{ k with busy:=false },rfl,.gone hc1 (.inr hno),hs.sub⟩
 obtain⟨hx,hid⟩:x∈T.l∧(x.id:Int)=k.jb:=by
   rcases hok with ⟨_,h⟩ | ⟨h,_⟩
   · exact h
   · rw[h]at hc2;cases hc2
 refine IF 7 ha hs (λhc3 a ha=>?_) λhc3 a ha=>?_
 ·
  refine CL3 2 ha hs (play_bit (hs.sub (M:=blk wb 188 (wkC p adO cO tq jq sq k)::OwnBB ad x.press.length c x.press::Tree tq sq T::Store sq r A::Jobs jq J::RoP W p adO cO::L)) hc1 hg11 hx hid hc3 hpx hpid hpr hpg (hdn x hx hid) (hr.frm x hx) hr.pr hr.sz hr.len) λA' J' k' a w ha ⟨hbit,hs⟩=>?_
  refine RT 2 ha hs ?_
  exact⟨true,A',T,J',k',rfl,hbit,hs⟩
 obtain⟨kk,hkk⟩:=List.mem_iff_getElem?.1 hx
 refine CLX 2 ha hs (publish_bit (p:=p) (L:=RoP W p adO cO::L) (hs.sub (M:=blk wb 188 (wkC p adO cO tq jq sq k)::Tree tq sq T::Store sq r A::Jobs jq J::RoP W p adO cO::L)) hc1 hg11 hkk hid hc3 hpx hpid (hdn x hx hid) hr.len) ?_
 clear ha hs
 rintro e w ⟨A',T',J',k',rfl,hbit,hs⟩
 refine⟨_,rfl,λa ha=>?_⟩
 refine RT 2 ha hs ?_
 exact⟨true,A',T',J',k',rfl,hbit,hs⟩
end
end
section
theorem getB_in {s:ByteArray}{j:Nat}(h:j<s.size):s.get! j=s[j]'h:=by
 have h2:j<s.data.size:=h
 show s.data[j]! = s.data[j]
 rw[getElem!_pos s.data j h2]
theorem getB_out {s:ByteArray}{j:Nat}(h:s.size≤j):s.get! j=0:=by
 have h2:¬ j<s.data.size:=Nat.not_lt.2 h
 show s.data[j]! = 0
 rw[getElem!_neg s.data j h2];rfl
theorem size_ext (s:ByteArray)(p:Nat):(s.extract p s.size).size=s.size-p:=by simp[ByteArray.size_extract]
theorem getB_ext (s:ByteArray)(p k:Nat):(s.extract p s.size).get! k=s.get! (p+k):=by
 by_cases h:p+k<s.size
 · have h2:k<(s.extract p s.size).size:=by rw[size_ext];omega
   rw[getB_in h2,getB_in h,ByteArray.getElem_extract]
 · rw[getB_out (by rw[size_ext];omega),getB_out (by omega)]
theorem decode_ext (s:ByteArray)(p:Nat):Utf8.decode (s.extract p s.size) 0=Utf8.decode s p:=by
 have hc:∀ k,decide (k<s.size-p)=decide (p+k<s.size):=λk=>by
   by_cases h:p+k<s.size
   · rw[decide_eq_true h,decide_eq_true (by omega)]
   · rw[decide_eq_false h,decide_eq_false (by omega)]
 simp only[Utf8.decode,getB_ext,size_ext,hc,Nat.zero_add,Nat.add_assoc]
theorem ext_ext (s:ByteArray)(p n:Nat):(s.extract p s.size).extract n (s.extract p s.size).size=s.extract (p+n) s.size:=by
 rw[size_ext,ByteArray.extract_extract]
 congr 1
 omega
def decHead (b n low r:Nat):Prop:=(b=192+r∧r<32∧n=2∧low=128)∨(b=224+r∧r<16∧n=3∧low=2048)∨(b=240+r∧r<8∧n=4∧low=65536)
def byteN (s:ByteArray)(j:Nat):Nat:=(s.get! j).toNat
def contN (s:ByteArray)(r:Nat):Nat→Nat
 | 0=>r
 | j+1=>contN s r j*64+byteN s (j+1)%64
theorem byteN_lt (s:ByteArray)(j:Nat):byteN s j<256:=(s.get! j).toNat_lt
theorem contN_lt {s:ByteArray}{r:Nat}(h:r<32):∀ j,contN s r j<32*64 ^ j
 | 0=>by simpa [contN] using h
 | j+1=>by
   have:=contN_lt (s:=s) h j
   rw[contN,Nat.pow_succ];omega
def badN (low r:Nat):Prop:=r<low∨1114111<r∨(55296≤r∧r<57344)
section
variable {s:ByteArray}{b n low r:Nat}
theorem dec_one (hb:byteN s 0=b)(h:b<128):Utf8.decode s 0=(b,1):=by
 simp only[byteN]at hb
 simp[Utf8.decode,hb,h]
theorem dec_none (hb:byteN s 0=b)(h1:128≤b)(h2:b<192∨248≤b):Utf8.decode s 0=(0xFFFD,1):=by
 have:=byteN_lt s 0
 simp only[byteN]at hb this
 have e1:¬ b<128:=by omega
 have e2:(b/32==6)=false:=by rw[beq_eq_false_iff_ne];omega
 have e3:(b/16==14)=false:=by rw[beq_eq_false_iff_ne];omega
 have e4:(b/8==30)=false:=by rw[beq_eq_false_iff_ne];omega
 simp[Utf8.decode,hb,e1,e2,e3,e4,Utf8.runeError]
theorem dec_fail (hb:byteN s 0=b)(hd:decHead b n low r)(h:s.size<n∨∃ k,1≤k∧k<n∧byteN s k/64≠2):Utf8.decode s 0=(0xFFFD,1):=by
 have hc:∃ k,1≤k∧k<n∧(decide (k<s.size)&&byteN s k/64==2)=false:=by
   rcases h with h | ⟨k,h1,h2,h3⟩
   · rcases Nat.eq_zero_or_pos s.size with h0 | h0
     · exact⟨1,by omega,by rcases hd with h | h | h <;> omega,by rw[decide_eq_false (by omega),Bool.false_and]⟩
     · exact⟨s.size,by omega,h,by rw[decide_eq_false (by omega),Bool.false_and]⟩
   · exact⟨k,h1,h2,by rw[beq_eq_false_iff_ne.2 h3,Bool.and_false]⟩
 obtain⟨k,h1,h2,h3⟩:=hc
 simp only[byteN]at hb h3
 rcases hd with ⟨rfl,h4,rfl,rfl⟩ | ⟨rfl,h4,rfl,rfl⟩ | ⟨rfl,h4,rfl,rfl⟩
 · have e1:¬ 192+r<128:=by omega
   have e2:((192+r)/32==6)=true:=by rw[beq_iff_eq];omega
   have e3:((192+r)/16==14)=false:=by rw[beq_eq_false_iff_ne];omega
   have e4:((192+r)/8==30)=false:=by rw[beq_eq_false_iff_ne];omega
   obtain rfl:k=1:=by omega
   simp only[Utf8.decode,Nat.zero_add,hb,e1,e2,e3,e4,h3,Utf8.runeError]
   simp
 · have e1:¬ 224+r<128:=by omega
   have e2:((224+r)/32==6)=false:=by rw[beq_eq_false_iff_ne];omega
   have e3:((224+r)/16==14)=true:=by rw[beq_iff_eq];omega
   have e4:((224+r)/8==30)=false:=by rw[beq_eq_false_iff_ne];omega
   have hk:k=1∨k=2:=by omega
   rcases hk with rfl | rfl
   all_goals
     simp only[Utf8.decode,Nat.zero_add,hb,e1,e2,e3,e4,h3,Utf8.runeError]
     simp
 · have e1:¬ 240+r<128:=by omega
   have e2:((240+r)/32==6)=false:=by rw[beq_eq_false_iff_ne];omega
   have e3:((240+r)/16==14)=false:=by rw[beq_eq_false_iff_ne];omega
   have e4:((240+r)/8==30)=true:=by rw[beq_iff_eq];omega
   have hk:k=1∨k=2∨k=3:=by omega
   rcases hk with rfl | rfl | rfl
   all_goals
     simp only[Utf8.decode,Nat.zero_add,hb,e1,e2,e3,e4,h3,Utf8.runeError]
     simp
theorem dec_all (hb:byteN s 0=b)(hd:decHead b n low r)(hs:n≤s.size)(h:∀ k,1≤k→k<n→byteN s k/64=2) :
   (badN low (contN s r (n-1))→Utf8.decode s 0=(0xFFFD,1))∧(¬ badN low (contN s r (n-1))→Utf8.decode s 0=(contN s r (n-1),n)):=by
 simp only[badN]
 have hc:∀ k,1≤k→k<n→(decide (k<s.size)&&(s.get! k).toNat/64==2)=true:=λk h1 h2=>by
   rw[decide_eq_true (by omega),Bool.true_and,beq_iff_eq];exact h k h1 h2
 have hlt:=contN_lt (s:=s) (r:=r) (by rcases hd with h | h | h <;> omega) (n-1)
 simp only[byteN]at hb
 rcases hd with ⟨rfl,h4,rfl,rfl⟩ | ⟨rfl,h4,rfl,rfl⟩ | ⟨rfl,h4,rfl,rfl⟩
 · have e1:¬ 192+r<128:=by omega
   have e2:((192+r)/32==6)=true:=by rw[beq_iff_eq];omega
   have e5:contN s r (2-1)=(192+r)%32*64+(s.get! 1).toNat%64:=by
     show r*64+(s.get! 1).toNat%64=_
     omega
   have hd2:Utf8.decode s 0=if 128≤contN s r (2-1) then (contN s r (2-1),2) else (0xFFFD,1):=by
     rw[e5]
     simp only[Utf8.decode,Nat.zero_add,hb,e1,e2,hc 1 (by omega) (by omega),Utf8.runeError]
     simp
   have hlt2:contN s r (2-1)<2048:=hlt
   refine⟨λhbad=>?_,λhg=>?_⟩
   · rw[hd2,if_neg (by omega)]
   · rw[hd2,if_pos (by omega)]
 · have e1:¬ 224+r<128:=by omega
   have e2:((224+r)/32==6)=false:=by rw[beq_eq_false_iff_ne];omega
   have e3:((224+r)/16==14)=true:=by rw[beq_iff_eq];omega
   have e5:contN s r (3-1)=(224+r)%16*4096+(s.get! 1).toNat%64*64+(s.get! 2).toNat%64:=by
     show (r*64+(s.get! 1).toNat%64)*64+(s.get! 2).toNat%64=_
     omega
   have hd2:Utf8.decode s 0=if 2048≤contN s r (3-1)∧Utf8.valid (contN s r (3-1))=true then (contN s r (3-1),3) else (0xFFFD,1):=by
     rw[e5]
     simp only[Utf8.decode,Nat.zero_add,hb,e1,e2,e3,hc 1 (by omega) (by omega),hc 2 (by omega) (by omega),Utf8.runeError]
     simp
   have hv:Utf8.valid (contN s r (3-1))=true↔(contN s r (3-1)<55296∨(57344≤contN s r (3-1)∧contN s r (3-1)≤1114111)):=by
     simp only[Utf8.valid,Bool.or_eq_true,Bool.and_eq_true,decide_eq_true_eq];omega
   refine⟨λhbad=>?_,λhg=>?_⟩
   · rw[hd2,if_neg (by rw[hv];omega)]
   · rw[hd2,if_pos (by rw[hv];omega)]
 · have e1:¬ 240+r<128:=by omega
   have e2:((240+r)/32==6)=false:=by rw[beq_eq_false_iff_ne];omega
   have e3:((240+r)/16==14)=false:=by rw[beq_eq_false_iff_ne];omega
   have e4:((240+r)/8==30)=true:=by rw[beq_iff_eq];omega
   have e5:contN s r (4-1)=(240+r)%8*262144+(s.get! 1).toNat%64*4096+(s.get! 2).toNat%64*64+(s.get! 3).toNat%64:=by
     show ((r*64+(s.get! 1).toNat%64)*64+(s.get! 2).toNat%64)*64+(s.get! 3).toNat%64=_
     omega
   have hd2:Utf8.decode s 0=if 65536≤contN s r (4-1)∧Utf8.valid (contN s r (4-1))=true then (contN s r (4-1),4) else (0xFFFD,1):=by
     rw[e5]
     simp only[Utf8.decode,Nat.zero_add,hb,e1,e2,e3,e4,hc 1 (by omega) (by omega),hc 2 (by omega) (by omega),hc 3 (by omega) (by omega),Utf8.runeError]
     simp
   have hv:Utf8.valid (contN s r (4-1))=true↔(contN s r (4-1)<55296∨(57344≤contN s r (4-1)∧contN s r (4-1)≤1114111)):=by
     simp only[Utf8.valid,Bool.or_eq_true,Bool.and_eq_true,decide_eq_true_eq];omega
   refine⟨λhbad=>?_,λhg=>?_⟩
   · rw[hd2,if_neg (by rw[hv];omega)]
   · rw[hd2,if_pos (by rw[hv];omega)]
end
def goodR (x:Nat×Nat):Bool:=if x.1≠65533 then true else decide (x.2=3)
theorem goodR_eq (s:ByteArray)(i:Nat):goodR (Utf8.decode s i)=goodB (Utf8.decode s i):=by
 rcases decode_wide s i with h | h
 · unfold goodR goodB
   by_cases h1:(Utf8.decode s i).1=65533
   · rw[h1]at h
     have h2:(Utf8.decode s i).2=3:=by rw[← h];rfl
     rw[if_neg (λh3=>h3 h1),h2]
     have:Utf8.decode s i≠(65533,1):=λe=>by rw[e]at h2;cases h2
     simp[this]
   · rw[if_pos h1]
     have:Utf8.decode s i≠(65533,1):=λe=>h1 (by rw[e])
     simp[this]
 · rw[h];rfl
def takesN (c:Int):Nat:=[0,2,2,3,3,3,3,3,3,1,2,2,2,2,2,1].getD c.toNat 0
def argO (o:OpR)(k:Nat):Int:=if k=0 then o.a else if k=1 then o.b else o.c
def mostO (n:Int)(o:OpR)(k:Nat):Int:=if takesN o.code≤k then 0 else if o.code=9∨(o.code=10∧k=1) then n else 31
def okK (n:Int)(o:OpR)(k:Nat):Prop:=(k<takesN o.code∧o.code=1∧k=1)∨(0≤argO o k∧argO o k≤mostO n o k)
theorem okOp_iff {n:Int}{o:OpR}:okOp n o↔(0≤o.code∧o.code≤15)∧okK n o 0∧okK n o 1∧okK n o 2:=by
 obtain⟨code,a,b,c⟩:=o
 simp only[okOp,okK,argO,mostO,cellP]
 by_cases h:0≤code∧code≤15
 · have h2:∃ m:Nat,code=m∧m≤15:=⟨code.toNat,by omega,by omega⟩
   obtain⟨m,rfl,hm⟩:=h2
   have:m=0∨m=1∨m=2∨m=3∨m=4∨m=5∨m=6∨m=7∨m=8∨m=9∨m=10∨m=11∨m=12∨m=13∨m=14∨m=15:=by omega
   rcases this with rfl | rfl | rfl | rfl | rfl | rfl | rfl | rfl | rfl | rfl | rfl | rfl | rfl | rfl | rfl | rfl <;> simp[takesN] <;> omega
 · constructor
   · intro h3;omega
   · intro h3;exact absurd h3.1 h
end
end Go.Proofs.YtdilfdkendjjhaaGreat
