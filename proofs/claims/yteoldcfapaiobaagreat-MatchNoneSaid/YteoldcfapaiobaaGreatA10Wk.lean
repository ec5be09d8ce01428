/- The walks of package worker. -/
import Derived.Test.YteoldcfapaiobaaGreatA09Chk2
import Derived.Test.YteoldcfapaiobaaGreatA08WkP
import Derived.Test.YteoldcfapaiobaaGreatA07Branch2
import Derived.Test.YteoldcfapaiobaaGreatA04Ty
import Derived.ProofKit
import Derived.Deep.Slices
import Derived.Deep.Strs
import Derived.ChangeSlices
import Derived.ChangeShapes
import Derived.DataShut
import Derived.Test.YteoldcfapaiobaaGreatA02Row
import Derived.Laws.StructEq
import Derived.ChangeKeysEq
import Derived.ChangeSame
namespace Go.Proofs.YteoldcfapaiobaaGreat
open Go.RowKit
set_option linter.unusedVariables false
set_option linter.unusedSimpArgs false
set_option maxRecDepth 10000
set_option synthInstance.maxSize 4000
set_option synthInstance.maxHeartbeats 400000
section
abbrev wkC (p:Pr)(adO:Option Addr)(cO tq jq sq:Nat)(k:Wk):List Value :=
 [.string p.title,.slice adO p.ops.length cO,pt tq,pt jq,pt sq,.bool k.busy,.int .i64 k.jb,.int .i64 k.je,.int .i64 k.x,.int .i64 k.done,.bool k.played]
section
variable {W w:World}{L:List SP}{tq jq sq r wb i kk cO:Nat}{adO:Option Addr}{A:Sn}{T:Tr}{J:Js}{k:Wk}{p:Pr}{x:Br}{px:Pic}
theorem busy_spec (hs:St W w (blk wb 247 (wkC p adO cO tq jq sq k)::L)) :
   Calls Tryz.prog 184 #[pt wb] w λe w'=>e=.returned (.bool k.busy)∧St W w' (blk wb 247 (wkC p adO cO tq jq sq k)::L):=by
 refine EN Tryz.func184 Tryz.ntmps184 rfl rfl λa ha=>?_
 refine RN 6 ha hs λa ha=>?_
 replace ha:=ha.isT 5
 refine RT 6 ha hs ?_
 exact⟨rfl,hs⟩
theorem rest_busy (hs:St W w (blk wb 247 (wkC p adO cO tq jq sq k)::Store sq r A::L))(hb:k.busy=true) :
   Calls Tryz.prog 145 #[pt wb] w λe w'=>e=.returned (.bool true)∧St W w' (blk wb 247 (wkC p adO cO tq jq sq { k with busy:=false })::Store sq r (A.dropId k.x)::L):=by
 refine EN Tryz.func145 Tryz.ntmps145 rfl rfl λa ha=>?_
 refine CL 5 ha hs (busy_spec hs) λa w ha hs=>?_
 rw[hb]at ha
 refine RN 1 ha hs λa ha=>?_
 replace ha:=ha.isF 5
 refine DWO 2 [7] [0,1,2,4,5,6,3003,1007,1008] ha hs λa w ha hs hH hC=>?_
 refine RH 8 ha hs hH hC λa ha=>?_
 refine CL1 0 ha hs (snap_dropId (hs.store sq)) λv a w ha hs=>?_
 refine ST 4 ha hs (λa w ha hs=>?_) (hlt:=(by simp[wkC]))
 change St W w (blk wb 247 (wkC p adO cO tq jq sq { k with busy:=false })::_) at hs
 refine RT 2 ha hs ?_
 exact⟨rfl,hs.sub⟩
theorem rest_idle (hs:St W w (blk wb 247 (wkC p adO cO tq jq sq k)::L))(hb:k.busy=false) :
   Calls Tryz.prog 145 #[pt wb] w λe w'=>e=.returned (.bool false)∧St W w' (blk wb 247 (wkC p adO cO tq jq sq k)::L):=by
 refine EN Tryz.func145 Tryz.ntmps145 rfl rfl λa ha=>?_
 refine CL 5 ha hs (busy_spec hs) λa w ha hs=>?_
 rw[hb]at ha
 refine RN 1 ha hs λa ha=>?_
 replace ha:=ha.isT 5
 refine RT 3 ha hs ?_
 exact⟨rfl,hs⟩
theorem tree_get_any {id:Int}(hs:St W w (Tree tq sq T::L)) :
   Calls Tryz.prog 143 #[pt tq,.int .i64 id] w λe w'=>∃ (x:Br) (ad:Option Addr) (c:Nat) (ok:Bool),e=.returned (.tuple #[.agg (brC x ad c).toArray,.bool ok])∧((ok=true∧x∈T.l∧(x.id:Int)=id)∨(ok=false∧∀ y∈T.l,(y.id:Int)≠id)) ∧
     St W w' (OwnBB ad x.press.length c x.press::Tree tq sq T::L):=by
 by_cases h:∃ x∈T.l,(x.id:Int)=id
 · obtain⟨x,hx,rfl⟩:=h
   obtain⟨k,hk⟩:=List.mem_iff_getElem?.1 hx
   exact (tree_get hs hk).mono λe w' ⟨ad,c,h1,hs⟩=>⟨x,ad,c,true,h1,.inl ⟨rfl,hx,rfl⟩,hs⟩
 · have hn:∀ y∈T.l,(y.id:Int)≠id:=λy hy e=>h ⟨y,hy,e⟩
   exact (tree_get_no hs hn).mono λe w' ⟨h1,hs⟩=>⟨⟨0,0,[],0,0⟩,none,0,false,h1,.inr ⟨rfl,hn⟩,OwnBB.nil hs⟩
theorem snap_fork_id {id:Nat}(hs:St W w (Store sq r A::L))(hx:A.pics[i]?=some px)(hid:px.id=id)(hb:A.n+1<1099511627776) :
   Calls Tryz.prog 181 #[pt sq,.int .i64 id] w λe w'=>e=.returned (.tuple #[.int .i64 ((A.last+1:Nat):Int),.bool true])∧St W w' (Store sq r (A.add px.g px.p)::L):=by
 subst hid;exact snap_fork hs hx hb
theorem publish_try {d:Nat}{id:Nat}(hs:St W w (Tree tq sq T::Store sq r A::L))(hx:T.l[kk]?=some x)(hd2:d≤x.press.length)(hp:A.pics[i]?=some px)(hid:px.id=id) :
   Calls Tryz.prog 186 #[pt tq,.int .i64 x.id,.int .i64 d,.int .i64 id] w λe w'=>e=.returned (.bool (decide (x.done<d))) ∧
     ((x.done<d∧St W w' (Tree tq sq (T.pub kk x d id)::Store sq r (A.dropId x.snap)::L))∨(d≤x.done∧St W w' (Tree tq sq T::Store sq r A::L))):=by
 subst hid
 by_cases h:x.done<d
 · exact (publish_ok hs hx h hd2 hp).mono λe w' ⟨h1,hs⟩=>⟨by rw[h1,decide_eq_true h],.inl ⟨h,hs⟩⟩
 · exact (publish_no (d:=(d:Int)) (i:=i) (px:=px) hs hx (.inl (by omega))).mono λe w' ⟨h1,hs⟩=>⟨by rw[h1,decide_eq_false h],.inr ⟨by omega,hs⟩⟩
theorem dropId_set {A:Sn}{i:Nat}{px:Pic}{g:Nat→Int}{p':Nat→Nat}(hA:WF A)(hB:WF { A with pics:=A.pics.set i ⟨px.id,px.refs,g,p'⟩ })(hi:A.pics[i]?=some px)(hr:px.refs=1) :
   ({ A with pics:=A.pics.set i ⟨px.id,px.refs,g,p'⟩ }:Sn).dropId px.id=A.dropId px.id:=by
 have hl:=(List.getElem?_eq_some_iff.1 hi).1
 rw[dropId_some hA hi,dropId_some (px:=⟨px.id,px.refs,g,p'⟩) hB (i:=i) (by simp[hl])]
 simp[Sn.drop,hr,List.eraseIdx_set_eq]
theorem take_bit (hs:St W w (blk wb 247 (wkC p adO cO tq jq sq k)::Tree tq sq T::Store sq r A::Jobs jq J::L))(hb:k.busy=false)(hbr:∀ x∈T.l,∃ (i:Nat) (px:Pic),A.pics[i]?=some px∧px.id=x.snap)(hn:A.n+1<1099511627776) :
   Calls Tryz.prog 142 #[pt wb] w λe w'=>∃ (z:Bool) (A':Sn) (J':Js) (k':Wk),e=.returned (.bool z)∧Bit p A T J k z A' T J' k' ∧
     St W w' (blk wb 247 (wkC p adO cO tq jq sq k')::Tree tq sq T::Store sq r A'::Jobs jq J'::L):=by
 refine EN Tryz.func142 Tryz.ntmps142 rfl rfl λa ha=>?_
 refine CL 7 ha hs (take_any (hs.jobs jq)) λa w ha hs=>?_
 refine AL 3 ha hs λb3 a w ha hs=>?_
 refine SA 0 ha hs λa w ha hs=>?_
 refine IF 5 ha hs (λhc0 a ha=>?_) λhc0 a ha=>?_
 ·
  obtain rfl:J=[]:=by simpa using hc0
  change St W w (blk b3 245 [.int .i64 0,.int .i64 0]::Jobs jq []::_) at hs
  refine RT 2 ha hs ?_
  exact⟨false,A,[],k,rfl,.idle hb rfl,hs.sub⟩
 obtain⟨j,J',rfl⟩:∃ j J',J=j::J':=by
   cases J with
   | nil=>simp at hc0
   | cons j J'=>exact⟨j,J',rfl⟩
 change St W w (blk b3 245 [.int .i64 j.1,.int .i64 j.2]::Jobs jq J'::_) at hs
 replace ha:=ha.keep [0,3]
 clear hc0
 refine RN 0 ha hs λa ha=>?_
 refine wp_seq_cut (M:=λa w=>∃ (b5:Nat) (x:Br) (ad:Option Addr) (c:Nat) (ok:Bool),((ok=true∧x∈T.l∧(x.id:Int)=j.1)∨(ok=false∧∀ y∈T.l,(y.id:Int)≠j.1))∧Fr a 85 [(0,pt wb),(3,pt b3),(5,pt b5),(6,.bool ok)]∧St W w (blk b5 238 (brC x ad c)::blk b3 245 [.int .i64 j.1,.int .i64 j.2]::Jobs jq J'::blk wb 247 (wkC p adO cO tq jq sq k)::Tree tq sq T::Store sq r A::L)) ?_ ?_
 ·
  refine DWC 0 (λw0 w'=>Rd w' wb 0 (wkC p adO cO tq jq sq k)∧Rd w' b3 0 [.int .i64 j.1,.int .i64 j.2]) [5,10] [0,1,2,4,3003,3005,2006,7,8,9,1010,1011,12] ha hs λa w ha hs hH=>?_
  have hC:=hH.at w (And.intro hs.rdAll hs.rdAll)
  refine RH 4 ha hs hH hC λa ha=>?_
  refine QH ha (λw hc=>ld1 ha (hc.1 2 _ rfl)) hC λa ha=>?_
  refine QH ha (λw hc=>ld1 ha (hc.2 0 _ rfl)) hC λa ha=>?_
  refine RH 0 ha hs hH hC λa ha=>?_
  refine DN [(6,[7,8,9,1010,1011,12]),(10,[1006,7,8,9,1011,12])] (by kernel_rfl) rfl ⟨⟨_,rfl,?_⟩,⟨_,rfl,?_⟩,trivial⟩
  ·
   refine RH 0 ha hs hH hC λa ha=>?_
   refine CLX 0 ha hs (tree_get_any (id:=j.1) (hs.tree tq)) ?_
   clear ha hs
   rintro e w ⟨x,ad,c,ok,rfl,hok,hs⟩
   refine⟨_,rfl,λa ha=>?_⟩
   refine RN 3 ha hs λa ha=>?_
   refine st_alloc ha rfl hs Ty.t238 rfl λb5 a w ha hs ho=>?_
   clear ho
   replace hC:=hH.at w (And.intro hs.rdAll hs.rdAll)
   refine RH 0 ha hs hH hC λa ha=>?_
   refine SA 0 ha hs λa w ha hs=>?_
   refine RN 1 ha hs λa ha=>?_
   exact⟨_,x,ad,c,ok,hok,ha.keep [0,3,5,6],hs.sub⟩
  refine RH 0 ha hs hH hC λa ha=>?_
  refine st_alloc ha rfl hs Ty.t238 rfl λb5 a w ha hs ho=>?_
  clear ho
  replace hC:=hH.at w (And.intro hs.rdAll hs.rdAll)
  refine RH 0 ha hs hH hC λa ha=>?_
  refine CLX 0 ha hs (tree_get_any (id:=j.1) (hs.tree tq)) ?_
  clear ha hs
  rintro e w ⟨x,ad,c,ok,rfl,hok,hs⟩
  refine⟨_,rfl,λa ha=>?_⟩
  refine SA 3 ha hs λa w ha hs=>?_
  refine RN 1 ha hs λa ha=>?_
  exact⟨_,x,ad,c,ok,hok,ha.keep [0,3,5,6],hs.sub⟩
 clear ha;(try clear hs)
 rintro a w ⟨b5,x,ad,c,ok,hok,ha,hs⟩
 refine DWC 2 (λw0 w'=>Rd w' wb 0 (wkC p adO cO tq jq sq k)∧Rd w' b3 0 [.int .i64 j.1,.int .i64 j.2]∧Rd w' b5 0 (brC x ad c)) [5,6,16,17] [0,2,3,4,3001,1005,1006,7,8,9,10,11,12,13,15,3014,1016,1017,18,19] ha hs λa w ha hs hH=>?_
 have hC:=hH.at w ⟨hs.rdAll,hs.rdAll,hs.rdAll⟩
 refine RH 4 ha hs hH hC λa ha=>?_
 refine QH ha (λw hc=>ld1 ha (hc.2.1 1 _ rfl)) hC λa ha=>?_
 refine RH 1 ha hs hH hC λa ha=>?_
 refine CL 0 ha hs (tree_epoch (hs.tree tq)) λa w ha hs=>?_
 replace hC:=hH.at w ⟨hs.rdAll,hs.rdAll,hs.rdAll⟩
 refine RH 2 ha hs hH hC λa ha=>?_
 refine ha.by (s:=36) (λhg8 ha=>?_) (λhg8 ha=>?_)
 ·
  refine RH 11 ha hs hH hC λa ha=>?_
  refine RT 3 ha hs ?_
  exact⟨true,A,J',k,rfl,.stale hb rfl (.inl hg8),hs.sub⟩
 refine RH 4 ha hs hH hC λa ha=>?_
 refine ha.by (s:=40) (λhg12 ha=>?_) (λhg12 ha=>?_)
 ·
  have hno:∀ y∈T.l,(y.id:Int)≠j.1:=by
    rcases hok with ⟨h,_⟩ | ⟨_,h⟩
    · rw[h]at hg12;cases hg12
    · exact h
  refine RH 7 ha hs hH hC λa ha=>?_
  refine RT 3 ha hs ?_
  exact⟨true,A,J',k,rfl,.stale hb rfl (.inr (.inl hno)),hs.sub⟩
 obtain⟨hx,hid⟩:x∈T.l∧(x.id:Int)=j.1:=by
   rcases hok with ⟨_,h⟩ | ⟨h,_⟩
   · exact h
   · rw[h]at hg12;cases hg12
 refine RH 2 ha hs hH hC λa ha=>?_
 refine QH ha (λw hc=>ld1 ha (hc.2.2 3 _ rfl)) hC λa ha=>?_
 refine RH 0 ha hs hH hC λa ha=>?_
 refine st_set ha (wgT ha rfl (s:=40)) (ld1 ha (hC.2.2 2 _ rfl)) rfl λa ha=>?_
 refine RH 3 ha hs hH hC λa ha=>?_
 refine IF 0 ha hs (λhc1 a ha=>?_) λhc1 a ha=>?_
 ·
  refine RT 2 ha hs ?_
  exact⟨true,A,J',k,rfl,.stale hb rfl (.inr (.inr ⟨x,hx,hid,by omega⟩)),hs.sub⟩
 refine RN 1 ha hs λa ha=>?_
 obtain⟨i,px,hpx,hpid⟩:=hbr x hx
 refine DWC 0 (λw0 w'=>Rd w' wb 0 (wkC p adO cO tq jq sq k)∧Rd w' b5 0 (brC x ad c)) [5] [0,1,2,4,3003,1005,1006,7,8,9,10,11] ha hs λa w ha hs hH=>?_
 have hC:=hH.at w ⟨hs.rdAll,hs.rdAll⟩
 refine RH 4 ha hs hH hC λa ha=>?_
 refine QH ha (λw hc=>ld1 ha (hc.1 4 _ rfl)) hC λa ha=>?_
 refine RH 0 ha hs hH hC λa ha=>?_
 refine SS ha (ld1 ha (hC.2 4 _ rfl)) λa ha=>?_
 refine RH 0 ha hs hH hC λa ha=>?_
 refine CL 0 ha hs (snap_fork_id (hs.store sq) hpx hpid hn) λa w ha hs=>?_
 refine RN 5 ha hs λa ha=>?_
 refine RN 4 ha hs λa ha=>?_
 replace ha:=ha.isF 59
 refine DWC 2 (λw0 w'=>Rd w' b3 0 [.int .i64 j.1,.int .i64 j.2]∧Rd w' b5 0 (brC x ad c)) [8,11,12,13,14,15,16,17] [0,1,2,3,4,6,7,9,10,3005,3008,1011,1012,1013,1014,1015,1016,1017,18,19,1020,21,22,1023] ha hs λa w ha hs hH=>?_
 have hC:=hH.at w ⟨hs.rdAll,hs.rdAll⟩
 refine RH 9 ha hs hH hC λa ha=>?_
 refine QH ha (λw hc=>ex_loadN ha Tryz.underlying245 rfl Ty.t245 (hc.1)) hC λa ha=>?_
 refine QH ha (λw hc=>ld1 ha (hc.2 3 _ rfl)) hC λa ha=>?_
 refine RH 0 ha hs hH hC λa ha=>?_
 refine ST 0 ha hs (λa w ha hs=>?_) (hlt:=(by simp[wkC]))
 replace hC:=hH.at w ⟨hs.rdAll,hs.rdAll⟩
 refine RH 2 ha hs hH hC λa ha=>?_
 refine st_storeN ha rfl hs Ty.t245 (by simp[Value.oneCell']) (by simp[wkC]) λa w ha hs=>?_
 replace hC:=hH.at w ⟨hs.rdAll,hs.rdAll⟩
 refine RH 2 ha hs hH hC λa ha=>?_
 refine ST 0 ha hs (λa w ha hs=>?_) (hlt:=(by simp[wkC,splice]))
 replace hC:=hH.at w ⟨hs.rdAll,hs.rdAll⟩
 refine RH 2 ha hs hH hC λa ha=>?_
 refine ST 0 ha hs (λa w ha hs=>?_) (hlt:=(by simp[wkC,splice]))
 refine ST 2 ha hs (λa w ha hs=>?_) (hlt:=(by simp[wkC,splice]))
 refine RN 0 ha hs λa ha=>?_
 change St W w (blk wb 247 (wkC p adO cO tq jq sq ⟨true,j.1,j.2,A.last+1,x.done,false⟩)::_) at hs
 refine RT 2 ha hs ?_
 exact⟨true,A.add px.g px.p,J',⟨true,j.1,j.2,A.last+1,x.done,false⟩,rfl,.took hb rfl hg8 hx hid (by omega) hpx hpid,hs.sub⟩
theorem play_bit {ad:Option Addr}{c:Nat}(hs:St W w (blk wb 247 (wkC p adO cO tq jq sq k)::OwnBB ad x.press.length c x.press::Tree tq sq T::Store sq r A::Jobs jq J::RoP W p adO cO::L))
   (hb:k.busy=true) (he:k.je=T.epoch) (hx:x∈T.l) (hid:(x.id:Int)=k.jb) (hpl:k.played=false) (hi:A.pics[i]?=some px) (hpi:px.id=k.x) (hr:px.refs=1) (hg:gOk px.g) (hd:k.done<x.press.length) (hf:0≤x.frm∧x.frm≤1099511627776)
   (hpr:prOk p) (hsz:p.title.size≤1000000000) (hJ:J.length≤16) :
   Calls Tryz.prog 146 #[pt wb,.agg (brC x ad c).toArray] w λe w'=>∃ (A':Sn) (J':Js) (k':Wk),e=.returned (.tuple #[])∧Bit p A T J k true A' T J' k' ∧
     St W w' (blk wb 247 (wkC p adO cO tq jq sq k')::Tree tq sq T::Store sq r A'::Jobs jq J'::RoP W p adO cO::L):=by
 have hwt:=Tree.wt (hs.tree tq)
 have hA:=(Store.facts (hs.store sq)).1
 have hOk:=(hwt.ok x hx).1
 have hil:=(List.getElem?_eq_some_iff.1 hi).1
 have hdl:x.press.length≤65536:=hOk.1
 refine EN Tryz.func146 Tryz.ntmps146 rfl rfl λa ha=>?_
 refine BX 1 ha hs λb3 a w ha hs=>?_
 change St W w (blk b3 238 (brC x ad c)::_) at hs
 refine DWO 1 [7] [0,1,2,4,5,6,3003,1007,8,1009,10] ha hs λa w ha hs hH hC=>?_
 refine RH 9 ha hs hH hC λa ha=>?_
 refine st_box ha rfl hs rfl λb14 a w ha hs ho=>?_
 replace hC:=hC.trans ho
 clear ho
 change St W w (blk b14 307 [pt sq,.int .i64 k.x,.bool false]::_) at hs
 refine RH 1 ha hs hH hC λa ha=>?_
 refine RN 1 ha hs λa ha=>?_
 obtain⟨zs,hz,hzl,hs⟩:=OwnBB.open (hs.pick (OwnBB ad x.press.length c x.press))
 obtain⟨bb,oo,rfl,hrd⟩:=hs.drew.slRd ad (by omega)
 have hzn:zs.length=x.press.length:=by rw[← hz,List.length_map]
 have hzk:zs[k.done]?=some (zs[k.done]'(by omega)):=List.getElem?_eq_getElem (by omega)
 have hpk2:x.press[k.done]?=some (zs[k.done]'(by omega)).2.2:=by rw[← hz,List.getElem?_map,hzk];rfl
 have hcell:=hrd k.done _ (by rw[List.getElem?_map,hzk];rfl)
 have hwk:Rd w.drew wb 0 (wkC p adO cO tq jq sq k):=hs.drew.rdAll
 have hwp:Rd w.drew wb 0 (prV p adO cO):=hwk.part 0 2
 have hwb:Rd w.drew b3 0 (brC x (some ⟨bb,oo,none⟩) c):=hs.drew.rdAll
 have hwl:(zs[k.done]'(by omega)).2.2.length≤1099511627776:=hOk.2 _ (List.mem_of_getElem? hpk2)
 refine DWG 0 (λw'=>Rd w' wb 0 (wkC p adO cO tq jq sq k)∧Rd w' wb 0 (prV p adO cO)∧Rd w' b3 0 (brC x (some ⟨bb,oo,none⟩) c)∧w'.cell? ⟨bb,oo+k.done,none⟩=some (bbv (zs[k.done]'(by omega)))) [5,7,11,12,14,18,19,20] [0,1,2,4,6,8,9,10,13,15,16,17,3003,3007,3011,3012,3014,3018,3019,3020,1005,1021] ha hs λa ha=>?_
 replace hs:=hs.drew
 generalize w.drew=w at hs hcell hwk hwp hwb ⊢
 have hC:=And.intro hwk (And.intro hwp (And.intro hwb hcell))
 have hH:=Hd.any (λw'=>Rd w' wb 0 (wkC p adO cO tq jq sq k)∧Rd w' wb 0 (prV p adO cO)∧Rd w' b3 0 (brC x (some ⟨bb,oo,none⟩) c)∧w'.cell? ⟨bb,oo+k.done,none⟩=some (bbv (zs[k.done]'(by omega))))
 refine RH 12 ha hs hH hC λa ha=>?_
 refine QH ha (λw hc=>ex_loadN ha Tryz.underlying45 rfl Ty.t45 (hc.2.1)) hC λa ha=>?_
 refine QH ha (λw hc=>ld1 ha (hc.2.2.1 1 _ rfl)) hC λa ha=>?_
 refine QH ha (λw hc=>ld1 ha (hc.1 9 _ rfl)) hC λa ha=>?_
 refine RH 1 ha hs hH hC λa ha=>?_
 refine QH ha (λw hc=>ld1 ha (hc.2.2.1 2 _ rfl)) hC λa ha=>?_
 refine QH ha (λw hc=>ld1 ha (hc.1 9 _ rfl)) hC λa ha=>?_
 refine RH 1 ha hs hH hC λa ha=>?_
 refine QH ha (λw hc=>ld1 ha (hc.2.2.2)) hC λa ha=>?_
 refine RH 1 ha hs hH hC λa ha=>?_
 have hs2:St W w (Store sq r { A with pics:=A.pics.set i ⟨px.id,px.refs,px.g,px.p⟩ }::blk b14 307 [pt sq,.int .i64 k.x,.bool false]::RoP W p adO cO::Sl 22 1 (some ⟨bb,oo,none⟩) x.press.length c (zs.map bbv)::All bbo zs::blk wb 247 (wkC p adO cO tq jq sq k)::blk b3 238 (brC x (some ⟨bb,oo,none⟩) c)::Tree tq sq T::Jobs jq J::L):=by
   rw[show ({ A with pics:=A.pics.set i ⟨px.id,px.refs,px.g,px.p⟩ }:Sn)=A from by rw[← set_same hi]]
   exact hs.sub
 rw[← hpi]at hs2
 have hs3:=Jw.close (i:=i) (A:=A) (px:=px) (g:=px.g) (bad:=false) (p':=px.p) (hs2.sub (M:=blk b14 307 [pt sq,.int .i64 px.id,.bool false]::Store sq r { A with pics:=A.pics.set i ⟨px.id,px.refs,px.g,px.p⟩ }::RoP W p adO cO::Sl 22 1 (some ⟨bb,oo,none⟩) x.press.length c (zs.map bbv)::All bbo zs::blk wb 247 (wkC p adO cO tq jq sq k)::blk b3 238 (brC x (some ⟨bb,oo,none⟩) c)::Tree tq sq T::Jobs jq J::L)) hg (λh=>by cases h)
 refine CL3 0 ha hs (run_spec (M:=cells_mem (W:=W) (q:=sq) (r:=r) (bc:=b14) (A:=A) (px:=px) (i:=i) hil) hs3 hpr hsz hwl (λw' h=>(St.rdX (h.sub (M:=Sl 22 1 (some ⟨bb,oo,none⟩) x.press.length c (zs.map bbv)::All bbo zs::[]))).2 _ (List.getElem_mem _))) λg2 bad2 n2 a w ha ⟨hgb,hs⟩=>?_
 obtain⟨p2,⟨hg2,hbad2⟩,hs⟩:=Jw.open hs
 have hA2:=(Store.facts (hs.store sq)).1
 refine RN 0 ha hs λa ha=>?_
 refine IF 6 ha hs (λhc0 a ha=>?_) λhc0 a ha=>?_
 ·
  refine CL 2 ha hs (rest_busy (L:=Tree tq sq T::Jobs jq J::RoP W p adO cO::L) (hs.sub (M:=blk wb 247 (wkC p adO cO tq jq sq k)::Store sq r { A with pics:=A.pics.set i ⟨px.id,px.refs,g2,p2⟩ }::Tree tq sq T::Jobs jq J::RoP W p adO cO::L)) hb) λa w ha hs=>?_
  refine RN 0 ha hs λa ha=>?_
  have hwp2:Rd w wb 6 [.int .i64 k.jb,.int .i64 k.je]:=(hs.rdAll (b:=wb)).part 6 2
  refine DWC 1 (λw0 w'=>Rd w' wb 0 (wkC p adO cO tq jq sq { k with busy:=false })∧Rd w' wb 6 [.int .i64 k.jb,.int .i64 k.je]) [7] [0,1,2,4,5,6,3003,1007,1008] ha hs λa w ha hs hH=>?_
  replace hwp2:Rd w wb 6 [.int .i64 k.jb,.int .i64 k.je]:=(hs.rdAll (b:=wb)).part 6 2
  have hC:=hH.at w ⟨hs.rdAll,hwp2⟩
  refine RH 6 ha hs hH hC λa ha=>?_
  refine QH ha (λw hc=>ld1 ha (hc.1 3 _ rfl)) hC λa ha=>?_
  refine RH 0 ha hs hH hC λa ha=>?_
  refine SS ha (ex_loadN ha Tryz.underlying245 rfl Ty.t245 (hC.2)) λa ha=>?_
  refine RH 0 ha hs hH hC λa ha=>?_
  refine CL 0 ha hs (put_spec (hs.jobs jq) hJ) λa w ha hs=>?_
  change St W w (Jobs jq (putJ J k.jb k.je)::_) at hs
  refine RT 0 ha hs ?_
  refine⟨A.dropId k.x,putJ J k.jb k.je,{ k with busy:=false },rfl,.failed hb he hx hid hpl (hbad2 hc0),?_⟩
  rw[← hpi,dropId_set hA hA2 hi hr] at *
  exact hs.sub
 refine ST 3 ha hs (λa w ha hs=>?_) (hlt:=(by simp[wkC]))
 change St W w (blk wb 247 (wkC p adO cO tq jq sq { k with played:=true })::_) at hs
 refine RT 0 ha hs ?_
 obtain⟨_,hge⟩:=hgb hc0
 subst hge
 exact⟨_,J,{ k with played:=true },rfl,.played (p':=p2) hb he hx hid hpl hi hpi hpk2 hg2,hs.sub⟩
theorem publish_bit {ad:Option Addr}{c:Nat}(hs:St W w (blk wb 247 (wkC p adO cO tq jq sq k)::Tree tq sq T::Store sq r A::Jobs jq J::L))
   (hb:k.busy=true) (he:k.je=T.epoch) (hx:T.l[kk]?=some x) (hid:(x.id:Int)=k.jb) (hpl:k.played=true) (hi:A.pics[i]?=some px) (hpi:px.id=k.x) (hd:k.done<x.press.length) (hJ:J.length≤16) :
   Calls Tryz.prog 147 #[pt wb,.agg (brC x ad c).toArray] w λe w'=>∃ (A':Sn) (T':Tr) (J':Js) (k':Wk),e=.returned (.tuple #[])∧Bit p A T J k true A' T' J' k' ∧
     St W w' (blk wb 247 (wkC p adO cO tq jq sq k')::Tree tq sq T'::Store sq r A'::Jobs jq J'::L):=by
 have hwt:=Tree.wt (hs.tree tq)
 have hxm:=List.mem_of_getElem? hx
 have hkl:=(List.getElem?_eq_some_iff.1 hx).1
 have hOk:=(hwt.ok x hxm).1
 have hdl:x.press.length≤65536:=hOk.1
 refine EN Tryz.func147 Tryz.ntmps147 rfl rfl λa ha=>?_
 refine BX 1 ha hs λb3 a w ha hs=>?_
 change St W w (blk b3 238 (brC x ad c)::_) at hs
 refine DWC 2 (λw0 w'=>Rd w' wb 0 (wkC p adO cO tq jq sq k)∧Rd w' b3 0 (brC x ad c)) [5,9,10,14] [0,1,2,4,6,7,8,11,12,13,3003,3005,3009,3010,1014,1015] ha hs λa w ha hs hH=>?_
 have hC:=hH.at w ⟨hs.rdAll,hs.rdAll⟩
 refine RH 10 ha hs hH hC λa ha=>?_
 refine QH ha (λw hc=>ld1 ha (hc.1 2 _ rfl)) hC λa ha=>?_
 refine QH ha (λw hc=>ld1 ha (hc.2 0 _ rfl)) hC λa ha=>?_
 refine QH ha (λw hc=>ld1 ha (hc.1 9 _ rfl)) hC λa ha=>?_
 refine RH 1 ha hs hH hC λa ha=>?_
 refine SS ha (ld1 ha (hC.1 8 _ rfl)) λa ha=>?_
 refine RH 0 ha hs hH hC λa ha=>?_
 refine CL 0 ha hs (publish_try (kk:=kk) (d:=k.done+1) (L:=blk wb 247 (wkC p adO cO tq jq sq k)::blk b3 238 (brC x ad c)::Jobs jq J::L) (hs.sub (M:=Tree tq sq T::Store sq r A::blk wb 247 (wkC p adO cO tq jq sq k)::blk b3 238 (brC x ad c)::Jobs jq J::L)) hx (by omega) hi hpi) λa w ha hpub=>?_
 refine RN 0 ha (St.start _) λa ha=>?_
 refine IFR 0 ha (St.start _) (λhc0 a ha=>?_) λhc0 a ha=>?_
 ·
  have hlt:x.done<k.done+1:=by simpa using hc0
  replace hs:=(hpub.resolve_right (λh=>by omega)).2
  refine ST 3 ha hs (λa w ha hs=>?_) (hlt:=(by simp[wkC]))
  change St W w (blk wb 247 (wkC p adO cO tq jq sq { k with busy:=false })::_) at hs
  refine CL 2 ha hs (rest_idle (k:={ k with busy:=false }) hs rfl) λa w ha hs=>?_
  refine RN 0 ha hs λa ha=>?_
  refine wp_seq_cut (M:=λa w=>∃ (b4:Nat) (ad2:Option Addr) (c2:Nat),Fr a 55 [(0,pt wb),(4,pt b4),(5,.bool true)]∧St W w (blk b4 238 (brC { x with done:=k.done+1,snap:=k.x } ad2 c2)::blk wb 247 (wkC p adO cO tq jq sq { k with busy:=false })::Tree tq sq (T.pub kk x (k.done+1) k.x)::Store sq r (A.dropId x.snap)::Jobs jq J::L)) ?_ ?_
  ·
   refine DWC 0 (λw0 w'=>Rd w' wb 0 (wkC p adO cO tq jq sq { k with busy:=false })∧Rd w' b3 0 (brC x ad c)) [5,10] [0,1,2,4,3003,3005,2006,7,8,9,1010,1011,12] ha hs λa w ha hs hH=>?_
   have hC:=hH.at w ⟨hs.rdAll,hs.rdAll⟩
   refine RH 4 ha hs hH hC λa ha=>?_
   refine QH ha (λw hc=>ld1 ha (hc.1 2 _ rfl)) hC λa ha=>?_
   refine QH ha (λw hc=>ld1 ha (hc.2 0 _ rfl)) hC λa ha=>?_
   refine RH 0 ha hs hH hC λa ha=>?_
   refine DN [(6,[7,8,9,1010,1011,12]),(10,[1006,7,8,9,1011,12])] (by kernel_rfl) rfl ⟨⟨_,rfl,?_⟩,⟨_,rfl,?_⟩,trivial⟩
   ·
    refine RH 0 ha hs hH hC λa ha=>?_
    refine CL2 0 ha hs (tree_get (x:={ x with done:=k.done+1,snap:=k.x }) (k:=kk) (hs.tree tq) (by simp[Tr.pub,hkl])) λad2 c2 a w ha hs=>?_
    refine RN 3 ha hs λa ha=>?_
    refine st_alloc ha rfl hs Ty.t238 rfl λb4 a w ha hs ho=>?_
    clear ho
    replace hC:=hH.at w (And.intro hs.rdAll hs.rdAll)
    refine RH 0 ha hs hH hC λa ha=>?_
    refine SA 0 ha hs λa w ha hs=>?_
    refine RN 1 ha hs λa ha=>?_
    exact⟨_,ad2,c2,ha.keep [0,4,5],hs.sub⟩
   refine RH 0 ha hs hH hC λa ha=>?_
   refine st_alloc ha rfl hs Ty.t238 rfl λb4 a w ha hs ho=>?_
   clear ho
   replace hC:=hH.at w (And.intro hs.rdAll hs.rdAll)
   refine RH 0 ha hs hH hC λa ha=>?_
   refine CL2 0 ha hs (tree_get (x:={ x with done:=k.done+1,snap:=k.x }) (k:=kk) (hs.tree tq) (by simp[Tr.pub,hkl])) λad2 c2 a w ha hs=>?_
   refine SA 3 ha hs λa w ha hs=>?_
   refine RN 1 ha hs λa ha=>?_
   exact⟨_,ad2,c2,ha.keep [0,4,5],hs.sub⟩
  clear ha;(try clear hs)
  rintro a w ⟨b4,ad2,c2,ha,hs⟩
  refine RN 3 ha hs λa ha=>?_
  replace ha:=ha.isT 38
  refine IF 7 ha hs (λhc1 a ha=>?_) λhc1 a ha=>?_
  ·
   replace hc1:((k.done+1:Nat):Int)<((x.press.length:Nat):Int):=hc1
   refine DWC 0 (λw0 w'=>Rd w' wb 0 (wkC p adO cO tq jq sq { k with busy:=false })∧Rd w' wb 6 [.int .i64 k.jb,.int .i64 k.je]) [7] [0,1,2,4,5,6,3003,1007,1008] ha hs λa w ha hs hH=>?_
   have hwp2:Rd w wb 6 [.int .i64 k.jb,.int .i64 k.je]:=(hs.rdAll (b:=wb)).part 6 2
   have hC:=hH.at w ⟨hs.rdAll,hwp2⟩
   refine RH 6 ha hs hH hC λa ha=>?_
   refine QH ha (λw hc=>ld1 ha (hc.1 3 _ rfl)) hC λa ha=>?_
   refine RH 0 ha hs hH hC λa ha=>?_
   refine SS ha (ex_loadN ha Tryz.underlying245 rfl Ty.t245 (hC.2)) λa ha=>?_
   refine RH 0 ha hs hH hC λa ha=>?_
   refine CL 0 ha hs (put_spec (hs.jobs jq) hJ) λa w ha hs=>?_
   change St W w (Jobs jq (putJ J k.jb k.je)::_) at hs
   refine RT 0 ha hs ?_
   refine⟨_,_,if k.done+1<x.press.length then putJ J k.jb k.je else J,{ k with busy:=false },rfl,.pub (x:=x) (kk:=kk) hb he hx hid hpl hlt (by omega),?_⟩
   rw[if_pos (by omega)]
   exact hs.sub
  replace hc1:((x.press.length:Nat):Int)≤((k.done+1:Nat):Int):=hc1
  refine RT 0 ha hs ?_
  refine⟨_,_,if k.done+1<x.press.length then putJ J k.jb k.je else J,{ k with busy:=false },rfl,.pub (x:=x) (kk:=kk) hb he hx hid hpl hlt (by omega),?_⟩
  rw[if_neg (by omega)]
  exact hs.sub
 have hlt:k.done+1≤x.done:=by
   have:=of_decide_eq_false hc0
   omega
 replace hs:=(hpub.resolve_left (λh=>by omega)).2
 refine CL 2 ha hs (rest_busy (L:=blk b3 238 (brC x ad c)::Tree tq sq T::Jobs jq J::L) (hs.sub (M:=blk wb 247 (wkC p adO cO tq jq sq k)::Store sq r A::blk b3 238 (brC x ad c)::Tree tq sq T::Jobs jq J::L)) hb) λa w ha hs=>?_
 refine RN 0 ha hs λa ha=>?_
 refine wp_seq_cut (M:=λa w=>∃ (b4:Nat) (ad2:Option Addr) (c2:Nat),Fr a 55 [(0,pt wb),(4,pt b4),(5,.bool true)]∧St W w (blk b4 238 (brC x ad2 c2)::blk wb 247 (wkC p adO cO tq jq sq { k with busy:=false })::Tree tq sq T::Store sq r (A.dropId k.x)::Jobs jq J::L)) ?_ ?_
 ·
  refine DWC 0 (λw0 w'=>Rd w' wb 0 (wkC p adO cO tq jq sq { k with busy:=false })∧Rd w' b3 0 (brC x ad c)) [5,10] [0,1,2,4,3003,3005,2006,7,8,9,1010,1011,12] ha hs λa w ha hs hH=>?_
  have hC:=hH.at w ⟨hs.rdAll,hs.rdAll⟩
  refine RH 4 ha hs hH hC λa ha=>?_
  refine QH ha (λw hc=>ld1 ha (hc.1 2 _ rfl)) hC λa ha=>?_
  refine QH ha (λw hc=>ld1 ha (hc.2 0 _ rfl)) hC λa ha=>?_
  refine RH 0 ha hs hH hC λa ha=>?_
  refine DN [(6,[7,8,9,1010,1011,12]),(10,[1006,7,8,9,1011,12])] (by kernel_rfl) rfl ⟨⟨_,rfl,?_⟩,⟨_,rfl,?_⟩,trivial⟩
  ·
   refine RH 0 ha hs hH hC λa ha=>?_
   refine CL2 0 ha hs (tree_get (x:=x) (k:=kk) (hs.tree tq) hx) λad2 c2 a w ha hs=>?_
   refine RN 3 ha hs λa ha=>?_
   refine st_alloc ha rfl hs Ty.t238 rfl λb4 a w ha hs ho=>?_
   clear ho
   replace hC:=hH.at w (And.intro hs.rdAll hs.rdAll)
   refine RH 0 ha hs hH hC λa ha=>?_
   refine SA 0 ha hs λa w ha hs=>?_
   refine RN 1 ha hs λa ha=>?_
   exact⟨_,ad2,c2,ha.keep [0,4,5],hs.sub⟩
  refine RH 0 ha hs hH hC λa ha=>?_
  refine st_alloc ha rfl hs Ty.t238 rfl λb4 a w ha hs ho=>?_
  clear ho
  replace hC:=hH.at w (And.intro hs.rdAll hs.rdAll)
  refine RH 0 ha hs hH hC λa ha=>?_
  refine CL2 0 ha hs (tree_get (x:=x) (k:=kk) (hs.tree tq) hx) λad2 c2 a w ha hs=>?_
  refine SA 3 ha hs λa w ha hs=>?_
  refine RN 1 ha hs λa ha=>?_
  exact⟨_,ad2,c2,ha.keep [0,4,5],hs.sub⟩
 clear ha;(try clear hs)
 rintro a w ⟨b4,ad2,c2,ha,hs⟩
 refine RN 3 ha hs λa ha=>?_
 replace ha:=ha.isT 38
 refine IF 7 ha hs (λhc1 a ha=>?_) λhc1 a ha=>?_
 ·
  refine DWC 0 (λw0 w'=>Rd w' wb 0 (wkC p adO cO tq jq sq { k with busy:=false })∧Rd w' wb 6 [.int .i64 k.jb,.int .i64 k.je]) [7] [0,1,2,4,5,6,3003,1007,1008] ha hs λa w ha hs hH=>?_
  have hwp2:Rd w wb 6 [.int .i64 k.jb,.int .i64 k.je]:=(hs.rdAll (b:=wb)).part 6 2
  have hC:=hH.at w ⟨hs.rdAll,hwp2⟩
  refine RH 6 ha hs hH hC λa ha=>?_
  refine QH ha (λw hc=>ld1 ha (hc.1 3 _ rfl)) hC λa ha=>?_
  refine RH 0 ha hs hH hC λa ha=>?_
  refine SS ha (ex_loadN ha Tryz.underlying245 rfl Ty.t245 (hC.2)) λa ha=>?_
  refine RH 0 ha hs hH hC λa ha=>?_
  refine CL 0 ha hs (put_spec (hs.jobs jq) hJ) λa w ha hs=>?_
  change St W w (Jobs jq (putJ J k.jb k.je)::_) at hs
  refine RT 0 ha hs ?_
  refine⟨_,_,if x.done<x.press.length then putJ J k.jb k.je else J,{ k with busy:=false },rfl,.lost (x:=x) hb he hxm hid hpl hlt,?_⟩
  rw[if_pos (by omega)]
  exact hs.sub
 refine RT 0 ha hs ?_
 refine⟨_,_,if x.done<x.press.length then putJ J k.jb k.je else J,{ k with busy:=false },rfl,.lost (x:=x) hb he hxm hid hpl hlt,?_⟩
 rw[if_neg (by omega)]
 exact hs.sub
structure Ready (p:Pr)(A:Sn)(T:Tr)(J:Js)(k:Wk):Prop where
 pr:prOk p
 sz:p.title.size≤1000000000
 frm:∀ y∈T.l,0≤y.frm∧y.frm≤1099511627776
 br:∀ x∈T.l,∃ (i:Nat) (px:Pic),A.pics[i]?=some px∧px.id=x.snap
 wk:k.busy=true→(∃ (i:Nat) (px:Pic),A.pics[i]?=some px∧px.id=k.x∧px.refs=1∧gOk px.g)∧∀ y∈T.l,(y.id:Int)=k.jb→k.done<y.press.length
 n:A.n+1<1099511627776
 len:J.length≤16
theorem Inv.ready {F:Int}{g0:Nat→Int}{t:Nat→Nat}{base:Nat}{ws:List Wk}(h:Inv p F g0 t base A T ws)(hk:k∈ws)(hF:0≤F∧F≤1099511627776)(hp:prOk p)(hz:p.title.size≤1000000000)(hn:A.n+1<1099511627776)(hJ:J.length≤16):Ready p A T J k :=
 ⟨hp,hz,λy hy=>by rw[(h.brs y hy).1];exact hF,λx hx=>h.ofBr hx,λhb=>⟨by
   obtain⟨i,px,h1,h2⟩:=h.ofWk hk hb
   have h3:=h.pics px (List.mem_of_getElem? h1)
   exact⟨i,px,h1,h2,h3.1,h3.2⟩,λy hy he=>((h.wks k hk).2 hb y hy he).1⟩,hn,hJ⟩
theorem step_bit (hs:St W w (blk wb 247 (wkC p adO cO tq jq sq k)::Tree tq sq T::Store sq r A::Jobs jq J::RoP W p adO cO::L))(hr:Ready p A T J k) :
   Calls Tryz.prog 102 #[pt wb] w λe w'=>∃ (z:Bool) (A':Sn) (T':Tr) (J':Js) (k':Wk),e=.returned (.bool z)∧Bit p A T J k z A' T' J' k' ∧
     St W w' (blk wb 247 (wkC p adO cO tq jq sq k')::Tree tq sq T'::Store sq r A'::Jobs jq J'::RoP W p adO cO::L):=by
 refine EN Tryz.func102 Tryz.ntmps102 rfl rfl λa ha=>?_
 refine RN 6 ha hs λa ha=>?_
 replace ha:=ha.isF 6
 refine IF 8 ha hs (λhc1 a ha=>?_) λhc1 a ha=>?_
 ·
  refine CLX 2 ha hs (take_bit (p:=p) hs hc1 hr.br hr.n) ?_
  clear ha hs
  rintro e w ⟨z,A',J',k',rfl,hbit,hs⟩
  refine⟨_,rfl,λa ha=>?_⟩
  refine RT 1 ha hs ?_
  exact⟨z,A',T,J',k',rfl,hbit,hs⟩
 obtain⟨⟨i,px,hpx,hpid,hpr,hpg⟩,hdn⟩:=hr.wk hc1
 refine RN 0 ha hs λa ha=>?_
 refine wp_seq_cut (M:=λa w=>∃ (b3:Nat) (x:Br) (ad:Option Addr) (c:Nat) (ok:Bool),((ok=true∧x∈T.l∧(x.id:Int)=k.jb)∨(ok=false∧∀ y∈T.l,(y.id:Int)≠k.jb))∧Fr a 57 [(0,pt wb),(3,pt b3),(4,.bool ok)]∧St W w (blk b3 238 (brC x ad c)::OwnBB ad x.press.length c x.press::blk wb 247 (wkC p adO cO tq jq sq k)::Tree tq sq T::Store sq r A::Jobs jq J::RoP W p adO cO::L)) ?_ ?_
 ·
  refine DWC 0 (λw0 w'=>Rd w' wb 0 (wkC p adO cO tq jq sq k)) [8,13] [0,1,2,4,5,6,7,3003,3008,2009,10,11,12,1013,1014,15] ha hs λa w ha hs hH=>?_
  have hC:=hH.at w hs.rdAll
  refine RH 7 ha hs hH hC λa ha=>?_
  refine QH ha (λw hc=>ld1 ha (hc 2 _ rfl)) hC λa ha=>?_
  refine QH ha (λw hc=>ld1 ha (hc 6 _ rfl)) hC λa ha=>?_
  refine RH 0 ha hs hH hC λa ha=>?_
  refine DN [(9,[10,11,12,1013,1014,15]),(13,[1009,10,11,12,1014,15])] (by kernel_rfl) rfl ⟨⟨_,rfl,?_⟩,⟨_,rfl,?_⟩,trivial⟩
  ·
   refine RH 0 ha hs hH hC λa ha=>?_
   refine CLX 0 ha hs (tree_get_any (id:=k.jb) (hs.tree tq)) ?_
   clear ha hs
   rintro e w ⟨x,ad,c,ok,rfl,hok,hs⟩
   refine⟨_,rfl,λa ha=>?_⟩
   refine RN 3 ha hs λa ha=>?_
   refine st_alloc ha rfl hs Ty.t238 rfl λb3 a w ha hs ho=>?_
   clear ho
   replace hC:=hH.at w hs.rdAll
   refine RH 0 ha hs hH hC λa ha=>?_
   refine SA 0 ha hs λa w ha hs=>?_
   refine RN 1 ha hs λa ha=>?_
   exact⟨_,x,ad,c,ok,hok,ha.keep [0,3,4],hs.sub⟩
  refine RH 0 ha hs hH hC λa ha=>?_
  refine st_alloc ha rfl hs Ty.t238 rfl λb3 a w ha hs ho=>?_
  clear ho
  replace hC:=hH.at w hs.rdAll
  refine RH 0 ha hs hH hC λa ha=>?_
  refine CLX 0 ha hs (tree_get_any (id:=k.jb) (hs.tree tq)) ?_
  clear ha hs
  rintro e w ⟨x,ad,c,ok,rfl,hok,hs⟩
  refine⟨_,rfl,λa ha=>?_⟩
  refine SA 3 ha hs λa w ha hs=>?_
  refine RN 1 ha hs λa ha=>?_
  exact⟨_,x,ad,c,ok,hok,ha.keep [0,3,4],hs.sub⟩
 clear ha;(try clear hs)
 rintro a w ⟨b3,x,ad,c,ok,hok,ha,hs⟩
 refine DWC 2 (λw0 w'=>Rd w' wb 0 (wkC p adO cO tq jq sq k)) [8,9] [0,1,2,3,5,6,7,3004,1008,1009,10,11,12,13,14,15] ha hs λa w ha hs hH=>?_
 have hC:=hH.at w hs.rdAll
 refine RH 7 ha hs hH hC λa ha=>?_
 refine QH ha (λw hc=>ld1 ha (hc 7 _ rfl)) hC λa ha=>?_
 refine RH 0 ha hs hH hC λa ha=>?_
 refine SS ha (ld1 ha (hC 2 _ rfl)) λa ha=>?_
 refine RH 0 ha hs hH hC λa ha=>?_
 refine CL 0 ha hs (tree_epoch (hs.tree tq)) λa w ha hs=>?_
 replace hC:=hH.at w hs.rdAll
 refine RH 2 ha hs hH hC λa ha=>?_
 refine ha.by (s:=42) (λhg11 ha=>?_) (λhg11 ha=>?_)
 ·
  refine RH 4 ha hs hH hC λa ha=>?_
  refine CL 2 ha hs (rest_busy (L:=Tree tq sq T::Jobs jq J::RoP W p adO cO::L) (hs.sub (M:=blk wb 247 (wkC p adO cO tq jq sq k)::Store sq r A::Tree tq sq T::Jobs jq J::RoP W p adO cO::L)) hc1) λa w ha hs=>?_
  refine RT 2 ha hs ?_
  exact⟨true,A.dropId k.x,T,J,{ k with busy:=false },rfl,.gone hc1 (.inl hg11),hs.sub⟩
 refine RH 4 ha hs hH hC λa ha=>?_
 refine IF 0 ha hs (λhc2 a ha=>?_) λhc2 a ha=>?_
 ·
  have hno:∀ y∈T.l,(y.id:Int)≠k.jb:=by
    rcases hok with ⟨h,_⟩ | ⟨_,h⟩
    · rw[h]at hc2;cases hc2
    · exact h
  refine CL 1 ha hs (rest_busy (L:=Tree tq sq T::Jobs jq J::RoP W p adO cO::L) (hs.sub (M:=blk wb 247 (wkC p adO cO tq jq sq k)::Store sq r A::Tree tq sq T::Jobs jq J::RoP W p adO cO::L)) hc1) λa w ha hs=>?_
  refine RT 2 ha hs ?_
  exact⟨true,A.dropId k.x,T,J,{ k with busy:=false },rfl,.gone hc1 (.inr hno),hs.sub⟩
 obtain⟨hx,hid⟩:x∈T.l∧(x.id:Int)=k.jb:=by
   rcases hok with ⟨_,h⟩ | ⟨h,_⟩
   · exact h
   · rw[h]at hc2;cases hc2
 refine IF 7 ha hs (λhc3 a ha=>?_) λhc3 a ha=>?_
 ·
  refine CL3 2 ha hs (play_bit (hs.sub (M:=blk wb 247 (wkC p adO cO tq jq sq k)::OwnBB ad x.press.length c x.press::Tree tq sq T::Store sq r A::Jobs jq J::RoP W p adO cO::L)) hc1 hg11 hx hid hc3 hpx hpid hpr hpg (hdn x hx hid) (hr.frm x hx) hr.pr hr.sz hr.len) λA' J' k' a w ha ⟨hbit,hs⟩=>?_
  refine RT 2 ha hs ?_
  exact⟨true,A',T,J',k',rfl,hbit,hs⟩
 obtain⟨kk,hkk⟩:=List.mem_iff_getElem?.1 hx
 refine CLX 2 ha hs (publish_bit (p:=p) (L:=RoP W p adO cO::L) (hs.sub (M:=blk wb 247 (wkC p adO cO tq jq sq k)::Tree tq sq T::Store sq r A::Jobs jq J::RoP W p adO cO::L)) hc1 hg11 hkk hid hc3 hpx hpid (hdn x hx hid) hr.len) ?_
 clear ha hs
 rintro e w ⟨A',T',J',k',rfl,hbit,hs⟩
 refine⟨_,rfl,λa ha=>?_⟩
 refine RT 2 ha hs ?_
 exact⟨true,A',T',J',k',rfl,hbit,hs⟩
end
end
section
def byteN (s:ByteArray)(j:Nat):Nat:=(s.get! j).toNat
end
section
abbrev BBBx:=Option Addr×Nat×List BBx
end
section
section
theorem alikeP_iff {u v:List (List UInt8)}:alikeP u v=true↔u.take (min u.length v.length)=v.take (min u.length v.length):=by simp[alikeP]
end
end
section
abbrev Kx:=Wk×Nat
def ownK (p:Pr)(adO:Option Addr)(cO tq jq sq:Nat)(x:Kx):SP:=blk x.2 247 (wkC p adO cO tq jq sq x.1)
def ptrs (ks:List Kx):List Value:=ks.map λx=>pt x.2
theorem ptrs_at {ks:List Kx}{i:Nat}{k:Wk}{wb:Nat}(h:ks[i]?=some (k,wb)):(ptrs ks)[i]?=some (pt wb):=by rw[ptrs,List.getElem?_map,h];rfl
theorem ptrs_set {ks:List Kx}{i:Nat}{k k':Wk}{wb:Nat}(h:ks[i]?=some (k,wb)):ptrs (ks.set i (k',wb))=ptrs ks:=by
 have hi:=(List.getElem?_eq_some_iff.1 h).1
 apply List.ext_getElem?
 intro j
 simp only[ptrs,List.getElem?_map,List.getElem?_set]
 by_cases hj:i=j
 · subst hj;rw[if_pos rfl,if_pos hi,h];rfl
 · rw[if_neg hj]
theorem fst_set {ks:List Kx}{i:Nat}{k k':Wk}{wb:Nat}(h:ks[i]?=some (k,wb)):(ks.map (·.1)).Perm (k::(ks.eraseIdx i).map (·.1))∧((ks.set i (k',wb)).map (·.1)).Perm (k'::(ks.eraseIdx i).map (·.1)):=by
 obtain⟨hi,he⟩:=List.getElem?_eq_some_iff.1 h
 have h1:=(erase_perm ks hi).map (·.1)
 rw[List.map_cons,he]at h1
 have h2:=(erase_perm (ks.set i (k',wb)) (by simpa using hi)).map (·.1)
 rw[List.map_cons,List.getElem_set_self,List.eraseIdx_set_eq]at h2
 exact⟨h1,h2⟩
section
variable {W w:World}{L:List SP}{tq jq sq r wb i cO n base:Nat}{adO:Option Addr}{A:Sn}{T:Tr}{J:Js}{k:Wk}{p:Pr}{x:Br}{px:Pic}{ks:List Kx}{t:Nat→Nat}
theorem St.ownOut (hs:St W w (All (ownK p adO cO tq jq sq) ks::L))(hk:ks[i]?=some (k,wb)):St W w (blk wb 247 (wkC p adO cO tq jq sq k)::All (ownK p adO cO tq jq sq) (ks.eraseIdx i)::L):=by
 obtain⟨hi,he⟩:=List.getElem?_eq_some_iff.1 hk
 have:=hs.allOut hi
 rw[he]at this
 exact this
theorem St.ownIn {k':Wk}(hs:St W w (blk wb 247 (wkC p adO cO tq jq sq k')::All (ownK p adO cO tq jq sq) (ks.eraseIdx i)::L))(hk:ks[i]?=some (k,wb)):St W w (All (ownK p adO cO tq jq sq) (ks.set i (k',wb))::L) :=
 St.allPut (f:=ownK p adO cO tq jq sq) (x:=(k',wb)) (List.getElem?_eq_some_iff.1 hk).1 hs
theorem shop_step {F:Int}{g0:Nat→Int}(hs:St W w (All (ownK p adO cO tq jq sq) ks::Tree tq sq T::Store sq r A::Jobs jq J::RoP W p adO cO::L))(hk:ks[i]?=some (k,wb))(hI:Inv p F g0 t base A T (ks.map (·.1)))
   (hF:0≤F∧F≤1099511627776) (hp:prOk p) (hz:p.title.size≤1000000000) (hn:A.n+1<1099511627776) (hJ:J.length≤16) :
   Calls Tryz.prog 102 #[pt wb] w λe w'=>∃ (z:Bool) (A':Sn) (T':Tr) (J':Js) (k':Wk),e=.returned (.bool z)∧(Bit p A T J k z A' T' J' k'∧Inv p F g0 t base A' T' ((ks.set i (k',wb)).map (·.1))∧Near A T J A' T' J') ∧
     St W w' (All (ownK p adO cO tq jq sq) (ks.set i (k',wb))::Tree tq sq T'::Store sq r A'::Jobs jq J'::RoP W p adO cO::L):=by
 have hA:=(Store.facts (hs.store sq)).1
 have hT:=Tree.wt (hs.tree tq)
 have hmem:k∈ks.map (·.1):=List.mem_map.2 ⟨_,List.mem_of_getElem? hk,rfl⟩
 have h1:=hs.ownOut hk
 refine (step_bit (L:=All (ownK p adO cO tq jq sq) (ks.eraseIdx i)::L) (h1.sub (M:=blk wb 247 (wkC p adO cO tq jq sq k)::Tree tq sq T::Store sq r A::Jobs jq J::RoP W p adO cO::All (ownK p adO cO tq jq sq) (ks.eraseIdx i)::L)) (hI.ready hmem hF hp hz hn hJ)).mono λe w' ⟨z,A',T',J',k',he,hb,hs⟩=>?_
 refine⟨z,A',T',J',k',he,⟨hb,((hI.permW (fst_set (k':=k') hk).1).bit hA hT hb).permW (fst_set (k':=k') hk).2.symm,hb.near⟩,?_⟩
 have h2:=St.ownIn (i:=i) (ks:=ks) (k:=k) (k':=k') (hs.sub (M:=blk wb 247 (wkC p adO cO tq jq sq k')::All (ownK p adO cO tq jq sq) (ks.eraseIdx i)::Tree tq sq T'::Store sq r A'::Jobs jq J'::RoP W p adO cO::L)) hk
 exact h2
theorem shop_rest {F:Int}{g0:Nat→Int}(hs:St W w (All (ownK p adO cO tq jq sq) ks::Store sq r A::L))(hk:ks[i]?=some (k,wb))(hI:Inv p F g0 t base A T (ks.map (·.1))) :
   Calls Tryz.prog 145 #[pt wb] w λe w'=>∃ (A':Sn) (k':Wk),e=.returned (.bool k.busy)∧(k'.busy=false∧Inv p F g0 t base A' T ((ks.set i (k',wb)).map (·.1))∧A'.room=A.room∧A'.n=A.n) ∧
     St W w' (All (ownK p adO cO tq jq sq) (ks.set i (k',wb))::Store sq r A'::L):=by
 have hA:=(Store.facts (hs.store sq)).1
 have h1:=hs.ownOut hk
 cases hb:k.busy with
 | false =>
   refine (rest_idle h1 hb).mono λe w' ⟨he,hs⟩=>⟨A,k,he,⟨hb,(hI.permW (fst_set (k':=k) hk).1).permW (fst_set (k':=k) hk).2.symm,rfl,rfl⟩,?_⟩
   exact St.ownIn (i:=i) (ks:=ks) (k:=k) (k':=k) hs hk
 | true =>
   refine (rest_busy (L:=All (ownK p adO cO tq jq sq) (ks.eraseIdx i)::L) (h1.sub (M:=blk wb 247 (wkC p adO cO tq jq sq k)::Store sq r A::All (ownK p adO cO tq jq sq) (ks.eraseIdx i)::L)) hb).mono λe w' ⟨he,hs⟩=>?_
   refine⟨A.dropId k.x,{ k with busy:=false },he,⟨rfl,((hI.permW (fst_set (k':={ k with busy:=false }) hk).1).rest (k':={ k with busy:=false }) hA hb rfl rfl).permW (fst_set (k':={ k with busy:=false }) hk).2.symm,(dropId_same A _).1,(dropId_same A _).2.1⟩,?_⟩
   exact St.ownIn (i:=i) (ks:=ks) (k:=k) (k':={ k with busy:=false }) (hs.sub (M:=blk wb 247 (wkC p adO cO tq jq sq { k with busy:=false })::All (ownK p adO cO tq jq sq) (ks.eraseIdx i)::Store sq r (A.dropId k.x)::L)) hk
theorem worker_new (hs:St W w L):Calls Tryz.prog 92 #[.agg (prV p adO cO).toArray,pt tq,pt jq,pt sq] w λe w' =>
   ∃ wb,e=.returned (pt wb)∧St W w' (blk wb 247 (wkC p adO cO tq jq sq wk0)::L):=by
 refine EN Tryz.func92 Tryz.ntmps92 rfl rfl λa ha=>?_
 refine BX 1 ha hs λb4 a w ha hs=>?_
 change St W w (blk b4 45 (prV p adO cO)::_) at hs
 refine RN 3 ha hs λa ha=>?_
 change Fr a 15 ((9,.agg (List.toArray [.string p.title,.slice adO p.ops.length cO]))::_) at ha
 refine BX 4 ha hs λb14 a w ha hs=>?_
 change St W w (blk b14 247 (wkC p adO cO tq jq sq wk0)::_) at hs
 refine RT 1 ha hs ?_
 exact⟨b14,rfl,hs.sub⟩
theorem add_try {frm:Int}{ad2:Option Addr}{c2 id:Nat}{zs:List BBx}{P:List (List UInt8)}(hs:St W w (Tree tq sq T::Store sq r A::L))(hr:∀ w',St W w' L→RdX w' ad2 zs)(hz:zs.map (·.2.2)=P)(hc:P.length≤c2)(hok:OkP P)
   (hx:A.pics[i]?=some px) (hid:px.id=id) (hb:A.n+1<1099511627776) (hl:T.last+1<1099511627776) (hm:T.l.length<T.most) :
   Calls Tryz.prog 306 #[pt tq,.int .i64 frm,.int .i64 id,.slice ad2 P.length c2] w λe w'=>∃ (z:Nat) (ok:Bool),e=.returned (.tuple #[.int .i64 z,.bool ok]) ∧
     ((ok=false∧(P=[]∨∃ y∈T.l,y.is frm P)∧St W w' (Tree tq sq T::Store sq r A::L)) ∨
      (ok=true∧z=T.last+1∧P≠[]∧(∀ y∈T.l,¬ y.is frm P)∧St W w' (Tree tq sq (T.add frm P (A.last+1))::Store sq r (A.add px.g px.p)::L))):=by
 subst hid
 rcases Nat.eq_zero_or_pos P.length with h0 | h0
 · have hP:=List.eq_nil_of_length_eq_zero h0
   exact (add_full hs (.inr h0)).mono λe w' ⟨h1,hs⟩=>⟨0,false,h1,.inl ⟨rfl,.inl hP,hs⟩⟩
 · have hP:P≠[]:=List.length_pos_iff.1 h0
   by_cases hex:∃ y∈T.l,y.is frm P
   · obtain⟨y,hy,his⟩:=hex
     obtain⟨j,hj⟩:=List.mem_iff_getElem?.1 hy
     have hbb:∀ w',St W w' (Store sq r A::L)→RdBB w' ad2 P.length P:=λw' h=>by
       have:=(hr w' h.tail).bb
       rw[hz]at this
       rwa [show zs.length=P.length from by rw[← hz,List.length_map]]at this
     exact (add_dup hs hbb hc hok hj his).mono λe w' ⟨h1,hs⟩=>⟨0,false,h1,.inl ⟨rfl,.inr ⟨y,hy,his⟩,hs⟩⟩
   · have hno:∀ y∈T.l,¬ y.is frm P:=λy hy h=>hex ⟨y,hy,h⟩
     exact (add_ok hs hr hz hc hok hx hb hl hno hm h0).mono λe w' ⟨h1,hs⟩=>⟨T.last+1,true,h1,.inr ⟨rfl,rfl,hP,hno,hs⟩⟩
end
end
section
section
variable {W w:World}{L:List SP}{sq r i:Nat}{A:Sn}{px:Pic}
theorem snap_state_id {id:Nat}(hs:St W w (Store sq r A::L))(hx:A.pics[i]?=some px)(hid:px.id=id) :
   Calls Tryz.prog 290 #[pt sq,.int .i64 id] w λe w'=>e=.returned (.tuple #[.agg (ints .i32 32 px.g).toArray,.bool true])∧St W w' (Store sq r A::L):=by
 subst hid;exact snap_state hs hx
set_option maxHeartbeats 4000000 in
end
end
section
section
variable {P:Program}{ops:Array Oper}{Q:Exit→Act→World→Prop}{a:Act}{w w' W:World}{K:Act→World→Prop}{n d:Nat}{l:List (Nat×Value)}{v:Value}{L R:List SP}
theorem st_appendT {s x t z sz by' e ad k c ad2 m c2 news ty ps af g}{cs:List Value}(ha:Fr a n l)(hw:Region.wanted ⟨some d,.call ⟨.builtin .append,#[s,x],#[t,t]⟩,ty,ps,af,g⟩ (yielded ops a.tmps)=true)(hs:St W w L)
   (ht:P.underlying t=some (.slice e)) (hi:TI P e z sz by') (hf:okB d n l=true) (hz:z.cells.size=sz) (hb:0<by')
   [e1:Ev l s (.slice ad k c)] [pk:PickSl L ad k c e sz cs R] [e2:Ev l x (.slice ad2 m c2)] (hr:0<m→∃ b2 off2,ad2=some ⟨b2,off2,none⟩∧Rd w b2 off2 news) (hl:news.length=m*sz) (h1:∀ v∈news,v.oneCell'=true)
   (hsz:(k+m)*by'≤140737488355328)
   (h:∀ ad' c' a' w',Fr a' n ((d,.slice ad' (k+m) c')::l)→St W w' (Sl e sz ad' (k+m) c' (cs++news)::R)→K a' w') :
   StepK P ops Q ⟨some d,.call ⟨.builtin .append,#[s,x],#[t,t]⟩,ty,ps,af,g⟩ K a w:=by
 rcases Nat.eq_zero_or_pos m with h0 | h0
 · subst h0
   have hkc:=(hs.sl ad).2
   obtain rfl:news=[]:=List.eq_nil_of_length_eq_zero (by rw[hl,Nat.zero_mul])
   refine st_append0 (ad:=ad) (k:=k) (c:=c) (ad2:=ad2) (c2:=c2) ha hw ht hi hf hkc λa' ha'=>h ad c a' w ha' ?_
   rw[List.append_nil]
   exact hs.perm pk.perm
 · obtain⟨b2,off2,rfl,hrd⟩:=hr h0
   exact st_append ha hw hs ht hi hz hf hrd hl h1 h0 hb hsz h
end
theorem St.litS {W w:World}{L:List SP}{b e n:Nat}{cs:List Value}{l:List UInt8}(hs:St W w (blk b e cs::L))(he:e=5)(hl:l.length=n)(h:cs=bc l):St W w (Sl 5 1 (some ⟨b,0,none⟩) n n (bc l)::L):=by
 subst h;subst he
 have h2:St W w (blk b 5 ([]++bc l++[])::L):=by simpa using hs
 exact St.slShut (pre:=[]) (post:=[]) (n:=n) (c:=n) (sz:=1) (cs:=bc l) h2 (by rw[bc_len,hl,Nat.mul_one]) (Nat.le_refl _) (by simp)
theorem bc_at {bs:List UInt8}{i:Nat}(h:i<bs.length):(bc bs)[i]?=some (.int .u8 ((bs[i]).toNat:Int)):=by simp[bc,h]
theorem bc_app (a b:List UInt8):bc (a++b)=bc a++bc b:=by simp[bc]
theorem RdB.get {w:World}{ad:Option Addr}{m:Nat}{bs:List UInt8}(h:RdB w ad m bs)(h0:0<m):∃ b o,ad=some ⟨b,o,none⟩∧Rd w b o (bc bs):=by
 obtain⟨_,h2,h3⟩:=h
 cases hh:ad with
 | none=>have:=h2 hh;omega
 | some a =>
   obtain⟨b,o,rfl,h1⟩:=h3 a hh h0
   exact⟨b,o,rfl,h1⟩
theorem RdB.rd {w:World}{b o m:Nat}{bs:List UInt8}(h:RdB w (some ⟨b,o,none⟩) m bs)(h0:0<m):Rd w b o (bc bs):=by
 obtain⟨b',o',e,h1⟩:=h.get h0
 cases e;exact h1
theorem RdB.cutL {w:World}{ad:Option Addr}{bs:List UInt8}{c:Nat}(h:RdB w ad bs.length bs){lo:Nat}(hl:lo≤bs.length)(hc:bs.length≤c):RdB w (cutAd ad lo c 1) (bs.drop lo).length (bs.drop lo):=by
 refine⟨rfl,λe=>?_,λx hx h0=>?_⟩
 · rw[List.length_drop]
   rcases Nat.eq_zero_or_pos (bs.length-lo) with h0 | h0
   · exact h0
   · obtain⟨b,o,rfl,_⟩:=h.get (by omega)
     rw[cutAd_some (by omega)]at e;cases e
 · rw[List.length_drop]at h0
   obtain⟨b,o,rfl,hr⟩:=h.get (by omega)
   rw[cutAd_some (by omega)]at hx
   cases hx
   refine⟨b,o+lo*1,rfl,λj v hj=>?_⟩
   have h1:=hr (lo+j) v (by rw[bc,List.getElem?_map,← List.getElem?_drop,← List.getElem?_map];exact hj)
   rwa [show o+lo*1+j=o+(lo+j) from by omega]
theorem RdB.cutH {w:World}{ad:Option Addr}{bs:List UInt8}{m:Nat}(h:RdB w ad m bs){hi:Nat}(hl:hi≤bs.length):RdB w ad hi (bs.take hi):=by
 obtain⟨h1,h2,h3⟩:=h
 refine⟨by rw[List.length_take];omega,λe=>by have:=h2 e;omega,λx hx h0=>?_⟩
 obtain⟨b,o,e,hr⟩:=h3 x hx (by omega)
 refine⟨b,o,e,λj v hj=>hr j v ?_⟩
 rw[bc,List.map_take,List.getElem?_take]at hj
 split at hj
 · exact hj
 · cases hj
theorem bv32 (x:Nat):BitVec.ofInt IntKind.u32.bits (x:Int)=BitVec.ofNat 32 x:=BitVec.ofInt_natCast 32 x
theorem bv64 (x:Nat):BitVec.ofInt IntKind.u64.bits (x:Int)=BitVec.ofNat 64 x:=BitVec.ofInt_natCast 64 x
theorem xor_u32 {x y:Nat}(hx:x<4294967296)(hy:y<4294967296):IntKind.u32.wrap (((BitVec.ofInt IntKind.u32.bits (x:Int) ^^^ BitVec.ofInt IntKind.u32.bits (y:Int)).toNat:Nat):Int)=((x ^^^ y:Nat):Int):=by
 rw[bv32,bv32]
 show IntKind.u32.wrap (((BitVec.ofNat 32 x ^^^ BitVec.ofNat 32 y).toNat:Nat):Int)=_
 rw[BitVec.toNat_xor,BitVec.toNat_ofNat,BitVec.toNat_ofNat,Nat.mod_eq_of_lt (show x<2 ^ 32 from hx),Nat.mod_eq_of_lt (show y<2 ^ 32 from hy),wrap_u32]
 have:=Nat.xor_lt_two_pow (n:=32) hx hy
 omega
theorem and_u32 {x y:Nat}(hx:x<4294967296)(hy:y<4294967296):IntKind.u32.wrap (((BitVec.ofInt IntKind.u32.bits (x:Int) &&& BitVec.ofInt IntKind.u32.bits (y:Int)).toNat:Nat):Int)=((x &&& y:Nat):Int):=by
 rw[bv32,bv32]
 show IntKind.u32.wrap (((BitVec.ofNat 32 x &&& BitVec.ofNat 32 y).toNat:Nat):Int)=_
 rw[BitVec.toNat_and,BitVec.toNat_ofNat,BitVec.toNat_ofNat,Nat.mod_eq_of_lt (show x<2 ^ 32 from hx),Nat.mod_eq_of_lt (show y<2 ^ 32 from hy),wrap_u32]
 have:x &&& y≤x:=Nat.and_le_left
 omega
theorem com_u32 {x:Nat}(h:x<4294967296):IntKind.u32.wrap (((BitVec.ofInt IntKind.u32.bits (if IntKind.u32.signed then -1 else IntKind.u32.max) ^^^ BitVec.ofInt IntKind.u32.bits (x:Int)).toNat:Nat):Int)=((4294967295-x:Nat):Int):=by
 have e:BitVec.ofInt IntKind.u32.bits (if IntKind.u32.signed then -1 else IntKind.u32.max)=BitVec.allOnes 32:=by
   show BitVec.ofInt 32 IntKind.u32.max=_
   decide
 rw[e,bv32]
 show IntKind.u32.wrap (((BitVec.allOnes 32 ^^^ BitVec.ofNat 32 x).toNat:Nat):Int)=_
 rw[BitVec.allOnes_xor,BitVec.toNat_not,BitVec.toNat_ofNat,wrap_u32]
 rw[Nat.mod_eq_of_lt (show x<2 ^ 32 from h)]
 omega
theorem or_u64 {x y:Nat}(hx:x<18446744073709551616)(hy:y<18446744073709551616):IntKind.u64.wrap (((BitVec.ofInt IntKind.u64.bits (x:Int) ||| BitVec.ofInt IntKind.u64.bits (y:Int)).toNat:Nat):Int)=((x ||| y:Nat):Int):=by
 rw[bv64,bv64]
 show IntKind.u64.wrap (((BitVec.ofNat 64 x ||| BitVec.ofNat 64 y).toNat:Nat):Int)=_
 rw[BitVec.toNat_or,BitVec.toNat_ofNat,BitVec.toNat_ofNat,Nat.mod_eq_of_lt (show x<2 ^ 64 from hx),Nat.mod_eq_of_lt (show y<2 ^ 64 from hy),wrap_u64]
 have:=Nat.or_lt_two_pow (n:=64) hx hy
 omega
theorem and_u64 {x y:Nat}(hx:x<18446744073709551616)(hy:y<18446744073709551616):IntKind.u64.wrap (((BitVec.ofInt IntKind.u64.bits (x:Int) &&& BitVec.ofInt IntKind.u64.bits (y:Int)).toNat:Nat):Int)=((x &&& y:Nat):Int):=by
 rw[bv64,bv64]
 show IntKind.u64.wrap (((BitVec.ofNat 64 x &&& BitVec.ofNat 64 y).toNat:Nat):Int)=_
 rw[BitVec.toNat_and,BitVec.toNat_ofNat,BitVec.toNat_ofNat,Nat.mod_eq_of_lt (show x<2 ^ 64 from hx),Nat.mod_eq_of_lt (show y<2 ^ 64 from hy),wrap_u64]
 have:x &&& y≤x:=Nat.and_le_left
 omega
theorem u8_lt (b:UInt8):b.toNat<256:=b.toNat_lt
def crcBit (x:Nat):Nat:=if x%2=1 then x/2 ^^^ 3988292384 else x/2
def crcBits:Nat→Nat→Nat
 | 0,y=>y
 | k+1,y=>crcBit (crcBits k y)
def crcByte (x:Nat)(b:UInt8):Nat:=crcBits 8 (x ^^^ b.toNat)
def crcL (bs:List UInt8):Nat:=bs.foldl crcByte 4294967295
def crcSum (bs:List UInt8):Nat:=4294967295-crcL bs
theorem crcBit_lt {x:Nat}(h:x<4294967296):crcBit x<4294967296:=by
 unfold crcBit
 split
 · exact Nat.xor_lt_two_pow (n:=32) (by show x/2<4294967296;omega) (by decide)
 · omega
theorem crcBits_lt {x:Nat}(h:x<4294967296):∀ k,crcBits k x<4294967296
 | 0=>h
 | k+1=>crcBit_lt (crcBits_lt h k)
theorem crcByte_lt {x:Nat}(b:UInt8)(h:x<4294967296):crcByte x b<4294967296:=by
 refine crcBits_lt (Nat.xor_lt_two_pow (n:=32) h ?_) 8
 have:=u8_lt b
 show b.toNat<4294967296
 omega
theorem crcFold_lt (bs:List UInt8):∀ {x:Nat},x<4294967296→bs.foldl crcByte x<4294967296:=by
 induction bs with
 | nil=>exact λh=>h
 | cons b bs ih=>exact λh=>ih (crcByte_lt b h)
theorem crcL_lt (bs:List UInt8):crcL bs<4294967296:=crcFold_lt bs (by decide)
theorem crcSum_lt (bs:List UInt8):crcSum bs<4294967296:=by unfold crcSum;omega
theorem crcL_succ {bs:List UInt8}{i:Nat}(h:i<bs.length):crcL (bs.take (i+1))=crcByte (crcL (bs.take i)) bs[i]:=by
 rw[crcL,List.take_succ_eq_append_getElem h,List.foldl_append];rfl
theorem crc_and1 {x:Nat}(h:x<4294967296):IntKind.u32.wrap (((BitVec.ofInt IntKind.u32.bits (x:Int) &&& BitVec.ofInt IntKind.u32.bits 1).toNat:Nat):Int)=((x%2:Nat):Int):=by
 have h1:=and_u32 (y:=1) h (by decide)
 rw[Nat.and_one_is_mod]at h1;exact h1
theorem crc_neg {m:Nat}(h:m<2):IntKind.u32.wrap (0-(m:Int))=((if m=1 then 4294967295 else 0:Nat):Int):=by
 rcases (by omega:m=0∨m=1) with rfl | rfl <;> decide
theorem crc_poly (m:Nat):IntKind.u32.wrap (((BitVec.ofInt IntKind.u32.bits 3988292384 &&& BitVec.ofInt IntKind.u32.bits ((if m=1 then 4294967295 else 0:Nat):Int)).toNat:Nat):Int)=((if m=1 then 3988292384 else 0:Nat):Int):=by
 by_cases h:m=1
 · rw[if_pos h,if_pos h];decide
 · rw[if_neg h,if_neg h];decide
theorem crc_xor {x m:Nat}(hx:x<4294967296):IntKind.u32.wrap (((BitVec.ofInt IntKind.u32.bits ((x/2:Nat):Int) ^^^ BitVec.ofInt IntKind.u32.bits ((if x%2=1 then 3988292384 else 0:Nat):Int)).toNat:Nat):Int)=((crcBit x:Nat):Int):=by
 rw[xor_u32 (by omega) (by split <;> decide),crcBit]
 split
 · rfl
 · rw[Nat.xor_zero]
def fourL (x:Nat):List UInt8:=[UInt8.ofNat (x/16777216),UInt8.ofNat (x/65536),UInt8.ofNat (x/256),UInt8.ofNat x]
theorem u8nat (n:Nat):IntKind.u8.wrap (n:Int)=((UInt8.ofNat n).toNat:Int):=by
 rw[wrap_u8,UInt8.toNat_ofNat'];omega
def unI (x:Int):Nat:=(x%4294967296).toNat
theorem wrap_un (x:Int):IntKind.u32.wrap x=((unI x:Nat):Int):=by rw[wrap_u32,unI];omega
def gameB (g:Nat→Int):List UInt8:=(List.range 32).flatMap λi=>fourL (unI (g i))
def gameBn (g:Nat→Int)(n:Nat):List UInt8:=(List.range n).flatMap λi=>fourL (unI (g i))
theorem gameBn_succ (g:Nat→Int)(n:Nat):gameBn g (n+1)=gameBn g n++fourL (unI (g n)):=by simp[gameBn,List.range_succ]
theorem gameBn_len (g:Nat→Int)(n:Nat):(gameBn g n).length=4*n:=by
 induction n with
 | zero=>rfl
 | succ n ih=>rw[gameBn_succ,List.length_append,ih];simp[fourL];omega
theorem gameB_len (g:Nat→Int):(gameB g).length=128:=gameBn_len g 32
section
variable {W w:World}{L:List SP}{n c m:Nat}{ad:Option Addr}{bs:List UInt8}
theorem crc_more (hs:St W w L)(hb:bs.length≤1099511627776)(hp:∀ w',St W w' L→RdB w' ad bs.length bs) :
   Calls Tryz.prog 205 #[.int .u32 0,.slice ad bs.length c] w λe w'=>e=.returned (.int .u32 (crcSum bs))∧St W w' L:=by
 refine EN Tryz.func205 Tryz.ntmps205 rfl rfl λa ha=>?_
 refine RN 6 ha hs λa ha=>?_
 rw[show IntKind.u32.wrap ((BitVec.ofInt IntKind.u32.bits (if IntKind.u32.signed then -1 else IntKind.u32.max) ^^^ BitVec.ofInt IntKind.u32.bits 0).toNat:Int)=((crcL (bs.take 0):Nat):Int) from rfl]at ha
 refine RN 5 ha hs λa ha=>?_
 refine wp_loop_ghost (λμ a w=>∃ (i:Nat),(μ=bs.length-i∧i≤bs.length)∧Fr a 33 [(5,.int .u32 (crcL (bs.take i))),(10,.slice ad bs.length c),(11,.int .i64 bs.length),(12,.int .i64 i)]∧St W w L) (bs.length) (⟨0,⟨rfl,by omega⟩,ha.keep [5,10,11,12],hs⟩) ?_
 clear ha hs
 rintro μ a w ⟨i,⟨rfl,hi⟩,ha,hs⟩
 refine IF 3 ha hs (λhc0 a ha=>?_) λhc0 a ha=>?_
 ·
  obtain⟨bb,oo,rfl,hr⟩:=(hp _ hs).get (by omega)
  have hil:i<bs.length:=by omega
  have hx:=crcL_lt (bs.take i)
  have hb8:=u8_lt bs[i]
  refine RN 3 ha hs λa ha=>?_
  refine SS ha (ld1 ha (hr i _ (bc_at hil))) λa ha=>?_
  refine SX 4 ha hs (by rw[wrap_u32];omega) λa ha=>?_
  refine RN 1 ha hs λa ha=>?_
  rw[xor_u32 hx (by omega)]at ha
  refine RN 3 ha hs λa ha=>?_
  have hy:crcL (bs.take i) ^^^ bs[i].toNat<4294967296:=Nat.xor_lt_two_pow (n:=32) hx (by show _<4294967296;omega)
  have hcs:=crcL_succ hil
  rw[crcByte]at hcs
  generalize crcL (bs.take i) ^^^ bs[i].toNat=y at ha hy hcs
  refine wp_loop_ghost (λμ a w=>∃ (k:Nat),(μ=8-k∧k≤8)∧Fr a 33 [(5,.int .u32 (crcBits k y)),(10,.slice (some ⟨bb,oo,none⟩) bs.length c),(11,.int .i64 bs.length),(12,.int .i64 i),(20,.int .i64 k)]∧St W w L) (8) (⟨0,⟨rfl,by omega⟩,ha.keep [5,10,11,12,20],hs⟩) ?_
  clear ha hs
  rintro μ a w ⟨k,⟨rfl,hk⟩,ha,hs⟩
  refine IF 3 ha hs (λhc1 a ha=>?_) λhc1 a ha=>?_
  ·
   have hyk:=crcBits_lt hy k
   refine RN 3 ha hs λa ha=>?_
   rw[show ((crcBits k y:Nat):Int).fdiv (2 ^ 1)=((crcBits k y/2:Nat):Int) from fdivN _ 2]at ha
   refine RN 2 ha hs λa ha=>?_
   rw[crc_and1 hyk]at ha
   refine RN 1 ha hs λa ha=>?_
   rw[crc_neg (Nat.mod_lt _ (by decide))]at ha
   refine RN 1 ha hs λa ha=>?_
   rw[crc_poly]at ha
   refine RN 1 ha hs λa ha=>?_
   rw[crc_xor (m:=0) hyk]at ha
   refine RN 3 ha hs λa ha=>?_
   exact⟨8-(k+1),by omega,k+1,⟨rfl,by omega⟩,ha.keep [5,10,11,12,20],hs⟩
  obtain rfl:k=8:=by omega
  rw[← hcs]at ha
  refine RN 2 ha hs λa ha=>?_
  exact⟨bs.length-(i+1),by omega,i+1,⟨rfl,by omega⟩,ha.keep [5,10,11,12],hs⟩
 obtain rfl:i=bs.length:=by omega
 rw[List.take_length]at ha
 refine RN 3 ha hs λa ha=>?_
 rw[com_u32 (crcL_lt bs)]at ha
 refine RT 1 ha hs ?_
 exact⟨rfl,hs⟩
theorem crc_sum (hs:St W w L)(hb:bs.length≤1099511627776)(hp:∀ w',St W w' L→RdB w' ad bs.length bs) :
   Calls Tryz.prog 176 #[.slice ad bs.length c] w λe w'=>e=.returned (.int .u32 (crcSum bs))∧St W w' L:=by
 refine EN Tryz.func176 Tryz.ntmps176 rfl rfl λa ha=>?_
 refine CL 4 ha hs (crc_more hs hb hp) λa w ha hs=>?_
 refine RT 1 ha hs ?_
 exact⟨rfl,hs⟩
theorem four_shape {x:Nat}:[[Value.int .u8 (IntKind.u8.wrap ((x/16777216:Nat):Int))],[Value.int .u8 (IntKind.u8.wrap ((x/65536:Nat):Int))],[Value.int .u8 (IntKind.u8.wrap ((x/256:Nat):Int))],[Value.int .u8 (IntKind.u8.wrap ((x:Nat):Int))]].flatten=bc (fourL x):=by
 simp only[u8nat];rfl
theorem St.fourS {b:Nat}{cs:List Value}{l:List UInt8}{e:Nat}(hs:St W w (blk b e cs::L))(he:e=5)(hl:l.length=4)(h:cs=bc l):St W w (Sl 5 1 (some ⟨b,0,none⟩) 4 4 (bc l)::L):=by
 subst h;subst he
 have h2:St W w (blk b 5 ([]++bc l++[])::L):=by simpa using hs
 exact St.slShut (pre:=[]) (post:=[]) (n:=4) (c:=4) (sz:=1) (cs:=bc l) h2 (by rw[bc_len,hl]) (Nat.le_refl _) (Nat.zero_le _)
theorem num_four {x:Nat}(hs:St W w L) :
   Calls Tryz.prog 337 #[.int .u32 x] w λe w'=>∃ ad,e=.returned (.slice ad 4 4)∧St W w' (Sl 5 1 ad 4 4 (bc (fourL x))::L):=by
 refine EN Tryz.func337 Tryz.ntmps337 rfl rfl λa ha=>?_
 refine RN 5 ha hs λa ha=>?_
 rw[show ((x:Nat):Int).fdiv (2 ^ 24)=((x/16777216:Nat):Int) from fdivN _ 16777216]at ha
 refine SS ha (ex_convII ha Tryz.underlying100 Tryz.underlying5) λa ha=>?_
 refine RN 2 ha hs λa ha=>?_
 rw[show ((x:Nat):Int).fdiv (2 ^ 16)=((x/65536:Nat):Int) from fdivN _ 65536]at ha
 refine SS ha (ex_convII ha Tryz.underlying100 Tryz.underlying5) λa ha=>?_
 refine RN 2 ha hs λa ha=>?_
 rw[show ((x:Nat):Int).fdiv (2 ^ 8)=((x/256:Nat):Int) from fdivN _ 256]at ha
 refine SS ha (ex_convII ha Tryz.underlying100 Tryz.underlying5) λa ha=>?_
 refine RN 1 ha hs λa ha=>?_
 refine SS ha (ex_convII ha Tryz.underlying100 Tryz.underlying5) λa ha=>?_
 refine RN 0 ha hs λa ha=>?_
 refine st_buildSlice ha rfl hs Tryz.underlying22 Ty.t5 rfl rfl rfl rfl (by decide) (by decide) λb14 a w ha hs ho=>?_
 clear ho
 refine RT 1 ha hs ?_
 exact⟨_,rfl,hs.fourS rfl rfl four_shape⟩
theorem word_put {x:Int}(hs:St W w L) :
   Calls Tryz.prog 206 #[.int .i32 x] w λe w'=>∃ ad,e=.returned (.slice ad 4 4)∧St W w' (Sl 5 1 ad 4 4 (bc (fourL (unI x)))::L):=by
 refine EN Tryz.func206 Tryz.ntmps206 rfl rfl λa ha=>?_
 refine RN 4 ha hs λa ha=>?_
 refine SS ha (ex_convII ha Tryz.underlying21 Tryz.underlying100) λa ha=>?_
 rw[wrap_un]at ha
 generalize unI x=x at ha ⊢
 refine RN 4 ha hs λa ha=>?_
 rw[show ((x:Nat):Int).fdiv (2 ^ 24)=((x/16777216:Nat):Int) from fdivN _ 16777216]at ha
 refine SS ha (ex_convII ha Tryz.underlying100 Tryz.underlying5) λa ha=>?_
 refine RN 2 ha hs λa ha=>?_
 rw[show ((x:Nat):Int).fdiv (2 ^ 16)=((x/65536:Nat):Int) from fdivN _ 65536]at ha
 refine SS ha (ex_convII ha Tryz.underlying100 Tryz.underlying5) λa ha=>?_
 refine RN 2 ha hs λa ha=>?_
 rw[show ((x:Nat):Int).fdiv (2 ^ 8)=((x/256:Nat):Int) from fdivN _ 256]at ha
 refine SS ha (ex_convII ha Tryz.underlying100 Tryz.underlying5) λa ha=>?_
 refine RN 1 ha hs λa ha=>?_
 refine SS ha (ex_convII ha Tryz.underlying100 Tryz.underlying5) λa ha=>?_
 refine RN 0 ha hs λa ha=>?_
 refine st_buildSlice ha rfl hs Tryz.underlying22 Ty.t5 rfl rfl rfl rfl (by decide) (by decide) λb17 a w ha hs ho=>?_
 clear ho
 refine RT 1 ha hs ?_
 exact⟨_,rfl,hs.fourS rfl rfl four_shape⟩
end
end
end Go.Proofs.YteoldcfapaiobaaGreat
