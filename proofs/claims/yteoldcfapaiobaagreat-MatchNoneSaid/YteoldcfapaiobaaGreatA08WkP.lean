/- Workers, plainly: what one bit does to the pictures, the branches and the jobs, and what stays true. -/
import Derived.Test.YteoldcfapaiobaaGreatA07Branch2
import Derived.Test.YteoldcfapaiobaaGreatA04Ty
import Derived.Lib.AppendStr
namespace Go.Proofs.YteoldcfapaiobaaGreat
open Go.RowKit
set_option linter.unusedVariables false
set_option linter.unusedSimpArgs false
set_option maxRecDepth 10000
set_option synthInstance.maxSize 4000
set_option synthInstance.maxHeartbeats 400000
section
structure Wk where
 busy:Bool
 jb:Int
 je:Int
 x:Nat
 done:Nat
 played:Bool
def wk0:Wk:=⟨false,0,0,0,0,false⟩
abbrev Js:=List (Int×Int)
def putJ (J:Js)(b e:Int):Js:=if mayPut J b then J++[(b,e)] else J
inductive Bit (p:Pr)(A:Sn)(T:Tr)(J:Js)(k:Wk):Bool→Sn→Tr→Js→Wk→Prop
 | idle:k.busy=false→J=[]→Bit p A T J k false A T J k
 | stale {j:Int×Int} {J':Js}:k.busy=false→J=j::J'→(j.2≠T.epoch∨(∀ y∈T.l,(y.id:Int)≠j.1)∨∃ x∈T.l,(x.id:Int)=j.1∧x.press.length≤x.done)→Bit p A T J k true A T J' k
 | took {j : Int × Int} {J' : Js} {i : Nat} {x : Br} {px : Pic} : k.busy = false → J = j :: J' → j.2 = T.epoch → x ∈ T.l → (x.id : Int) = j.1 → x.done < x.press.length → A.pics[i]? = some px → px.id = x.snap →
     Bit p A T J k true (A.add px.g px.p) T J' ⟨true,j.1,j.2,A.last+1,x.done,false⟩
 | gone:k.busy=true→(k.je≠T.epoch∨∀ y∈T.l,(y.id:Int)≠k.jb)→Bit p A T J k true (A.dropId k.x) T J { k with busy:=false }
 | played {x : Br} {i : Nat} {px : Pic} {p' : Nat → Nat} {b : List UInt8} : k.busy = true → k.je = T.epoch → x ∈ T.l → (x.id : Int) = k.jb → k.played = false → A.pics[i]? = some px → px.id = k.x → x.press[k.done]? = some b →
     gOk (frameI p (x.frm+k.done) b px.g)→Bit p A T J k true { A with pics:=A.pics.set i ⟨px.id,px.refs,frameI p (x.frm+k.done) b px.g,p'⟩ } T J { k with played:=true }
 | failed {x:Br}:k.busy=true→k.je=T.epoch→x∈T.l→(x.id:Int)=k.jb→k.played=false→¬ 4*A.pics.length≤A.room→Bit p A T J k true (A.dropId k.x) T (putJ J k.jb k.je) { k with busy:=false }
 | pub {x : Br} {kk : Nat} : k.busy = true → k.je = T.epoch → T.l[kk]? = some x → (x.id : Int) = k.jb → k.played = true → x.done < k.done + 1 → k.done + 1 ≤ x.press.length →
     Bit p A T J k true (A.dropId x.snap) (T.pub kk x (k.done+1) k.x) (if k.done+1<x.press.length then putJ J k.jb k.je else J) { k with busy:=false }
 | lost {x:Br}:k.busy=true→k.je=T.epoch→x∈T.l→(x.id:Int)=k.jb→k.played=true→k.done+1≤x.done→Bit p A T J k true (A.dropId k.x) T (if x.done<x.press.length then putJ J k.jb k.je else J) { k with busy:=false }
def heldW (ws:List Wk):List Nat:=(ws.filter (·.busy)).map (·.x)
structure Inv (p:Pr)(F:Int)(g0:Nat→Int)(t:Nat→Nat)(base:Nat)(A:Sn)(T:Tr)(ws:List Wk):Prop where
 perm:(A.pics.map (·.id)).Perm (base::(T.l.map (·.snap)++heldW ws))
 pics:∀ x∈A.pics,x.refs=1∧gOk x.g
 base:∀ x∈A.pics,x.id=base→x.g=g0∧x.p=t
 brs:∀ y∈T.l,y.frm=F∧∀ x∈A.pics,x.id=y.snap→x.g=foldI p F g0 (y.press.take y.done)
 wks:∀ k∈ws,k.jb≤T.last∧(k.busy=true→∀ y∈T.l,(y.id:Int)=k.jb→k.done<y.press.length∧∀ x∈A.pics,x.id=k.x→x.g=foldI p F g0 (y.press.take (k.done+if k.played then 1 else 0)))
theorem memF {α:Type}{f:α→Bool}{l:List α}{x:α}(h:x∈l.filter f):x∈l:=(List.mem_filter.1 h).1
theorem WF.nd {A:Sn}(h:WF A):(A.pics.map (·.id)).Nodup:=h.sorted.imp (λh=>Nat.ne_of_lt h)
theorem WT.same {T:Tr}(h:WT T){x y:Br}(hx:x∈T.l)(hy:y∈T.l)(he:x.id=y.id):x=y:=by
 obtain⟨i,hi⟩:=List.mem_iff_getElem?.1 hx
 obtain⟨j,hj⟩:=List.mem_iff_getElem?.1 hy
 obtain rfl:=h.unique hj hi he
 rw[hi]at hj;cases hj;rfl
theorem filter_erase {α:Type}{f:α→Nat}:∀ {l:List α} {i:Nat} (hd:(l.map f).Nodup) (hi:i<l.length),l.filter (λx=>f x != f l[i])=l.eraseIdx i:=by
 intro l
 induction l with
 | nil=>intro i _ hi;simp at hi
 | cons a l ih =>
   intro i hd hi
   rw[List.map_cons,List.nodup_cons]at hd
   cases i with
   | zero =>
     rw[List.getElem_cons_zero,List.filter_cons_of_neg (by simp),List.eraseIdx_cons_zero,List.filter_eq_self]
     intro y hy
     simp only[bne_iff_ne,ne_eq]
     intro e
     exact hd.1 (e ▸ List.mem_map.2 ⟨y,hy,rfl⟩)
   | succ i =>
     have hi':i<l.length:=by simpa using hi
     rw[List.getElem_cons_succ,List.filter_cons_of_pos,List.eraseIdx_cons_succ,ih hd.2 hi']
     simp only[bne_iff_ne,ne_eq]
     intro e
     exact hd.1 (e ▸ List.mem_map.2 ⟨l[i],List.getElem_mem _,rfl⟩)
theorem dropId_pics {A:Sn}(hw:WF A)(hr:∀ x∈A.pics,x.refs=1)(id:Nat):A.dropId id={ A with pics:=A.pics.filter (λx=>x.id != id) }:=by
 by_cases h:∃ px∈A.pics,px.id=id
 · obtain⟨px,h1,rfl⟩:=h
   obtain⟨i,hi⟩:=List.mem_iff_getElem?.1 h1
   obtain⟨hl,he⟩:=List.getElem?_eq_some_iff.1 hi
   have h2:=filter_erase hw.nd hl
   rw[he]at h2
   rw[dropId_some hw hi,Sn.drop,if_pos (hr px h1),h2]
 · rw[dropId_none (λy hy e=>h ⟨y,hy,e⟩),List.filter_eq_self.2]
   intro y hy
   simp only[bne_iff_ne,ne_eq]
   exact λe=>h ⟨y,hy,e⟩
theorem perm_drop {a:Nat}{l L M:List Nat}(h1:l.Perm L)(h2:L.Perm (a::M))(nd:l.Nodup):(l.filter (· != a)).Perm M:=by
 have h3:=(h1.trans h2).filter (· != a)
 have h4:=(h1.trans h2).nodup_iff.1 nd
 rw[List.nodup_cons]at h4
 have h5:M.filter (· != a)=M:=List.filter_eq_self.2 (λy hy=>by simp only[bne_iff_ne,ne_eq];intro e;exact h4.1 (e ▸ hy))
 rw[List.filter_cons_of_neg (by simp),h5]at h3
 exact h3
theorem map_filter_id (l:List Pic)(id:Nat):(l.filter (λx=>x.id != id)).map (·.id)=(l.map (·.id)).filter (· != id):=by
 rw[List.filter_map];rfl
theorem heldW_busy {k:Wk}{ws:List Wk}(h:k.busy=true):heldW (k::ws)=k.x::heldW ws:=by rw[heldW,List.filter_cons_of_pos h,List.map_cons];rfl
theorem heldW_idle {k:Wk}{ws:List Wk}(h:k.busy=false):heldW (k::ws)=heldW ws:=by rw[heldW,List.filter_cons_of_neg (by simp[h])];rfl
theorem mem_heldW {k:Wk}{ws:List Wk}(h:k∈ws)(hb:k.busy=true):k.x∈heldW ws:=List.mem_map.2 ⟨k,List.mem_filter.2 ⟨h,hb⟩,rfl⟩
theorem Inv.permW {p:Pr}{F:Int}{g0:Nat→Int}{t:Nat→Nat}{base:Nat}{A:Sn}{T:Tr}{ws ws':List Wk}(h:Inv p F g0 t base A T ws)(hp:ws.Perm ws'):Inv p F g0 t base A T ws' :=
 ⟨h.perm.trans ((((hp.filter _).map _).append_left _).cons _),h.pics,h.base,h.brs,λk hk=>h.wks k (hp.mem_iff.2 hk)⟩
section
variable {p:Pr}{F:Int}{g0:Nat→Int}{t:Nat→Nat}{base:Nat}{A A':Sn}{T T':Tr}{J J':Js}{ws:List Wk}{k k':Wk}{r:Bool}
theorem Inv.nd (h:Inv p F g0 t base A T ws)(hA:WF A):(base::(T.l.map (·.snap)++heldW ws)).Nodup:=h.perm.nodup_iff.1 hA.nd
theorem Inv.pic (h:Inv p F g0 t base A T ws){id:Nat}(hm:id∈base::(T.l.map (·.snap)++heldW ws)):∃ (i:Nat) (px:Pic),A.pics[i]?=some px∧px.id=id:=by
 obtain⟨px,h1,h2⟩:=List.mem_map.1 (h.perm.mem_iff.2 hm)
 obtain⟨i,hi⟩:=List.mem_iff_getElem?.1 h1
 exact⟨i,px,hi,h2⟩
theorem Inv.ofBr (h:Inv p F g0 t base A T ws){x:Br}(hx:x∈T.l):∃ (i:Nat) (px:Pic),A.pics[i]?=some px∧px.id=x.snap :=
 h.pic (List.mem_cons_of_mem _ (List.mem_append_left _ (List.mem_map.2 ⟨x,hx,rfl⟩)))
theorem Inv.ofWk (h:Inv p F g0 t base A T ws)(hk:k∈ws)(hb:k.busy=true):∃ (i:Nat) (px:Pic),A.pics[i]?=some px∧px.id=k.x :=
 h.pic (List.mem_cons_of_mem _ (List.mem_append_right _ (mem_heldW hk hb)))
theorem Inv.rest (h:Inv p F g0 t base A T (k::ws))(hA:WF A)(hb:k.busy=true)(hj:k'.busy=false)(hl:k'.jb=k.jb):Inv p F g0 t base (A.dropId k.x) T (k'::ws):=by
 rw[dropId_pics hA (λx hx=>(h.pics x hx).1)]
 refine⟨?_,λx hx=>h.pics x (memF hx),λx hx=>h.base x (memF hx),λy hy=>⟨(h.brs y hy).1,λx hx=>(h.brs y hy).2 x (memF hx)⟩,λk2 hk2=>?_⟩
 · simp only
   rw[map_filter_id,heldW_idle hj]
   refine perm_drop h.perm ?_ hA.nd
   rw[heldW_busy hb]
   exact (List.Perm.cons _ List.perm_middle).trans (List.Perm.swap _ _ _)
 · rcases List.mem_cons.1 hk2 with rfl | hk2
   · exact⟨by rw[hl];exact (h.wks k (List.mem_cons_self ..)).1,λe=>by rw[hj]at e;cases e⟩
   · refine⟨(h.wks k2 (List.mem_cons_of_mem _ hk2)).1,λe y hy hid=>?_⟩
     obtain⟨h1,h2⟩:=(h.wks k2 (List.mem_cons_of_mem _ hk2)).2 e y hy hid
     exact⟨h1,λx hx=>h2 x (memF hx)⟩
theorem mem_set_id {A:Sn}(hA:WF A){i:Nat}{px v z:Pic}(hi:A.pics[i]?=some px)(hz:z∈A.pics.set i v):z=v∨(z∈A.pics∧z.id≠px.id):=by
 obtain⟨j,hj⟩:=List.mem_iff_getElem?.1 hz
 rw[List.getElem?_set]at hj
 split at hj
 · split at hj
   · cases hj;exact .inl rfl
   · cases hj
 · rename_i hne
   exact .inr ⟨List.mem_of_getElem? hj,λe=>hne (hA.ids hi hj e.symm)⟩
theorem Inv.bit (h:Inv p F g0 t base A T (k::ws))(hA:WF A)(hT:WT T)(hb:Bit p A T J k r A' T' J' k'):Inv p F g0 t base A' T' (k'::ws):=by
 cases hb with
 | idle=>exact h
 | stale=>exact h
 | @took j J' i x px h1 h2 h3 h4 h5 h6 h7 h8 =>
   have hnew:∀ z∈A.pics,z.id≠A.last+1:=λz hz e=>by have:=(hA.pic z hz).2.1;omega
   have hpx:=List.mem_of_getElem? h7
   have hlt:∀ id∈base::(T.l.map (·.snap)++heldW (k::ws)),id≠A.last+1:=λid hid e=>by
     obtain⟨z,hz,he⟩:=List.mem_map.1 (h.perm.mem_iff.2 hid)
     exact hnew z hz (by rw[he,e])
   refine⟨?_,λz hz=>?_,λz hz he=>?_,λy hy=>⟨(h.brs y hy).1,λz hz he=>?_⟩,λk2 hk2=>?_⟩
   · simp only[Sn.add,List.map_append,List.map_cons,List.map_nil]
     rw[heldW_busy rfl]
     have hp:=h.perm
     rw[heldW_idle h1]at hp
     refine (hp.append_right _).trans ((List.perm_append_singleton _ _).trans ?_)
     exact (List.Perm.swap _ _ _).trans (List.Perm.cons _ List.perm_middle.symm)
   · simp only[Sn.add]at hz
     rcases List.mem_append.1 hz with hz | hz
     · exact h.pics z hz
     · simp at hz;subst hz
       exact⟨rfl,(h.pics px hpx).2⟩
   · simp only[Sn.add]at hz
     rcases List.mem_append.1 hz with hz | hz
     · exact h.base z hz he
     · simp at hz;subst hz
       exact absurd he.symm (hlt base (List.mem_cons_self ..))
   · simp only[Sn.add]at hz
     rcases List.mem_append.1 hz with hz | hz
     · exact (h.brs y hy).2 z hz he
     · simp at hz;subst hz
       exact absurd he.symm (hlt y.snap (List.mem_cons_of_mem _ (List.mem_append_left _ (List.mem_map.2 ⟨y,hy,rfl⟩))))
   · rcases List.mem_cons.1 hk2 with rfl | hk2
     · refine⟨?_,λ_ y hy hid=>?_⟩
       · have:=(hT.ok x h4).2.2.2
         simp only;omega
       · obtain rfl:y=x:=hT.same hy h4 (by simp only at hid;omega)
         refine⟨h6,λz hz he=>?_⟩
         simp only[Sn.add]at hz
         rcases List.mem_append.1 hz with hz | hz
         · exact absurd he (hnew z hz)
         · simp at hz;subst hz
           exact (h.brs y hy).2 px hpx h8
     · refine⟨(h.wks k2 (List.mem_cons_of_mem _ hk2)).1,λe y hy hid=>?_⟩
       obtain⟨h9,h10⟩:=(h.wks k2 (List.mem_cons_of_mem _ hk2)).2 e y hy hid
       refine⟨h9,λz hz he=>?_⟩
       simp only[Sn.add]at hz
       rcases List.mem_append.1 hz with hz | hz
       · exact h10 z hz he
       · simp at hz;subst hz
         exact absurd he.symm (hlt k2.x (List.mem_cons_of_mem _ (List.mem_append_right _ (mem_heldW (List.mem_cons_of_mem _ hk2) e))))
 | gone h1 h2=>exact h.rest hA h1 rfl rfl
 | failed h1=>exact h.rest hA h1 rfl rfl
 | lost h1=>exact h.rest hA h1 rfl rfl
 | @played x i px p' b h1 h2 h3 h4 h5 h6 h7 h8 h9 =>
   have hpx:=List.mem_of_getElem? h6
   have hnd:=h.nd hA
   rw[heldW_busy h1]at hnd
   have hmid:(base::(T.l.map (·.snap)++k.x::heldW ws)).Perm (k.x::(base::(T.l.map (·.snap)++heldW ws))):=(List.Perm.cons _ List.perm_middle).trans (List.Perm.swap _ _ _)
   have hno:=(List.nodup_cons.1 (hmid.nodup_iff.1 hnd)).1
   have hids:(A.pics.set i ⟨px.id,px.refs,frameI p (x.frm+k.done) b px.g,p'⟩).map (·.id)=A.pics.map (·.id):=map_set_id h6 rfl
   refine⟨?_,λz hz=>?_,λz hz he=>?_,λy hy=>⟨(h.brs y hy).1,λz hz he=>?_⟩,λk2 hk2=>?_⟩
   · simp only
     rw[hids,heldW_busy (by exact h1)]
     have hp:=h.perm
     rw[heldW_busy h1]at hp
     exact hp
   · rcases mem_set_id hA h6 hz with rfl | hz
     · exact⟨(h.pics px hpx).1,h9⟩
     · exact h.pics z hz.1
   · rcases mem_set_id hA h6 hz with rfl | hz
     · exact absurd (List.mem_cons.2 (.inl (by simp only at he;rw[← he,h7]))) hno
     · exact h.base z hz.1 he
   · rcases mem_set_id hA h6 hz with rfl | hz
     · refine absurd (List.mem_cons_of_mem _ (List.mem_append_left _ (List.mem_map.2 ⟨y,hy,?_⟩))) hno
       simp only at he;rw[← he,h7]
     · exact (h.brs y hy).2 z hz.1 he
   · rcases List.mem_cons.1 hk2 with rfl | hk2
     · have hk:=h.wks k (List.mem_cons_self ..)
       refine⟨hk.1,λ_ y hy hid=>?_⟩
       obtain rfl:y=x:=hT.same hy h3 (by simp only at hid;omega)
       obtain⟨h10,h11⟩:=hk.2 h1 y hy h4
       refine⟨h10,λz hz he=>?_⟩
       rcases mem_set_id hA h6 hz with rfl | hz
       · have h12:=h11 px hpx h7
         rw[h5]at h12
         have h13:y.press.take (k.done+1)=y.press.take k.done++[b]:=by
           rw[List.take_add_one,h8];rfl
         show frameI p (y.frm+k.done) b px.g=foldI p F g0 (y.press.take (k.done+1))
         rw[h13,foldI_snoc,List.length_take,Nat.min_eq_left (by omega),(h.brs y hy).1,h12]
         simp
       · simp only at he
         exact absurd (by rw[he,h7]) hz.2
     · have hk:=h.wks k2 (List.mem_cons_of_mem _ hk2)
       refine⟨hk.1,λe y hy hid=>?_⟩
       obtain⟨h10,h11⟩:=hk.2 e y hy hid
       refine⟨h10,λz hz he=>?_⟩
       rcases mem_set_id hA h6 hz with rfl | hz
       · refine absurd (List.mem_cons_of_mem _ (List.mem_append_right _ ?_)) hno
         simp only at he
         rw[← h7,he]
         exact mem_heldW hk2 e
       · exact h11 z hz.1 he
 | @pub x kk h1 h2 h3 h4 h5 h6 h7 =>
   rw[dropId_pics hA (λx hx=>(h.pics x hx).1)]
   have hx:=List.mem_of_getElem? h3
   obtain⟨hkl,hke⟩:=List.getElem?_eq_some_iff.1 h3
   have hk:=h.wks k (List.mem_cons_self ..)
   refine⟨?_,λz hz=>h.pics z (memF hz),λz hz=>h.base z (memF hz),λy hy=>?_,λk2 hk2=>?_⟩
   · simp only[Tr.pub]
     rw[map_filter_id,heldW_idle (by rfl)]
     refine perm_drop h.perm ?_ hA.nd
     rw[heldW_busy h1]
     have e1:(T.l.map (·.snap)).Perm (x.snap::(T.l.eraseIdx kk).map (·.snap)):=by
       have:=(erase_perm T.l hkl).map (·.snap)
       rw[List.map_cons,hke]at this;exact this
     have e2:((T.l.set kk { x with done:=k.done+1,snap:=k.x }).map (·.snap)).Perm (k.x::(T.l.eraseIdx kk).map (·.snap)):=by
       have:=(erase_perm (T.l.set kk { x with done:=k.done+1,snap:=k.x }) (by simpa using hkl)).map (·.snap)
       rw[List.map_cons,List.getElem_set_self,List.eraseIdx_set_eq]at this;exact this
     have e3:(base::(T.l.map (·.snap)++k.x::heldW ws)).Perm (base::(x.snap::((T.l.eraseIdx kk).map (·.snap)++k.x::heldW ws))):=(e1.append_right _).cons _
     refine e3.trans ((List.Perm.swap _ _ _).trans (List.Perm.cons _ (List.Perm.cons _ ?_)))
     exact List.perm_middle.trans (e2.append_right _).symm
   · simp only[Tr.pub]at hy
     rcases List.mem_or_eq_of_mem_set hy with hy | rfl
     · exact⟨(h.brs y hy).1,λz hz=>(h.brs y hy).2 z (memF hz)⟩
     · refine⟨(h.brs x hx).1,λz hz he=>?_⟩
       have:=(hk.2 h1 x hx h4).2 z (memF hz) he
       rw[h5]at this
       exact this
   · have hset : ∀ y ∈ (T.pub kk x (k.done + 1) k.x).l, ∃ y0 ∈ T.l, y0.id = y.id ∧ y0.press = y.press := fun y hy => by
       simp only[Tr.pub]at hy
       rcases List.mem_or_eq_of_mem_set hy with hy | rfl
       · exact⟨y,hy,rfl,rfl⟩
       · exact⟨x,hx,rfl,rfl⟩
     rcases List.mem_cons.1 hk2 with rfl | hk2
     · exact⟨hk.1,λe=>by cases e⟩
     · have hk3:=h.wks k2 (List.mem_cons_of_mem _ hk2)
       refine⟨hk3.1,λe y hy hid=>?_⟩
       obtain⟨y0,hy0,e1,e2⟩:=hset y hy
       obtain⟨h10,h11⟩:=hk3.2 e y0 hy0 (by rw[e1];exact hid)
       rw[e2]at h10 h11
       exact⟨h10,λz hz=>h11 z (memF hz)⟩
theorem putJ_len {b e:Int}(h:J.length≤16):(putJ J b e).length≤16:=by
 unfold putJ
 split
 · rename_i h1
   simp only[mayPut,Bool.and_eq_true,decide_eq_true_eq]at h1
   simp;omega
 · exact h
theorem dropId_same (A:Sn)(id:Nat):(A.dropId id).room=A.room∧(A.dropId id).n=A.n∧(A.dropId id).last=A.last:=by
 unfold Sn.dropId
 split
 · split
   · simp[Sn.drop]
   · exact⟨rfl,rfl,rfl⟩
 · exact⟨rfl,rfl,rfl⟩
structure Near (A:Sn)(T:Tr)(J:Js)(A':Sn)(T':Tr)(J':Js):Prop where
 room:A'.room=A.room
 n:A'.n≤A.n+1
 most:T'.most=T.most
 last:T'.last=T.last
 epoch:T'.epoch=T.epoch
 l:T'.l.map (λy=>(y.id,y.press))=T.l.map (λy=>(y.id,y.press))
 len:J.length≤16→J'.length≤16
theorem Bit.near (hb:Bit p A T J k r A' T' J' k'):Near A T J A' T' J':=by
 cases hb with
 | idle=>exact⟨rfl,by omega,rfl,rfl,rfl,rfl,λh=>h⟩
 | stale h1 h2=>exact⟨rfl,by omega,rfl,rfl,rfl,rfl,λh=>by rw[h2,List.length_cons]at h;omega⟩
 | took h1 h2=>exact⟨rfl,by simp[Sn.add],rfl,rfl,rfl,rfl,λh=>by rw[h2,List.length_cons]at h;omega⟩
 | gone=>exact⟨(dropId_same A _).1,by rw[(dropId_same A _).2.1];omega,rfl,rfl,rfl,rfl,λh=>h⟩
 | played=>exact⟨rfl,by simp,rfl,rfl,rfl,rfl,λh=>h⟩
 | failed=>exact⟨(dropId_same A _).1,by rw[(dropId_same A _).2.1];omega,rfl,rfl,rfl,rfl,putJ_len⟩
 | lost=>exact⟨(dropId_same A _).1,by rw[(dropId_same A _).2.1];omega,rfl,rfl,rfl,rfl,λh=>by split <;> first | exact putJ_len h | exact h⟩
 | @pub x kk h1 h2 h3 =>
   refine⟨(dropId_same A _).1,by rw[(dropId_same A _).2.1];omega,rfl,rfl,rfl,?_,λh=>by split <;> first | exact putJ_len h | exact h⟩
   obtain⟨hkl,hke⟩:=List.getElem?_eq_some_iff.1 h3
   simp only[Tr.pub]
   apply List.ext_getElem?
   intro j
   simp only[List.getElem?_map,List.getElem?_set]
   by_cases hj:kk=j
   · subst hj;simp[hkl,hke]
   · rw[if_neg hj]
end
end
section
theorem nodup_inj {α:Type}{f:α→Nat}:∀ {l:List α},(l.map f).Nodup→∀ {x y:α},x∈l→y∈l→f x=f y→x=y:=by
 intro l
 induction l with
 | nil=>intro _ x y hx;cases hx
 | cons a l ih =>
   intro hd x y hx hy he
   rw[List.map_cons,List.nodup_cons]at hd
   rcases List.mem_cons.1 hx with hxa | hx
   · rcases List.mem_cons.1 hy with hya | hy
     · rw[hxa,hya]
     · exact absurd (List.mem_map.2 ⟨y,hy,by rw[← he,hxa]⟩) hd.1
   · rcases List.mem_cons.1 hy with hya | hy
     · exact absurd (List.mem_map.2 ⟨x,hx,by rw[he,hya]⟩) hd.1
     · exact ih hd.2 hx hy he
theorem WF.dropId {A:Sn}(hw:WF A)(hr:∀ x∈A.pics,x.refs=1)(id:Nat):WF (A.dropId id):=by
 by_cases h:∃ px∈A.pics,px.id=id
 · obtain⟨px,h1,rfl⟩:=h
   obtain⟨i,hi⟩:=List.mem_iff_getElem?.1 h1
   rw[dropId_some hw hi,Sn.drop,if_pos (hr px h1)]
   exact hw.erase i
 · rw[dropId_none (λy hy e=>h ⟨y,hy,e⟩)];exact hw
theorem dropAll_pics:∀ (l:List Br) {A:Sn},WF A→(∀ x∈A.pics,x.refs=1)→A.dropAll l={ A with pics:=A.pics.filter (λx=>!(l.map (·.snap)).contains x.id) }:=by
 intro l
 induction l with
 | nil =>
   intro A hw hr
   have:A.pics.filter (λx=>!(([]:List Br).map (·.snap)).contains x.id)=A.pics:=List.filter_eq_self.2 λx _=>rfl
   rw[this];rfl
 | cons y l ih =>
   intro A hw hr
   have h1:A.dropAll (y::l)=(A.dropId y.snap).dropAll l:=rfl
   have h2:=dropId_pics hw hr y.snap
   have h3:∀ x∈(A.dropId y.snap).pics,x.refs=1:=by rw[h2];exact λx hx=>hr x (memF hx)
   rw[h1,ih (hw.dropId hr _) h3,h2]
   simp only[List.filter_filter]
   congr 1
   refine List.filter_congr λx _=>?_
   simp only[List.map_cons,List.contains_cons,Bool.not_or]
   rw[Bool.and_comm];rfl
theorem perm_cut {base:Nat}{l:List Br}{f:Br→Bool}{H M:List Nat}(hp:M.Perm (base::(l.map (·.snap)++H)))(nd:M.Nodup) :
   (M.filter (λid=>!((l.filter f).map (·.snap)).contains id)).Perm (base::((l.filter (λx=>!f x)).map (·.snap)++H)):=by
 have h1:=hp.nodup_iff.1 nd
 have h2:=hp.filter (λid=>!((l.filter f).map (·.snap)).contains id)
 have h3:=List.nodup_cons.1 h1
 have h4:=List.nodup_append.1 h3.2
 have hsub:∀ id,id∈(l.filter f).map (·.snap)→id∈l.map (·.snap):=λid h=>by
   obtain⟨y,hy,rfl⟩:=List.mem_map.1 h
   exact List.mem_map.2 ⟨y,memF hy,rfl⟩
 have hb:(!((l.filter f).map (·.snap)).contains base)=true:=by
   simp only[Bool.not_eq_true',List.contains_eq_mem,decide_eq_false_iff_not]
   exact λh=>h3.1 (List.mem_append_left _ (hsub _ h))
 have hH:H.filter (λid=>!((l.filter f).map (·.snap)).contains id)=H:=List.filter_eq_self.2 λz hz=>by
   simp only[Bool.not_eq_true',List.contains_eq_mem,decide_eq_false_iff_not]
   exact λh=>h4.2.2 z (hsub _ h) z hz rfl
 have hl:(l.map (·.snap)).filter (λid=>!((l.filter f).map (·.snap)).contains id)=(l.filter (λx=>!f x)).map (·.snap):=by
   rw[List.filter_map]
   congr 1
   refine List.filter_congr λy hy=>?_
   simp only[Function.comp]
   congr 1
   cases hf:f y with
   | true =>
     simp only[List.contains_eq_mem,decide_eq_true_eq]
     exact List.mem_map.2 ⟨y,List.mem_filter.2 ⟨hy,hf⟩,rfl⟩
   | false =>
     simp only[List.contains_eq_mem,decide_eq_false_iff_not]
     intro h
     obtain⟨z,hz,he⟩:=List.mem_map.1 h
     obtain⟨hz1,hz2⟩:=List.mem_filter.1 hz
     have:=nodup_inj h4.1 hz1 hy he
     rw[this,hf]at hz2;cases hz2
 rw[List.filter_cons,if_pos hb,List.filter_append,hl,hH]at h2
 exact h2
section
variable {p:Pr}{F:Int}{g0:Nat→Int}{t:Nat→Nat}{base:Nat}{A:Sn}{T:Tr}{ws:List Wk}{k:Wk}{px:Pic}{P:List (List UInt8)}{i:Nat}
theorem Inv.cut (h:Inv p F g0 t base A T ws)(hA:WF A)(f:Br→Bool):Inv p F g0 t base (A.dropAll (T.l.filter f)) (T.cut f) ws:=by
 rw[dropAll_pics _ hA (λx hx=>(h.pics x hx).1)]
 refine⟨?_,λx hx=>h.pics x (memF hx),λx hx=>h.base x (memF hx),λy hy=>⟨(h.brs y (memF hy)).1,λx hx=>(h.brs y (memF hy)).2 x (memF hx)⟩,λk hk=>⟨(h.wks k hk).1,λe y hy hid=>?_⟩⟩
 · simp only[Tr.cut]
   have h1:=perm_cut (f:=f) h.perm hA.nd
   have h2:(A.pics.filter (λx=>!((T.l.filter f).map (·.snap)).contains x.id)).map (·.id)=(A.pics.map (·.id)).filter (λid=>!((T.l.filter f).map (·.snap)).contains id):=by
     rw[List.filter_map];rfl
   rw[h2];exact h1
 · obtain⟨h1,h2⟩:=(h.wks k hk).2 e y (memF hy) hid
   exact⟨h1,λx hx=>h2 x (memF hx)⟩
theorem Inv.addBr (h:Inv p F g0 t base A T ws)(hA:WF A)(hT:WT T)(hi:A.pics[i]?=some px)(hb:px.id=base):Inv p F g0 t base (A.add px.g px.p) (T.add F P (A.last+1)) ws:=by
 have hpx:=List.mem_of_getElem? hi
 have hnew:∀ z∈A.pics,z.id≠A.last+1:=λz hz e=>by have:=(hA.pic z hz).2.1;omega
 have hlt:∀ id∈base::(T.l.map (·.snap)++heldW ws),id≠A.last+1:=λid hid e=>by
   obtain⟨z,hz,he⟩:=List.mem_map.1 (h.perm.mem_iff.2 hid)
   exact hnew z hz (by rw[he,e])
 have hin:∀ z∈(A.add px.g px.p).pics,z∈A.pics∨z=⟨A.last+1,1,px.g,px.p⟩:=λz hz=>by
   simp only[Sn.add]at hz
   rcases List.mem_append.1 hz with hz | hz
   · exact .inl hz
   · simp at hz;exact .inr hz
 refine⟨?_,λz hz=>?_,λz hz he=>?_,λy hy=>?_,λk hk=>⟨?_,λe y hy hid=>?_⟩⟩
 · simp only[Sn.add,Tr.add,List.map_append,List.map_cons,List.map_nil]
   refine (h.perm.append_right _).trans ((List.perm_append_singleton _ _).trans ((List.Perm.swap _ _ _).trans (List.Perm.cons _ ?_)))
   rw[List.append_assoc]
   exact List.perm_middle.symm
 · rcases hin z hz with hz | rfl
   · exact h.pics z hz
   · exact⟨rfl,(h.pics px hpx).2⟩
 · rcases hin z hz with hz | rfl
   · exact h.base z hz he
   · exact absurd he.symm (hlt base (List.mem_cons_self ..))
 · simp only[Tr.add]at hy
   rcases List.mem_append.1 hy with hy | hy
   · refine⟨(h.brs y hy).1,λz hz he=>?_⟩
     rcases hin z hz with hz | rfl
     · exact (h.brs y hy).2 z hz he
     · exact absurd he.symm (hlt y.snap (List.mem_cons_of_mem _ (List.mem_append_left _ (List.mem_map.2 ⟨y,hy,rfl⟩))))
   · simp at hy;subst hy
     refine⟨rfl,λz hz he=>?_⟩
     rcases hin z hz with hz | rfl
     · exact absurd he (hnew z hz)
     · exact (h.base px hpx hb).1
 · have:=(h.wks k hk).1
   simp only[Tr.add];omega
 · have hk1:=(h.wks k hk).1
   simp only[Tr.add]at hy
   rcases List.mem_append.1 hy with hy | hy
   · obtain⟨h1,h2⟩:=(h.wks k hk).2 e y hy hid
     refine⟨h1,λz hz he=>?_⟩
     rcases hin z hz with hz | rfl
     · exact h2 z hz he
     · exact absurd he.symm (hlt k.x (List.mem_cons_of_mem _ (List.mem_append_right _ (mem_heldW hk e))))
   · simp at hy;subst hy
     simp only at hid;omega
theorem Inv.len (h:Inv p F g0 t base A T ws):A.pics.length=1+T.l.length+(heldW ws).length:=by
 have:=h.perm.length_eq
 simp only[List.length_map,List.length_cons,List.length_append]at this
 omega
end
end
section
section
variable {P:Program}{ops:Array Oper}{Q:Exit→Act→World→Prop}{a:Act}{w w' W:World}{K:Act→World→Prop}{n d:Nat}{l:List (Nat×Value)}{v:Value}{L R:List SP}
theorem run_append_str {t u ty e:TypeId}{k c by':Nat}{z:Value}{ad:Option Addr}{cs:List Value}(ht:P.underlying t=some (.slice e))(hu:P.underlying u=some .string)(hi:TI P e z 1 by')(hz:z.cells.size=1)(s:St W w (Sl e 1 ad k c cs::L))
   (hc:0<c) (str:ByteArray) (hb:0<by') (hsz:(k+str.size)*by'≤140737488355328) :
   ∃ ad' c' w',(Builtin.append_ #[t,u] ty #[.slice ad k c,.string str]).run P w=.ok (.slice ad' (k+str.size) c') w'∧St W w' (Sl e 1 ad' (k+str.size) c' (cs++bc str.data.toList)::L):=by
 obtain⟨i,hi1,hi2,hi3,hi4⟩:=info_parts hi.h
 have hsl:=s.sl ad
 have hstr:(bc str.data.toList).length=str.size:=Lib.strCells_length str
 obtain⟨b,pre,post,⟨a1,a2,rfl,a4⟩,s2⟩:=s.slOpen hc
 by_cases hfit:k+str.size≤c
 · have hpl:(c-k)*1 ≥ str.size:=by omega
   have hf:=Lib.run_firstCells_string (P:=P) w 1 str
   have hst:=run_storeCells_at (P:=P) b (pre.length+k) e (bc str.data.toList) 0 (pre++cs++post).toArray w s2.has.2 (by simp[hstr];omega) (bc_one _)
   have e1:(pre++cs++post).take (pre.length+k)=pre++cs:=by
     have:pre.length+k=(pre++cs).length:=by simp;omega
     rw[this,List.take_left]
   have e2:(pre++cs++post).drop (pre.length+k+0+(bc str.data.toList).length)=post.drop str.size:=by
     have:pre.length+k=(pre++cs).length:=by simp;omega
     rw[this,Nat.add_zero,hstr,← List.drop_drop,List.drop_left]
   refine⟨some ⟨b,pre.length,none⟩,c,w.setRow b (pre++(cs++bc str.data.toList)++post.drop str.size).toArray,?_,?_⟩
   · have hst2:(storeCells ⟨b,pre.length+k,none⟩ (bc str.data.toList) 0).run P w=.ok () (w.setRow b (((pre++cs++post).take (pre.length+k)++bc str.data.toList)++(pre++cs++post).drop (pre.length+k+0+(bc str.data.toList).length)).toArray):=hst
     rw[e1,e2]at hst2
     have hf2:(Builtin.firstCells 1 str.size (.string str)).run P w=.ok (bc str.data.toList).toArray w:=hf
     simp[Builtin.append_,run_underlying ht,run_underlying hu,sizeOf,typeInfo,hi1,Builtin.lenOf,hfit,add_off,hi3,hf2,hst2,List.append_assoc]
   · exact St.slShut (pre:=pre) (post:=post.drop str.size) s2.setRow (by simp[hstr];omega) (by omega) (by simp;omega)
 · have hn63:k+str.size≤140737488355328:=Nat.le_trans (Nat.le_mul_of_pos_right _ hb) hsz
   have hge:=grownCap_ge w (k+str.size) c e
   have hgz:(Builtin.zeroCells z.cells (grownCap w (k+str.size) c e-(k+str.size))).toList.length=(grownCap w (k+str.size) c e-(k+str.size))*1:=zero_size e (by':=by') hz _
   have holds:∀ j v,cs[j]?=some v→w.cell? ((⟨b,pre.length,none⟩:Addr).add j)=some v:=by
     intro j v hj
     rw[add_off,s2.cell]
     have:j<cs.length:=(List.getElem?_eq_some_iff.1 hj).1
     rw[List.getElem?_append_left (by simp;omega),List.getElem?_append_right (by omega)]
     simpa using hj
   have hnx:Builtin.nextslicecap (k+str.size) c*i.bytes≤281474976710656:=by rw[hi4];exact growslice_fits (by omega) hsz
   have hr:=Lib.run_append_grow_string (P:=P) w t u ty e i z ht hu hi1 hi2 ⟨b,pre.length,none⟩ k c cs (by rw[hi3];exact a1) holds str (by omega) (by omega) hnx
   refine⟨_,_,_,hr,?_⟩
   have s3:=(s.tail.drew).alloc (.cells (cs.toArray++(bc str.data.toList).toArray++Builtin.zeroCells z.cells (grownCap w (k+str.size) c e-(k+str.size))) e)
   have s4 : St W (w.drew.alloc (.cells (cs.toArray ++ (bc str.data.toList).toArray ++ Builtin.zeroCells z.cells (grownCap w (k + str.size) c e - (k + str.size))) e))
       (blk w.heap.size e ([]++(cs++bc str.data.toList)++(Builtin.zeroCells z.cells (grownCap w (k+str.size) c e-(k+str.size))).toList)::L):=by
     have:(cs.toArray++(bc str.data.toList).toArray++Builtin.zeroCells z.cells (grownCap w (k+str.size) c e-(k+str.size)))=([]++(cs++bc str.data.toList)++(Builtin.zeroCells z.cells (grownCap w (k+str.size) c e-(k+str.size))).toList).toArray:=by
       apply Array.ext';simp
     rw[this]at s3 ⊢
     exact s3
   exact St.slShut (pre:=[]) s4 (by simp[hstr];omega) hge (by omega)
theorem st_appendStr {s x t u z by' str e ad k c ty ps af g}{cs:List Value}(ha:Fr a n l)(hw:Region.wanted ⟨some d,.call ⟨.builtin .append,#[s,x],#[t,u]⟩,ty,ps,af,g⟩ (yielded ops a.tmps)=true)(hs:St W w L)
   (ht:P.underlying t=some (.slice e)) (hu:P.underlying u=some .string) (hi:TI P e z 1 by') (hz:z.cells.size=1) (hf:okB d n l=true)
   [e1:Ev l s (.slice ad k c)] [pk:PickSl L ad k c e 1 cs R] [e2:Ev l x (.string str)] (hc:0<c) (hb:0<by') (hsz:(k+str.size)*by'≤140737488355328)
   (h:∀ ad' c' a' w',Fr a' n ((d,.slice ad' (k+str.size) c')::l)→St W w' (Sl e 1 ad' (k+str.size) c' (cs++bc str.data.toList)::R)→K a' w') :
   StepK P ops Q ⟨some d,.call ⟨.builtin .append,#[s,x],#[t,u]⟩,ty,ps,af,g⟩ K a w:=by
 obtain⟨ad',c',w',h2,h3⟩:=run_append_str (P:=P) (ty:=ty) ht hu hi hz (hs.perm pk.perm) hc str hb hsz
 exact st_set ha hw (by simp[execOp,resolve,e1.ev a n ha,e2.ev a n ha,invoke,builtin,h2]) hf λa' ha'=>h _ _ a' _ ha' h3
end
theorem wrap_u64 (x:Int):IntKind.u64.wrap x=x%18446744073709551616:=by simp[IntKind.wrap,IntKind.signed,IntKind.bits]
theorem wrap_u32 (x:Int):IntKind.u32.wrap x=x%4294967296:=by simp[IntKind.wrap,IntKind.signed,IntKind.bits]
theorem wrap_u8 (x:Int):IntKind.u8.wrap x=x%256:=by simp[IntKind.wrap,IntKind.signed,IntKind.bits]
theorem com_u64 {x:Nat}(h:x<18446744073709551616):IntKind.u64.wrap ((BitVec.ofInt IntKind.u64.bits (if IntKind.u64.signed then -1 else IntKind.u64.max) ^^^ BitVec.ofInt IntKind.u64.bits (x:Int)).toNat)=((18446744073709551615-x:Nat):Int):=by
 have e:BitVec.ofInt IntKind.u64.bits (if IntKind.u64.signed then -1 else IntKind.u64.max)=BitVec.allOnes 64:=by
   show BitVec.ofInt 64 IntKind.u64.max=_
   decide
 rw[e]
 have e2:BitVec.ofInt IntKind.u64.bits (x:Int)=BitVec.ofNat 64 x:=by
   show BitVec.ofInt 64 (x:Int)=_
   exact BitVec.ofInt_natCast 64 x
 rw[e2]
 show IntKind.u64.wrap (((BitVec.allOnes 64 ^^^ BitVec.ofNat 64 x).toNat:Nat):Int)=_
 rw[BitVec.allOnes_xor,BitVec.toNat_not,BitVec.toNat_ofNat,wrap_u64]
 rw[Nat.mod_eq_of_lt (show x<2 ^ 64 from h)]
 omega
theorem or_u8 {x:Nat}(h:x<256):IntKind.u8.wrap ((BitVec.ofInt IntKind.u8.bits (x:Int) ||| BitVec.ofInt IntKind.u8.bits 128).toNat)=((x%128+128:Nat):Int):=by
 have:∀ y:Fin 256,IntKind.u8.wrap ((BitVec.ofInt IntKind.u8.bits ((y.val:Nat):Int) ||| BitVec.ofInt IntKind.u8.bits 128).toNat)=((y.val%128+128:Nat):Int):=by decide +kernel
 exact this ⟨x,h⟩
theorem fdivN (x j:Nat):(x:Int).fdiv (j:Int)=((x/j:Nat):Int):=by
 rw[Int.natCast_ediv,Int.fdiv_eq_ediv_of_nonneg _ (by omega)]
def putL (u:Nat):List UInt8:=if h:u≤127 then [UInt8.ofNat u] else UInt8.ofNat (u%128+128)::putL (u/128)
termination_by u
decreasing_by omega
theorem putL_small {u:Nat}(h:u≤127):putL u=[UInt8.ofNat u]:=by rw[putL,dif_pos h]
theorem putL_big {u:Nat}(h:¬ u≤127):putL u=UInt8.ofNat (u%128+128)::putL (u/128):=by rw[putL,dif_neg h]
theorem putL_pos (u:Nat):1≤(putL u).length:=by
 rw[putL];split <;> simp
theorem putL_len:∀ (k u:Nat),u<128 ^ (k+1)→(putL u).length≤k+1
 | 0,u,h=>by rw[putL_small (by simpa using (by omega:u≤127))];simp
 | k+1,u,h=>by
   by_cases hu:u≤127
   · rw[putL_small hu];simp
   · rw[putL_big hu,List.length_cons]
     have:=putL_len k (u/128) (by rw[Nat.pow_succ]at h;omega)
     omega
def zz (n:Int):Nat:=if n<0 then (-2*n-1).toNat else (2*n).toNat
section
variable {W w:World}{L:List SP}{c:Nat}{ad:Option Addr}{bs:List UInt8}
theorem put_bytes {N:Int}(hs:St W w (Sl 5 1 ad bs.length c (bc bs)::L))(h1:-9223372036854775808≤N)(h2:N≤9223372036854775807)(hb:bs.length≤1099511627776) :
   Calls Tryz.prog 198 #[.slice ad bs.length c,.int .i64 N] w λe w'=>∃ ad' c',e=.returned (.slice ad' (bs++putL (zz N)).length c')∧St W w' (Sl 5 1 ad' (bs++putL (zz N)).length c' (bc (bs++putL (zz N)))::L):=by
 refine EN Tryz.func198 Tryz.ntmps198 rfl rfl λa ha=>?_
 refine RN 4 ha hs λa ha=>?_
 refine SS ha (ex_convII ha Tryz.underlying2 Tryz.underlying319) λa ha=>?_
 refine RN 1 ha hs λa ha=>?_
 rw[wrap_u64,wrap_u64]at ha
 refine RN 1 ha hs λa ha=>?_
 obtain⟨U0,hU0⟩:∃ U0:Nat,(N%18446744073709551616*2 ^ 1)%18446744073709551616=(U0:Int):=⟨((N%18446744073709551616*2 ^ 1)%18446744073709551616).toNat,by omega⟩
 rw[hU0]at ha
 have hU1:U0<18446744073709551616:=by omega
 refine wp_seq_cut (M:=λa w=>Fr a 28 [(0,.slice ad bs.length c),(5,.int .u64 ((zz N:Nat):Int))]∧St W w (Sl 5 1 ad bs.length c (bc bs)::L)) ?_ ?_
 ·
  refine IF 3 ha hs (λhc0 a ha=>?_) λhc0 a ha=>?_
  ·
   refine RN 2 ha hs λa ha=>?_
   rw[com_u64 hU1]at ha
   refine RN 1 ha hs λa ha=>?_
   rw[show 18446744073709551615-U0=zz N from by rw[zz,if_pos hc0];omega]at ha
   exact⟨ha.keep [0,5],hs⟩
  refine RN 0 ha hs λa ha=>?_
  rw[show U0=zz N from by rw[zz,if_neg (by omega)];omega]at ha
  exact⟨ha.keep [0,5],hs⟩
 clear ha;(try clear hs)
 rintro a w ⟨ha,hs⟩
 refine RN 1 ha hs λa ha=>?_
 refine wp_loop_ghost (λμ a w=>∃ (U c':Nat) (ad':Option Addr) (dn:List UInt8),(μ=U∧dn++putL U=bs++putL (zz N)∧U≤zz N)∧Fr a 28 [(0,.slice ad' dn.length c'),(5,.int .u64 (U:Int))]∧St W w (Sl 5 1 ad' dn.length c' (bc dn)::L)) (zz N) (⟨zz N,c,ad,bs,⟨rfl,rfl,by omega⟩,ha.keep [0,5],hs⟩) ?_
 clear ha hs
 rintro μ a w ⟨U,c',ad',dn,⟨hμ,hdn,hUz⟩,ha,hs⟩
 refine RN 2 ha hs λa ha=>?_
 have hz1:zz N<18446744073709551616:=by rw[zz];split <;> omega
 have hp1:=putL_len 9 (zz N) (by simp;omega)
 have hdl:dn.length≤bs.length+10:=by
   have:=congrArg List.length hdn
   rw[List.length_append,List.length_append]at this
   omega
 clear hp1
 refine IF 2 ha hs (λhc1 a ha=>?_) λhc1 a ha=>?_
 ·
  refine RN 3 ha hs λa ha=>?_
  refine SS ha (ex_convII ha Tryz.underlying319 Tryz.underlying5) λa ha=>?_
  rw[wrap_u8,show (U:Int)%256=((U%256:Nat):Int) from by omega]at ha
  refine RN 1 ha hs λa ha=>?_
  rw[or_u8 (Nat.mod_lt _ (by decide)),show U%256%128=U%128 from by omega]at ha
  refine st_buildSlice ha rfl hs Tryz.underlying22 Ty.t5 rfl rfl rfl rfl (by decide) (by decide) λb19 a w ha hs ho=>?_
  clear ho
  refine RN 0 ha hs λa ha=>?_
  refine st_append ha rfl hs Tryz.underlying22 Ty.t5 rfl rfl hs.rdAll rfl (by simp[Value.oneCell']) (by decide) (by decide) (by omega) λad20 c20 a w ha hs=>?_
  have hst:bc dn++[[Value.int .u8 ((U%128+128:Nat):Int)]].flatten=bc (dn++[UInt8.ofNat (U%128+128)]):=by
    simp[bc,UInt8.toNat_ofNat']
    omega
  rw[hst]at hs
  refine RN 4 ha hs λa ha=>?_
  rw[show ((U:Int).fdiv (2 ^ 7))=((U/128:Nat):Int) from fdivN U 128]at ha
  exact⟨U/128,by omega,U/128,_,ad20,dn++[UInt8.ofNat (U%128+128)],⟨rfl,by rw[← hdn,putL_big (u:=U) (by omega),List.append_assoc];rfl,by omega⟩,by rw[List.length_append];exact ha.keep [0,5],by rw[List.length_append];exact hs.sub⟩
 refine RN 3 ha hs λa ha=>?_
 refine SS ha (ex_convII ha Tryz.underlying319 Tryz.underlying5) λa ha=>?_
 rw[wrap_u8,show (U:Int)%256=((U:Nat):Int) from by omega]at ha
 refine RN 0 ha hs λa ha=>?_
 refine st_buildSlice ha rfl hs Tryz.underlying22 Ty.t5 rfl rfl rfl rfl (by decide) (by decide) λb26 a w ha hs ho=>?_
 clear ho
 refine RN 0 ha hs λa ha=>?_
 refine st_append ha rfl hs Tryz.underlying22 Ty.t5 rfl rfl hs.rdAll rfl (by simp[Value.oneCell']) (by decide) (by decide) (by omega) λad27 c27 a w ha hs=>?_
 have hst:bc dn++[[Value.int .u8 ((U:Nat):Int)]].flatten=bc (dn++[UInt8.ofNat U]):=by
   simp[bc,UInt8.toNat_ofNat']
   omega
 rw[hst,← putL_small (by omega),hdn]at hs
 refine RT 1 ha hs ?_
 have hl:dn.length+1=(bs++putL (zz N)).length:=by rw[← hdn,putL_small (by omega),List.length_append];rfl
 rw[hl]at hs ⊢
 exact⟨_,_,rfl,hs.sub⟩
theorem bytes_spec {s:ByteArray}(hs:St W w L)(hsz:s.size≤1099511627776) :
   Calls Tryz.prog 199 #[.slice none 0 0,.string s] w λe w'=>∃ ad' c',e=.returned (.slice ad' (putL (zz s.size)++s.data.toList).length c')∧St W w' (Sl 5 1 ad' (putL (zz s.size)++s.data.toList).length c' (bc (putL (zz s.size)++s.data.toList))::L):=by
 have hss:s.data.toList.length=s.size:=rfl
 refine EN Tryz.func199 Tryz.ntmps199 rfl rfl λa ha=>?_
 refine CL2 6 ha hs (put_bytes (bs:=[]) (N:=s.size) (hs.sl0 5 1 none) (by omega) (by omega) (by simp)) λadp cp a w ha hs=>?_
 rw[List.nil_append]at ha hs
 have hp1:=putL_pos (zz s.size)
 have hp2:=putL_len 9 (zz s.size) (by rw[zz];split <;> (simp;omega))
 have hcp:=(hs.sl adp).2
 refine RN 1 ha hs λa ha=>?_
 refine st_appendStr ha rfl hs Tryz.underlying22 Tryz.underlying9 Ty.t5 rfl rfl (by omega) (by decide) (by omega) λad10 c10 a w ha hs=>?_
 rw[show (putL (zz s.size)).length+s.size=(putL (zz s.size)++s.data.toList).length from by rw[List.length_append];rfl]at ha hs
 rw[show bc (putL (zz s.size))++bc s.data.toList=bc (putL (zz s.size)++s.data.toList) from by simp[bc]]at hs
 refine RT 1 ha hs ?_
 exact⟨_,_,rfl,hs.sub⟩
end
end
section
section
variable {W w:World}{L:List SP}{n:Nat}{s:ByteArray}
theorem wide_spec {r:Nat}(hs:St W w L):Calls Tryz.prog 239 #[.int .i32 r] w λe w'=>e=.returned (.int .i64 (wideN r))∧St W w' L:=by
 refine EN Tryz.func239 Tryz.ntmps239 rfl rfl λa ha=>?_
 refine IF 7 ha hs (λhc0 a ha=>?_) λhc0 a ha=>?_
 ·
  refine RT 2 ha hs ?_
  exact⟨by rw[wideN,if_pos (by omega)];rfl,hs⟩
 refine IF 4 ha hs (λhc1 a ha=>?_) λhc1 a ha=>?_
 ·
  refine RT 2 ha hs ?_
  exact⟨by rw[wideN,if_neg (by omega),if_pos (by omega)];rfl,hs⟩
 refine IF 4 ha hs (λhc2 a ha=>?_) λhc2 a ha=>?_
 ·
  refine RT 2 ha hs ?_
  exact⟨by rw[wideN,if_neg (by omega),if_neg (by omega),if_pos (by omega)];rfl,hs⟩
 refine RT 2 ha hs ?_
 exact⟨by rw[wideN,if_neg (by omega),if_neg (by omega),if_neg (by omega)];rfl,hs⟩
theorem all_snoc {α:Type}(l:List α)(x:α)(f:α→Bool):(l++[x]).all f=(l.all f&&f x):=by simp
theorem valid_spec (hs:St W w L)(hsz:s.size≤1099511627776):Calls Tryz.prog 228 #[.string s] w λe w'=>e=.returned (.bool ((runesAt s 0).all goodB))∧St W w' L:=by
 refine EN Tryz.func228 Tryz.ntmps228 rfl rfl λa ha=>?_
 refine RN 7 ha hs λa ha=>?_
 refine st_range ha rfl hs Tryz.underlying9 rfl λb7 a w ha hs ho=>?_
 clear ho
 refine RN 0 ha hs λa ha=>?_
 refine wp_loop_ghost (λμ a w=>∃ (pos n:Nat) (dn:List (Nat×Nat)),(μ=s.size-pos∧pos≤s.size∧runesAt s 0=dn++runesAt s pos∧((dn.all goodB=true∧n=pos)∨(dn.all goodB=false∧n=pos+2)))∧Fr a 23 [(0,.string s),(3,.int .i64 n),(7,pt b7)]∧St W w (pts b7 (.stringIter s pos)::L)) (s.size) (⟨0,0,[],⟨by simp,by simp,by simp,.inl ⟨rfl,rfl⟩⟩,ha.keep [0,3,7],hs⟩) ?_
 clear ha hs
 rintro μ a w ⟨pos,n,dn,⟨rfl,hpos,hdn,hg⟩,ha,hs⟩
 refine RN 1 ha hs λa ha=>?_
 refine st_next ha rfl hs rfl λa w ha hs=>?_
 refine RN 0 ha hs λa ha=>?_
 refine SS ha (ex_extract ha (nx0 s pos)) λa ha=>?_
 refine IF 1 ha hs (λhc0 a ha=>?_) λhc0 a ha=>?_
 ·
  have hra:=runesAt_in hc0
  have hal:=adv_le hpos
  have had:adv s pos=pos+(Utf8.decode s pos).2:=by rw[adv,if_pos hc0]
  have hwp:=decode_pos s pos
  refine RN 1 ha hs λa ha=>?_
  refine SS ha (ex_extract ha (nx1 hc0)) λa ha=>?_
  refine RN 0 ha hs λa ha=>?_
  refine SS ha (ex_extract ha (nx2 hc0)) λa ha=>?_
  refine IF 7 ha hs (λhc1 a ha=>?_) λhc1 a ha=>?_
  ·
   have hgf:dn.all goodB=false:=by
     rcases hg with ⟨_,h⟩ | ⟨h,_⟩
     · omega
     · exact h
   refine RT 2 ha hs ?_
   exact⟨by rw[hdn,List.all_append,hgf,Bool.false_and],hs.sub⟩
  obtain⟨hgt,hn⟩:=hg.resolve_right (λh=>by omega)
  have hw4:wideN (Utf8.decode s pos).1≤4:=by unfold wideN;(repeat' split) <;> omega
  refine CL 2 ha hs (wide_spec hs) λa w ha hs=>?_
  refine RN 2 ha hs λa ha=>?_
  refine⟨s.size-adv s pos,by omega,adv s pos,n+wideN (Utf8.decode s pos).1,dn++[Utf8.decode s pos],⟨rfl,hal,by rw[hdn,hra,List.append_assoc];rfl,?_⟩,ha.keep [0,3,7],hs.sub⟩
  rw[all_snoc,hgt,Bool.true_and]
  rcases decode_wide s pos with h | h
  · refine .inl ⟨?_,by omega⟩
    simp only[goodB,Bool.not_eq_true',decide_eq_false_iff_not]
    intro e
    rw[e]at h;simp[wideN]at h
  · refine .inr ⟨by simp[goodB,h],?_⟩
    rw[had,h];simp[wideN];omega
 refine RN 1 ha hs λa ha=>?_
 have hps:pos=s.size:=by omega
 have hro:=runesAt_out (s:=s) (pos:=pos) (by omega)
 rw[hro,List.append_nil]at hdn
 refine RT 5 ha hs ?_
 refine⟨?_,hs.sub⟩
 rw[hdn]
 rcases hg with ⟨h,h2⟩ | ⟨h,h2⟩
 · rw[h,decide_eq_true (by omega)]
 · rw[h,decide_eq_false (by omega)]
theorem title_spec (hs:St W w L)(hsz:s.size≤1099511627776):Calls Tryz.prog 197 #[.string s] w λe w'=>e=.returned (.bool (tOk s))∧St W w' L:=by
 refine EN Tryz.func197 Tryz.ntmps197 rfl rfl λa ha=>?_
 refine RN 7 ha hs λa ha=>?_
 refine st_range ha rfl hs Tryz.underlying9 rfl λb7 a w ha hs ho=>?_
 clear ho
 refine RN 0 ha hs λa ha=>?_
 refine wp_loop_ghost (λμ a w=>∃ (pos:Nat) (dn:List (Nat×Nat)),(μ=s.size-pos∧pos≤s.size∧runesAt s 0=dn++runesAt s pos∧dn.all ctlB=true∧dn.length≤pos)∧Fr a 29 [(0,.string s),(3,.int .i64 dn.length),(7,pt b7)]∧St W w (pts b7 (.stringIter s pos)::L)) (s.size) (⟨0,[],⟨by simp,by simp,by simp,rfl,by simp⟩,ha.keep [0,3,7],hs⟩) ?_
 clear ha hs
 rintro μ a w ⟨pos,dn,⟨rfl,hpos,hdn,hg,hdl⟩,ha,hs⟩
 refine RN 1 ha hs λa ha=>?_
 refine st_next ha rfl hs rfl λa w ha hs=>?_
 refine RN 0 ha hs λa ha=>?_
 refine SS ha (ex_extract ha (nx0 s pos)) λa ha=>?_
 refine IF 1 ha hs (λhc0 a ha=>?_) λhc0 a ha=>?_
 ·
  have hra:=runesAt_in hc0
  have hal:=adv_le hpos
  have had:adv s pos=pos+(Utf8.decode s pos).2:=by rw[adv,if_pos hc0]
  have hwp:=decode_pos s pos
  refine RN 1 ha hs λa ha=>?_
  refine SS ha (ex_extract ha (nx2 hc0)) λa ha=>?_
  refine BY 6 ha hs (λhg2 a ha=>?_) λhg2 a ha=>?_
  ·
   have hbad:ctlB (Utf8.decode s pos)=false:=by simp[ctlB];omega
   refine RT 6 ha hs ?_
   refine⟨?_,hs.sub⟩
   have:(runesAt s 0).all ctlB=false:=by rw[hdn,hra,List.all_append,List.all_cons,hbad];simp
   rw[tOk,this];simp
  refine IF 3 ha hs (λhc1 a ha=>?_) λhc1 a ha=>?_
  ·
   have hbad:ctlB (Utf8.decode s pos)=false:=by simp[ctlB];omega
   refine RT 2 ha hs ?_
   refine⟨?_,hs.sub⟩
   have:(runesAt s 0).all ctlB=false:=by rw[hdn,hra,List.all_append,List.all_cons,hbad];simp
   rw[tOk,this];simp
  refine RN 3 ha hs λa ha=>?_
  exact⟨s.size-adv s pos,by omega,adv s pos,dn++[Utf8.decode s pos],⟨rfl,hal,by rw[hdn,hra,List.append_assoc];rfl,by rw[all_snoc,hg];simp[ctlB];omega,by rw[List.length_append];simp;omega⟩,by rw[List.length_append];exact ha.keep [0,3,7],hs.sub⟩
 refine RN 1 ha hs λa ha=>?_
 have hro:=runesAt_out (s:=s) (pos:=pos) (by omega)
 rw[hro,List.append_nil]at hdn
 have htk:tOk s=(decide (1≤dn.length)&&decide (dn.length≤20)&&(runesAt s 0).all goodB):=by rw[tOk,hdn,hg];simp
 refine BY 3 ha hs (λhg2 a ha=>?_) λhg2 a ha=>?_
 ·
  refine BY 4 ha hs (λhg6 a ha=>?_) λhg6 a ha=>?_
  ·
   refine CL 1 ha hs (valid_spec hs hsz) λa w ha hs=>?_
   refine RT 2 ha hs ?_
   refine⟨?_,hs.sub⟩
   rw[htk]
   first
     | (rw[decide_eq_false (show ¬ 1≤dn.length by omega)];rfl)
     | (rw[decide_eq_false (show ¬ dn.length≤20 by omega)];simp;done)
     | (rw[decide_eq_true (show 1≤dn.length by omega),decide_eq_true (show dn.length≤20 by omega)];rfl)
  refine RT 4 ha hs ?_
  refine⟨?_,hs.sub⟩
  rw[htk]
  first
    | (rw[decide_eq_false (show ¬ 1≤dn.length by omega)];rfl)
    | (rw[decide_eq_false (show ¬ dn.length≤20 by omega)];simp;done)
    | (rw[decide_eq_true (show 1≤dn.length by omega),decide_eq_true (show dn.length≤20 by omega)];rfl)
 refine RT 8 ha hs ?_
 refine⟨?_,hs.sub⟩
 rw[htk]
 first
   | (rw[decide_eq_false (show ¬ 1≤dn.length by omega)];rfl)
   | (rw[decide_eq_false (show ¬ dn.length≤20 by omega)];simp;done)
   | (rw[decide_eq_true (show 1≤dn.length by omega),decide_eq_true (show dn.length≤20 by omega)];rfl)
def tkI (k:Int):Int:=if k=0 then 0 else if k=9∨k=15 then 1 else if k=1∨k=2∨(10≤k∧k≤14) then 2 else if 3≤k∧k≤8 then 3 else -1
theorem tkI_cases (k:Int):(k=0∧tkI k=0)∨((k=9∨k=15)∧tkI k=1)∨((k=1∨k=2∨(10≤k∧k≤14))∧tkI k=2)∨(3≤k∧k≤8∧tkI k=3)∨((k<0∨15<k)∧tkI k = -1):=by
 unfold tkI
 repeat' split
 all_goals omega
theorem takes_spec {k:Int}(hs:St W w L):Calls Tryz.prog 201 #[.int .i64 k] w λe w'=>e=.returned (.int .i64 (tkI k))∧St W w' L:=by
 have hk:=tkI_cases k
 have hfin:∀ (z:Int) (w':World),St W w' L→z=tkI k→Ending.returned (Value.int .i64 z)=.returned (.int .i64 (tkI k))∧St W w' L:=λz w' h e=>⟨by rw[e],h⟩
 refine EN Tryz.func201 Tryz.ntmps201 rfl rfl λa ha=>?_
 refine IF 8 ha hs (λhc0 a ha=>?_) λhc0 a ha=>?_
 ·
  refine RT 2 ha hs ?_
  exact hfin _ _ hs (by omega)
 refine IF 4 ha hs (λhc1 a ha=>?_) λhc1 a ha=>?_
 ·
  refine RT 3 ha hs ?_
  exact hfin _ _ hs (by omega)
 refine IF 2 ha hs (λhc2 a ha=>?_) λhc2 a ha=>?_
 ·
  refine RT 2 ha hs ?_
  exact hfin _ _ hs (by omega)
 refine IF 4 ha hs (λhc3 a ha=>?_) λhc3 a ha=>?_
 ·
  refine RT 3 ha hs ?_
  exact hfin _ _ hs (by omega)
 refine IF 3 ha hs (λhc4 a ha=>?_) λhc4 a ha=>?_
 ·
  refine RT 3 ha hs ?_
  exact hfin _ _ hs (by omega)
 refine IF 3 ha hs (λhc5 a ha=>?_) λhc5 a ha=>?_
 ·
  refine RT 3 ha hs ?_
  exact hfin _ _ hs (by omega)
 refine IF 3 ha hs (λhc6 a ha=>?_) λhc6 a ha=>?_
 ·
  refine RT 3 ha hs ?_
  exact hfin _ _ hs (by omega)
 refine IF 3 ha hs (λhc7 a ha=>?_) λhc7 a ha=>?_
 ·
  refine RT 3 ha hs ?_
  exact hfin _ _ hs (by omega)
 refine IF 3 ha hs (λhc8 a ha=>?_) λhc8 a ha=>?_
 ·
  refine RT 3 ha hs ?_
  exact hfin _ _ hs (by omega)
 refine IF 2 ha hs (λhc9 a ha=>?_) λhc9 a ha=>?_
 ·
  refine RT 2 ha hs ?_
  exact hfin _ _ hs (by omega)
 refine IF 4 ha hs (λhc10 a ha=>?_) λhc10 a ha=>?_
 ·
  refine RT 3 ha hs ?_
  exact hfin _ _ hs (by omega)
 refine IF 3 ha hs (λhc11 a ha=>?_) λhc11 a ha=>?_
 ·
  refine RT 3 ha hs ?_
  exact hfin _ _ hs (by omega)
 refine IF 3 ha hs (λhc12 a ha=>?_) λhc12 a ha=>?_
 ·
  refine RT 3 ha hs ?_
  exact hfin _ _ hs (by omega)
 refine IF 3 ha hs (λhc13 a ha=>?_) λhc13 a ha=>?_
 ·
  refine RT 3 ha hs ?_
  exact hfin _ _ hs (by omega)
 refine IF 3 ha hs (λhc14 a ha=>?_) λhc14 a ha=>?_
 ·
  refine RT 3 ha hs ?_
  exact hfin _ _ hs (by omega)
 refine IF 2 ha hs (λhc15 a ha=>?_) λhc15 a ha=>?_
 ·
  refine RT 2 ha hs ?_
  exact hfin _ _ hs (by omega)
 refine RT 2 ha hs ?_
 exact hfin _ _ hs (by omega)
def CellsIn (l:List Int):Prop:=∀ x∈l,cellP x
theorem cell_spec {zs:List Int}{b e:Nat}(hs:St W w (blk b e (zs.map (.int .i64))::L))(hl:zs.length≤10) :
   Calls Tryz.prog 202 #[.slice (some ⟨b,0,none⟩) zs.length zs.length] w λe' w'=>∃ r:Bool,e'=.returned (.bool r)∧(r=true↔CellsIn zs)∧St W w' (blk b e (zs.map (.int .i64))::L):=by
 refine EN Tryz.func202 Tryz.ntmps202 rfl rfl λa ha=>?_
 refine RN 7 ha hs λa ha=>?_
 refine wp_loop_ghost (λμ a w=>∃ i:Nat,(μ=zs.length-i∧i≤zs.length∧∀ j x,j<i→zs[j]?=some x→cellP x)∧Fr a 18 [(5,.slice (some ⟨b,0,none⟩) zs.length zs.length),(6,.int .i64 zs.length),(7,.int .i64 i)]∧St W w (blk b e (zs.map (.int .i64))::L)) (zs.length) (⟨0,⟨by simp,by simp,λj x h=>absurd h (by omega)⟩,ha.keep [5,6,7],hs⟩) ?_
 clear ha hs
 rintro μ a w ⟨i,⟨rfl,hi,hin⟩,ha,hs⟩
 refine IF 3 ha hs (λhc0 a ha=>?_) λhc0 a ha=>?_
 ·
  obtain⟨x,hx⟩:∃ x,zs[i]?=some x:=⟨_,List.getElem?_eq_getElem (by omega)⟩
  refine RN 3 ha hs λa ha=>?_
  refine SS ha (ld1 ha (hs.rd1 (v:=.int .i64 x) (by rw[List.getElem?_map,hx];rfl))) λa ha=>?_
  refine BY 5 ha hs (λhg2 a ha=>?_) λhg2 a ha=>?_
  ·
   refine RT 6 ha hs ?_
   refine⟨false,rfl,⟨λh=>(by cases h),λh=>?_⟩,hs.sub⟩
   have:=h x (List.mem_of_getElem? hx)
   unfold cellP at this;omega
  refine IF 3 ha hs (λhc1 a ha=>?_) λhc1 a ha=>?_
  ·
   refine RT 2 ha hs ?_
   refine⟨false,rfl,⟨λh=>(by cases h),λh=>?_⟩,hs.sub⟩
   have:=h x (List.mem_of_getElem? hx)
   unfold cellP at this;omega
  refine RN 2 ha hs λa ha=>?_
  refine⟨zs.length-(i+1),by omega,i+1,⟨rfl,by omega,λj y hj hy=>?_⟩,ha.keep [5,6,7],hs.sub⟩
  by_cases e:j=i
  · subst e
    rw[hx]at hy;cases hy
    unfold cellP;omega
  · exact hin j y (by omega) hy
 refine RT 2 ha hs ?_
 refine⟨true,rfl,⟨λ_ x hx=>?_,λ_=>rfl⟩,hs.sub⟩
 obtain⟨j,hj⟩:=List.mem_iff_getElem?.1 hx
 exact hin j x (by have:=(List.getElem?_eq_some_iff.1 hj).1;omega) hj
theorem to_spec {k n:Int}{b e:Nat}(hs:St W w (blk b e [.int .i64 n]::L)) :
   Calls Tryz.prog 200 #[.int .i64 k,pt b] w λe' w'=>e'=.returned (.bool (decide (0≤k∧k≤n)))∧St W w' (blk b e [.int .i64 n]::L):=by
 refine EN Tryz.func200 Tryz.ntmps200 rfl rfl λa ha=>?_
 refine BY 6 ha hs (λhg2 a ha=>?_) λhg2 a ha=>?_
 ·
  refine RT 5 ha hs ?_
  refine⟨?_,hs.sub⟩
  first
    | (rw[decide_eq_false (show ¬ (0≤k∧k≤n) by omega)])
    | (congr 2;rw[decide_eq_decide];omega)
 refine RT 5 ha hs ?_
 refine⟨?_,hs.sub⟩
 first
   | (rw[decide_eq_false (show ¬ (0≤k∧k≤n) by omega)])
   | (congr 2;rw[decide_eq_decide];omega)
end
end
end Go.Proofs.YteoldcfapaiobaaGreat
