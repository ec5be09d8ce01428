/- What a store of pictures holds: its plain side. -/
import Derived.Test.YteoldcfapaiobaaGreatA04Ty
import Derived.Shelf.SlIterI.Nil
import Derived.Shelf.SortM.Plain
import Derived.Shelf.SortM.SortNone
import Derived.DataShut
namespace Go.Proofs.YteoldcfapaiobaaGreat
open Go.RowKit
set_option linter.unusedVariables false
set_option linter.unusedSimpArgs false
set_option maxRecDepth 10000
set_option synthInstance.maxSize 4000
set_option synthInstance.maxHeartbeats 400000
section
structure Pic where
 id:Nat
 refs:Nat
 g:Nat→Int
 p:Nat→Nat
structure Sn where
 last:Nat
 room:Nat
 n:Nat
 pics:List Pic
def Pic.cells (x:Pic):List Value:=ints .i64 4 (λk=>(x.p k:Int)+1)++[.int .i64 x.refs]
theorem Pic.len (x:Pic):x.cells.length=5:=by simp[Pic.cells,ints_len]
instance {x:Pic}:LenEq x.cells 5:=⟨x.len⟩
theorem Pic.at {x:Pic}{k:Nat}(h:k<4):x.cells[k]?=some (.int .i64 ((x.p k:Int)+1)):=by
 rw[Pic.cells,List.getElem?_append_left (by rw[ints_len];exact h),ints_get _ h]
theorem Pic.ref {x:Pic}:x.cells[4]?=some (.int .i64 x.refs):=by simp[Pic.cells,ints_len]
theorem Pic.setref {x:Pic}{r:Nat}:x.cells.set 4 (.int .i64 r)=Pic.cells { x with refs:=r }:=by
 rw[Pic.cells,List.set_append_right _ _ (by rw[ints_len];exact Nat.le_refl _),ints_len];rfl
theorem Pic.setp {x:Pic}{k f:Nat}(h:k<4)(g:Nat→Int):x.cells.set k (.int .i64 ((f:Int)+1))=Pic.cells { x with p:=λj=>if j=k then f else x.p j,g:=g }:=by
 rw[Pic.cells,List.set_append_left _ _ (by rw[ints_len];exact h),ints_set,Pic.cells]
 congr 1
 refine ints_congr λj _=>?_
 by_cases hj:j=k <;> simp[hj]
def cntU (x:Pic)(p m:Nat):Nat:=(List.range m).countP λk=>decide (x.p k=p)
def cntP (x:Pic)(p:Nat):Nat:=cntU x p 4
def cnt (l:List Pic)(p:Nat):Nat:=(l.map λx=>cntP x p).sum
def Sn.used (A:Sn):Nat:=(List.range A.room).countP λp=>decide (0<cnt A.pics p)
theorem cntU_zero (x:Pic)(p:Nat):cntU x p 0=0:=rfl
theorem cntU_succ (x:Pic)(p m:Nat):cntU x p (m+1)=cntU x p m+if x.p m=p then 1 else 0:=by
 rw[cntU,List.range_succ,List.countP_append,List.countP_singleton,cntU]
 by_cases h:x.p m=p <;> simp[h]
theorem cntP_eq (x:Pic)(p:Nat):cntP x p=(if x.p 0=p then 1 else 0)+(if x.p 1=p then 1 else 0)+(if x.p 2=p then 1 else 0)+(if x.p 3=p then 1 else 0):=by
 rw[cntP,cntU_succ,cntU_succ,cntU_succ,cntU_succ,cntU_zero,Nat.zero_add]
theorem cntU_mono (x:Pic)(p:Nat){m n:Nat}(h:m≤n):cntU x p m≤cntU x p n:=by
 induction n with
 | zero => obtain rfl : m = 0 := by omega
           exact Nat.le_refl _
 | succ n ih =>
   rcases Nat.lt_or_ge n m with h1 | h1
   · obtain rfl:m=n+1:=by omega
     exact Nat.le_refl _
   · have:=ih h1
     rw[cntU_succ];omega
theorem cntP_le (x:Pic)(p:Nat):cntP x p≤4:=by have:=List.countP_le_length (p:=λk=>decide (x.p k=p)) (l:=List.range 4);simpa [cntP,cntU] using this
theorem cntP_pos {x:Pic}{k:Nat}(h:k<4):0<cntP x (x.p k):=by
 have h1:=cntU_mono x (x.p k) (m:=k+1) (n:=4) (by omega)
 rw[cntU_succ,if_pos rfl]at h1
 show 0<cntU x (x.p k) 4
 omega
theorem cntP_two {x:Pic}{k k':Nat}(h:k<4)(h':k'<4)(hn:k≠k')(he:x.p k=x.p k'):2≤cntP x (x.p k):=by
 rcases Nat.lt_or_gt_of_ne hn with hl | hl
 · have h1:=cntU_mono x (x.p k) (m:=k'+1) (n:=4) (by omega)
   have h2:=cntU_mono x (x.p k) (m:=k+1) (n:=k') (by omega)
   rw[cntU_succ,if_pos he.symm]at h1
   rw[cntU_succ,if_pos rfl]at h2
   show 2≤cntU x (x.p k) 4
   omega
 · have h1:=cntU_mono x (x.p k) (m:=k+1) (n:=4) (by omega)
   have h2:=cntU_mono x (x.p k) (m:=k'+1) (n:=k) (by omega)
   rw[cntU_succ,if_pos rfl]at h1
   rw[cntU_succ,if_pos he.symm]at h2
   show 2≤cntU x (x.p k) 4
   omega
theorem cntP_zero {x:Pic}{p:Nat}(h:∀ k,k<4→x.p k≠p):cntP x p=0:=by
 rw[cntP_eq,if_neg (h 0 (by omega)),if_neg (h 1 (by omega)),if_neg (h 2 (by omega)),if_neg (h 3 (by omega))]
theorem cntP_pos_iff {x:Pic}{p:Nat}:0<cntP x p ↔ ∃ k,k<4∧x.p k=p:=by
 constructor
 · intro h
   by_cases h0:∃ k,k<4∧x.p k=p
   · exact h0
   · rw[cntP_zero λk hk e=>h0 ⟨k,hk,e⟩]at h;omega
 · rintro⟨k,hk,rfl⟩;exact cntP_pos hk
theorem cntP_congr {x y:Pic}(h:∀ k,k<4→x.p k=y.p k)(p:Nat):cntP x p=cntP y p:=by
 rw[cntP_eq,cntP_eq,h 0 (by omega),h 1 (by omega),h 2 (by omega),h 3 (by omega)]
theorem cnt_nil (p:Nat):cnt [] p=0:=rfl
theorem cnt_cons (x:Pic)(l:List Pic)(p:Nat):cnt (x::l) p=cntP x p+cnt l p:=by simp[cnt]
theorem cnt_app (l m:List Pic)(p:Nat):cnt (l++m) p=cnt l p+cnt m p:=by simp[cnt]
theorem cnt_erase {l:List Pic}{i:Nat}(h:i<l.length)(p:Nat):cnt l p=cntP l[i] p+cnt (l.eraseIdx i) p:=by
 have h0:l=l.take i++l[i]::l.drop (i+1):=by rw[← List.drop_eq_getElem_cons h,List.take_append_drop]
 rw[List.eraseIdx_eq_take_drop_succ,cnt_app]
 conv=>lhs;rw[h0,cnt_app,cnt_cons]
 omega
theorem cnt_set {l:List Pic}{i:Nat}(h:i<l.length)(x:Pic)(p:Nat):cnt (l.set i x) p+cntP l[i] p=cnt l p+cntP x p:=by
 have h1:=cnt_erase h p
 have h2:=cnt_erase (l:=l.set i x) (i:=i) (by simpa using h) p
 rw[List.getElem_set_self,List.eraseIdx_set_eq]at h2
 omega
theorem cnt_mem {l:List Pic}{x:Pic}(h:x∈l)(p:Nat):cntP x p≤cnt l p:=by
 obtain⟨i,hi,rfl⟩:=List.mem_iff_getElem.1 h
 have:=cnt_erase hi p
 omega
theorem cnt_le (l:List Pic)(p:Nat):cnt l p≤4*l.length:=by
 induction l with
 | nil=>simp[cnt]
 | cons x l ih=>rw[cnt_cons,List.length_cons];have:=cntP_le x p;omega
structure Rel (A:Sn)(ps:List Pg):Prop where
 len:ps.length=A.room
 refs:∀ p q,ps[p]?=some q→q.refs=cnt A.pics p
 page:∀ x∈A.pics,∀ k,k<4→∃ q,ps[x.p k]?=some q∧∀ j,j<8→q.g j=x.g (8*k+j)
structure WF (A:Sn):Prop where
 room:A.room≤200
 bound:A.n<1099511627776
 last:A.last≤A.n
 many:A.pics.length≤A.n
 sorted:(A.pics.map (·.id)).Pairwise (· < ·)
 pic:∀ x∈A.pics,1≤x.id∧x.id≤A.last∧1≤x.refs∧x.refs≤A.n
theorem Rel.ok {A:Sn}{ps:List Pg}(h:Rel A ps)(hw:WF A):ps.length≤200∧∀ p∈ps,p.refs<4611686018427387904:=by
 refine⟨h.len ▸ hw.room,λq hq=>?_⟩
 obtain⟨i,hi,rfl⟩:=List.mem_iff_getElem.1 hq
 rw[h.refs i _ (List.getElem?_eq_getElem hi)]
 have:=cnt_le A.pics i
 have:=hw.many
 have:=hw.bound
 omega
theorem Rel.used {A:Sn}{ps:List Pg}(h:Rel A ps):usedN ps=A.used:=by
 have e:ps=(List.range ps.length).map (λi=>ps.getD i pg0):=by
   apply List.ext_getElem (by simp)
   intro i h1 h2
   simp[List.getD_eq_getElem?_getD,List.getElem?_eq_getElem h1]
 rw[usedN,Sn.used,← h.len]
 conv=>lhs;rw[e]
 rw[List.countP_map]
 refine List.countP_congr λi hi=>?_
 have hi2:i<ps.length:=List.mem_range.1 hi
 have:=h.refs i _ (List.getElem?_eq_getElem hi2)
 simp only[Function.comp,List.getD_eq_getElem?_getD,List.getElem?_eq_getElem hi2,Option.getD_some,this]
theorem Rel.live {A:Sn}{ps:List Pg}(h:Rel A ps){x:Pic}(hx:x∈A.pics){k:Nat}(hk:k<4):∃ h:x.p k<ps.length,0<ps[x.p k].refs∧∀ j,j<8→ps[x.p k].g j=x.g (8*k+j):=by
 obtain⟨q,h1,h2⟩:=h.page x hx k hk
 obtain⟨h3,h4⟩:=List.getElem?_eq_some_iff.1 h1
 refine⟨h3,?_,λj hj=>by rw[h4];exact h2 j hj⟩
 rw[h.refs _ _ (List.getElem?_eq_getElem h3)]
 have:=cnt_mem hx (x.p k)
 have:=cntP_pos (x:=x) hk
 omega
def addU (ps:List Pg)(x:Pic)(m:Nat):List Pg:=ps.mapIdx λp q=>⟨q.g,q.refs+cntU x p m⟩
def subU (ps:List Pg)(x:Pic)(m:Nat):List Pg:=ps.mapIdx λp q=>⟨q.g,q.refs-cntU x p m⟩
theorem addU_zero (ps:List Pg)(x:Pic):addU ps x 0=ps:=by
 apply List.ext_getElem (by simp[addU]);intro i h1 h2;simp[addU,cntU_zero]
theorem subU_zero (ps:List Pg)(x:Pic):subU ps x 0=ps:=by
 apply List.ext_getElem (by simp[subU]);intro i h1 h2;simp[subU,cntU_zero]
theorem addU_len (ps:List Pg)(x:Pic)(m:Nat):(addU ps x m).length=ps.length:=by simp[addU]
theorem subU_len (ps:List Pg)(x:Pic)(m:Nat):(subU ps x m).length=ps.length:=by simp[subU]
theorem addU_at {ps:List Pg}{x:Pic}{m p:Nat}(h:p<(addU ps x m).length):(addU ps x m)[p]=⟨(ps[p]'(by rw[addU_len]at h;exact h)).g,(ps[p]'(by rw[addU_len]at h;exact h)).refs+cntU x p m⟩:=by simp[addU]
theorem subU_at {ps:List Pg}{x:Pic}{m p:Nat}(h:p<(subU ps x m).length):(subU ps x m)[p]=⟨(ps[p]'(by rw[subU_len]at h;exact h)).g,(ps[p]'(by rw[subU_len]at h;exact h)).refs-cntU x p m⟩:=by simp[subU]
theorem addU_succ {ps:List Pg}{x:Pic}{m:Nat}(h:x.p m<(addU ps x m).length):(addU ps x m).set (x.p m) ⟨(addU ps x m)[x.p m].g,(addU ps x m)[x.p m].refs+1⟩=addU ps x (m+1):=by
 apply List.ext_getElem (by simp[addU])
 intro i h1 h2
 rw[List.getElem_set,addU_at h2]
 by_cases hi:x.p m=i
 · subst hi
   rw[if_pos rfl,addU_at h,cntU_succ,if_pos rfl,Nat.add_assoc]
 · rw[if_neg hi,addU_at (by simpa using h1),cntU_succ,if_neg hi];rfl
theorem subU_succ {ps:List Pg}{x:Pic}{m:Nat}(h:x.p m<(subU ps x m).length):(subU ps x m).set (x.p m) ⟨(subU ps x m)[x.p m].g,(subU ps x m)[x.p m].refs-1⟩=subU ps x (m+1):=by
 apply List.ext_getElem (by simp[subU])
 intro i h1 h2
 rw[List.getElem_set,subU_at h2]
 by_cases hi:x.p m=i
 · subst hi
   rw[if_pos rfl,subU_at h,cntU_succ,if_pos rfl,Nat.sub_sub]
 · rw[if_neg hi,subU_at (by simpa using h1),cntU_succ,if_neg hi];rfl
theorem getElem?_addU (ps:List Pg)(x:Pic)(m p:Nat):(addU ps x m)[p]?=ps[p]?.map λq=>⟨q.g,q.refs+cntU x p m⟩:=by simp[addU]
theorem getElem?_subU (ps:List Pg)(x:Pic)(m p:Nat):(subU ps x m)[p]?=ps[p]?.map λq=>⟨q.g,q.refs-cntU x p m⟩:=by simp[subU]
def Sn.add (A:Sn)(g:Nat→Int)(p:Nat→Nat):Sn:={ A with last:=A.last+1,n:=A.n+1,pics:=A.pics++[⟨A.last+1,1,g,p⟩] }
def Sn.drop (A:Sn)(i:Nat)(x:Pic):Sn:={ A with pics:=if x.refs=1 then A.pics.eraseIdx i else A.pics.set i { x with refs:=x.refs-1 } }
def Sn.put (A:Sn)(i:Nat)(x:Pic)(c:Nat)(v:Int):Sn:={ A with pics:=A.pics.set i { x with g:=upd x.g c v } }
def Sn.putOwn (A:Sn)(i:Nat)(x:Pic)(c:Nat)(v:Int)(f:Nat):Sn:={ A with pics:=A.pics.set i { x with g:=upd x.g c v,p:=λj=>if j=c/8 then f else x.p j } }
theorem WF.add {A:Sn}(h:WF A)(hn:A.n+1<1099511627776)(g:Nat→Int)(p:Nat→Nat):WF (A.add g p):=by
 obtain⟨h1,h2,h3,h4,h5,h6⟩:=h
 refine⟨h1,hn,by simp[Sn.add];omega,by simp[Sn.add];omega,?_,λx hx=>?_⟩
 · simp only[Sn.add,List.map_append,List.map_cons,List.map_nil]
   refine List.pairwise_append.2 ⟨h5,by simp,λa ha b hb=>?_⟩
   obtain⟨x,hx,rfl⟩:=List.mem_map.1 ha
   have:=(h6 x hx).2.1
   simp at hb;omega
 · simp only[Sn.add]at hx ⊢
   rcases List.mem_append.1 hx with hx | hx
   · have:=h6 x hx;omega
   · simp at hx;subst hx;simp
theorem map_set_id {l:List Pic}{i:Nat}{x y:Pic}(h:l[i]?=some x)(he:y.id=x.id):(l.set i y).map (·.id)=l.map (·.id):=by
 obtain⟨hi,rfl⟩:=List.getElem?_eq_some_iff.1 h
 rw[List.map_set,he]
 apply List.ext_getElem?
 intro j
 rw[List.getElem?_set]
 by_cases hj:i=j
 · subst hj;simp[hi]
 · rw[if_neg hj]
theorem WF.set {A:Sn}(h:WF A){n:Nat}(hn:n<1099511627776)(hle:A.n≤n){i:Nat}{x y:Pic}(hx:A.pics[i]?=some x)(he:y.id=x.id)(hr:1≤y.refs∧y.refs≤n):WF { A with n:=n,pics:=A.pics.set i y }:=by
 obtain⟨h1,h2,h3,h4,h5,h6⟩:=h
 have hxm:=List.mem_of_getElem? hx
 refine⟨h1,hn,by simp only;omega,by simp only[List.length_set];omega,by simp only;rw[map_set_id hx he];exact h5,λz hz=>?_⟩
 simp only at hz ⊢
 rcases List.mem_or_eq_of_mem_set hz with hz | rfl
 · have:=h6 z hz;omega
 · have:=h6 x hxm;rw[he];omega
theorem WF.erase {A:Sn}(h:WF A)(i:Nat):WF { A with pics:=A.pics.eraseIdx i }:=by
 obtain⟨h1,h2,h3,h4,h5,h6⟩:=h
 refine⟨h1,h2,h3,?_,?_,λz hz=>h6 z (List.mem_of_mem_eraseIdx hz)⟩
 · simp only;exact Nat.le_trans (List.length_eraseIdx_le _ _) h4
 · simp only;rw[mapErase];exact h5.sublist (List.eraseIdx_sublist _ _)
theorem WF.ids {A:Sn}(h:WF A){i j:Nat}{x y:Pic}(hx:A.pics[i]?=some x)(hy:A.pics[j]?=some y)(he:x.id=y.id):i=j:=by
 obtain⟨hi,rfl⟩:=List.getElem?_eq_some_iff.1 hx
 obtain⟨hj,rfl⟩:=List.getElem?_eq_some_iff.1 hy
 have hp:=List.pairwise_iff_getElem.1 h.sorted
 rcases Nat.lt_trichotomy i j with hl | hl | hl
 · have:=hp i j (by simpa using hi) (by simpa using hj) hl
   simp at this;omega
 · exact hl
 · have:=hp j i (by simpa using hj) (by simpa using hi) hl
   simp at this;omega
theorem Rel.add {A:Sn}{ps:List Pg}(h:Rel A ps){x:Pic}(hx:x∈A.pics):Rel (A.add x.g x.p) (addU ps x 4):=by
 refine⟨by rw[addU_len];exact h.len,λp q hq=>?_,λy hy k hk=>?_⟩
 · rw[getElem?_addU]at hq
   obtain⟨q0,h1,rfl⟩:=Option.map_eq_some_iff.1 hq
   have:=h.refs p q0 h1
   simp only[Sn.add,cnt_app,cnt_cons,cnt_nil,this]
   rfl
 · have h0 : ∀ y : Pic, (∃ q, ps[y.p k]? = some q ∧ ∀ j, j < 8 → q.g j = y.g (8 * k + j)) → ∃ q, (addU ps x 4)[y.p k]? = some q ∧ ∀ j, j < 8 → q.g j = y.g (8 * k + j) := by
     rintro y ⟨q,h1,h2⟩
     exact⟨⟨q.g,q.refs+cntU x (y.p k) 4⟩,by rw[getElem?_addU,h1];rfl,h2⟩
   simp only[Sn.add]at hy
   rcases List.mem_append.1 hy with hy | hy
   · exact h0 y (h.page y hy k hk)
   · simp at hy;subst hy
     exact h0 ⟨A.last+1,1,x.g,x.p⟩ (h.page x hx k hk)
theorem Rel.refsOnly {A:Sn}{ps:List Pg}(h:Rel A ps){n i:Nat}{x:Pic}{r:Nat}(hx:A.pics[i]?=some x):Rel { A with n:=n,pics:=A.pics.set i { x with refs:=r } } ps:=by
 obtain⟨hi,rfl⟩:=List.getElem?_eq_some_iff.1 hx
 refine⟨h.len,λp q hq=>?_,λy hy k hk=>?_⟩
 · have:=cnt_set hi { A.pics[i] with refs:=r } p
   have h2:cntP { A.pics[i] with refs:=r } p=cntP A.pics[i] p:=cntP_congr (λ_ _=>rfl) p
   rw[h.refs p q hq]
   show cnt A.pics p=cnt (A.pics.set i { A.pics[i] with refs:=r }) p
   omega
 · simp only at hy
   rcases List.mem_or_eq_of_mem_set hy with hy | rfl
   · exact h.page y hy k hk
   · exact h.page _ (List.getElem_mem hi) k hk
theorem Rel.erase {A:Sn}{ps:List Pg}(h:Rel A ps){i:Nat}{x:Pic}(hx:A.pics[i]?=some x):Rel { A with pics:=A.pics.eraseIdx i } (subU ps x 4):=by
 obtain⟨hi,rfl⟩:=List.getElem?_eq_some_iff.1 hx
 refine⟨by rw[subU_len];exact h.len,λp q hq=>?_,λy hy k hk=>?_⟩
 · rw[getElem?_subU]at hq
   obtain⟨q0,h1,rfl⟩:=Option.map_eq_some_iff.1 hq
   have:=h.refs p q0 h1
   have h2:=cnt_erase hi p
   simp only[this,h2]
   show _-cntP A.pics[i] p=_
   omega
 · obtain⟨q,h1,h2⟩:=h.page y (List.mem_of_mem_eraseIdx hy) k hk
   exact⟨⟨q.g,q.refs-cntU A.pics[i] (y.p k) 4⟩,by rw[getElem?_subU,h1];rfl,h2⟩
theorem alone {A:Sn}{i:Nat}{x:Pic}(hx:A.pics[i]?=some x){k:Nat}(hk:k<4)(h1:cnt A.pics (x.p k)≤1){j:Nat}{y:Pic}(hy:A.pics[j]?=some y){k':Nat}(hk':k'<4)(he:y.p k'=x.p k):j=i∧k'=k:=by
 obtain⟨hi,rfl⟩:=List.getElem?_eq_some_iff.1 hx
 have h2:=cnt_erase hi (A.pics[i].p k)
 have h3:=cntP_pos (x:=A.pics[i]) hk
 have hji:j=i:=by
   rcases Nat.lt_trichotomy j i with hl | hl | hl
   · have hm : y ∈ A.pics.eraseIdx i := by
       rw[List.mem_eraseIdx_iff_getElem?];exact⟨j,by omega,hy⟩
     have h4:=cnt_mem hm (A.pics[i].p k)
     rw[← he]at h4 h2 h3 h1
     have:=cntP_pos (x:=y) hk'
     omega
   · exact hl
   · have hm : y ∈ A.pics.eraseIdx i := by
       rw[List.mem_eraseIdx_iff_getElem?];exact⟨j,by omega,hy⟩
     have h4:=cnt_mem hm (A.pics[i].p k)
     rw[← he]at h4 h2 h3 h1
     have:=cntP_pos (x:=y) hk'
     omega
 refine⟨hji,?_⟩
 subst hji
 rw[List.getElem?_eq_getElem hi]at hy
 cases hy
 by_cases hkk:k'=k
 · exact hkk
 · have:=cntP_two hk hk' (Ne.symm hkk) he.symm
   omega
theorem Rel.put {A:Sn}{ps:List Pg}(h:Rel A ps){i:Nat}{x:Pic}(hx:A.pics[i]?=some x){c:Nat}(hc:c<32)(h1:cnt A.pics (x.p (c/8))=1)(v:Int)(hl:x.p (c/8)<ps.length) :
   Rel (A.put i x c v) (ps.set (x.p (c/8)) ⟨λj=>if j=c%8 then v else ps[x.p (c/8)].g j,1⟩):=by
 have hi:=(List.getElem?_eq_some_iff.1 hx).1
 have hxe:=(List.getElem?_eq_some_iff.1 hx).2
 have hk:c/8<4:=by omega
 have hcnt:∀ p,cnt (A.put i x c v).pics p=cnt A.pics p:=λp=>by
   have:=cnt_set hi { x with g:=upd x.g c v } p
   have h2:cntP { x with g:=upd x.g c v } p=cntP A.pics[i] p:=by rw[hxe];exact cntP_congr (λ_ _=>rfl) p
   simp only[Sn.put];omega
 refine⟨by rw[List.length_set];exact h.len,λp q hq=>?_,λy hy k hk'=>?_⟩
 · rw[hcnt]
   rw[List.getElem?_set]at hq
   by_cases hp:x.p (c/8)=p
   · subst hp
     rw[if_pos rfl,if_pos hl]at hq
     cases hq
     exact h1.symm
   · rw[if_neg hp]at hq
     exact h.refs p q hq
 · simp only[Sn.put]at hy
   obtain⟨j,hj⟩:=List.mem_iff_getElem?.1 hy
   rw[List.getElem?_set]at hj
   by_cases hij:i=j
   · rw[if_pos hij,if_pos hi]at hj
     cases hj
     obtain⟨q,h2,h3⟩:=h.page x (List.mem_of_getElem? hx) k hk'
     by_cases hkc:k=c/8
     · subst hkc
       refine⟨⟨λj=>if j=c%8 then v else ps[x.p (c/8)].g j,1⟩,by simp[hl],λm hm=>?_⟩
       rw[List.getElem?_eq_getElem hl]at h2
       cases h2
       simp only[upd]
       by_cases hm2:m=c%8
       · rw[if_pos hm2,if_pos (by omega)]
       · rw[if_neg hm2,if_neg (by omega)];exact h3 m hm
     · have hne:x.p (c/8)≠x.p k:=λe=>hkc (alone hx hk (by omega) hx hk' e.symm).2
       refine⟨q,by simp only;rw[List.getElem?_set_ne hne];exact h2,λm hm=>?_⟩
       simp only[upd]
       rw[if_neg (by omega)];exact h3 m hm
   · rw[if_neg hij]at hj
     obtain⟨q,h2,h3⟩:=h.page y (List.mem_of_getElem? hj) k hk'
     have hne:x.p (c/8)≠y.p k:=λe=>hij (alone hx hk (by omega) hj hk' e.symm).1.symm
     exact⟨q,by rw[List.getElem?_set_ne hne];exact h2,h3⟩
theorem Rel.putOwn {A:Sn}{ps:List Pg}(h:Rel A ps){i:Nat}{x:Pic}(hx:A.pics[i]?=some x){c f:Nat}(hc:c<32)(h1:1<cnt A.pics (x.p (c/8)))(v:Int)(hl:x.p (c/8)<ps.length)(hf:f<ps.length)(h0:ps[f].refs=0) :
   Rel (A.putOwn i x c v f) ((ps.set (x.p (c/8)) ⟨ps[x.p (c/8)].g,ps[x.p (c/8)].refs-1⟩).set f ⟨λj=>if j=c%8 then v else ps[x.p (c/8)].g j,1⟩):=by
 have hi:=(List.getElem?_eq_some_iff.1 hx).1
 have hxe:=(List.getElem?_eq_some_iff.1 hx).2
 have hk:c/8<4:=by omega
 have hfc:cnt A.pics f=0:=by rw[← h.refs f _ (List.getElem?_eq_getElem hf)];exact h0
 have hunused:∀ y∈A.pics,∀ k,k<4→y.p k≠f:=λy hy k hk' e=>by
   have h2:=cnt_mem hy f
   rw[← e]at h2 hfc
   have:=cntP_pos (x:=y) hk'
   omega
 have hxm:=List.mem_of_getElem? hx
 have hpf:x.p (c/8)≠f:=hunused x hxm _ hk
 have hcp:∀ p,cntP { x with g:=upd x.g c v,p:=λj=>if j=c/8 then f else x.p j } p+(if x.p (c/8)=p then 1 else 0)=cntP x p+(if f=p then 1 else 0):=λp=>by
   rw[cntP_eq,cntP_eq]
   simp only
   rcases (by omega:c/8=0∨c/8=1∨c/8=2∨c/8=3) with e | e | e | e <;> rw[e] <;> simp <;> omega
 refine⟨by rw[List.length_set,List.length_set];exact h.len,λp q hq=>?_,λy hy k hk'=>?_⟩
 · have h2:=cnt_set hi { x with g:=upd x.g c v,p:=λj=>if j=c/8 then f else x.p j } p
   have h3:=hcp p
   rw[hxe]at h2
   simp only[Sn.putOwn]
   by_cases hp:f=p
   · subst hp
     rw[List.getElem?_set_self (by rw[List.length_set];exact hf)]at hq
     cases hq
     rw[if_pos rfl,if_neg hpf]at h3
     simp only;omega
   · rw[List.getElem?_set_ne hp]at hq
     rw[if_neg hp]at h3
     by_cases hp2:x.p (c/8)=p
     · subst hp2
       rw[List.getElem?_set_self hl]at hq
       cases hq
       rw[if_pos rfl]at h3
       have h4:=h.refs _ _ (List.getElem?_eq_getElem hl)
       simp only;omega
     · rw[List.getElem?_set_ne hp2]at hq
       rw[if_neg hp2]at h3
       have h4:=h.refs _ _ hq
       omega
 · simp only[Sn.putOwn]at hy
   obtain⟨j,hj⟩:=List.mem_iff_getElem?.1 hy
   rw[List.getElem?_set]at hj
   have hkeep:∀ y:Pic,(∃ q,ps[y.p k]?=some q∧∀ j,j<8→q.g j=y.g (8*k+j))→y.p k≠f→∃ q,((ps.set (x.p (c/8)) ⟨ps[x.p (c/8)].g,ps[x.p (c/8)].refs-1⟩).set f ⟨λj=>if j=c%8 then v else ps[x.p (c/8)].g j,1⟩)[y.p k]?=some q∧∀ j,j<8→q.g j=y.g (8*k+j):=by
     rintro y ⟨q,h2,h3⟩ hn
     by_cases hp:x.p (c/8)=y.p k
     · rw[← hp]at h2 ⊢
       rw[List.getElem?_eq_getElem hl]at h2
       cases h2
       refine⟨⟨ps[x.p (c/8)].g,ps[x.p (c/8)].refs-1⟩,?_,h3⟩
       rw[List.getElem?_set_ne (Ne.symm hpf),List.getElem?_set_self hl]
     · exact⟨q,by rw[List.getElem?_set_ne (Ne.symm hn),List.getElem?_set_ne hp];exact h2,h3⟩
   by_cases hij:i=j
   · rw[if_pos hij,if_pos hi]at hj
     cases hj
     obtain⟨q,h2,h3⟩:=h.page x hxm k hk'
     by_cases hkc:k=c/8
     · subst hkc
       refine⟨⟨λj=>if j=c%8 then v else ps[x.p (c/8)].g j,1⟩,by simp only[if_true];rw[List.getElem?_set_self (by rw[List.length_set];exact hf)],λm hm=>?_⟩
       rw[List.getElem?_eq_getElem hl]at h2
       cases h2
       simp only[upd]
       by_cases hm2:m=c%8
       · rw[if_pos hm2,if_pos (by omega)]
       · rw[if_neg hm2,if_neg (by omega)];exact h3 m hm
     · obtain⟨q',h4,h5⟩:=hkeep x ⟨q,h2,h3⟩ (hunused x hxm k hk')
       refine⟨q',by simp only[if_neg hkc];exact h4,λm hm=>?_⟩
       simp only[upd]
       rw[if_neg (by omega)];exact h5 m hm
   · rw[if_neg hij]at hj
     exact hkeep y (h.page y (List.mem_of_getElem? hj) k hk') (hunused y (List.mem_of_getElem? hj) k hk')
end
section
def ownP (x:Pic×Nat):SP:=blk x.2 232 x.1.cells
def kvs (xs:List (Pic×Nat)):List (Int×Value):=xs.map λx=>((x.1.id:Int),Value.pointer (some ⟨x.2,0,none⟩))
def Store (q r:Nat)(A:Sn):SP:=λh=>∃ b m ps xs,(xs.map (·.1)=A.pics∧WF A∧Rel A ps) ∧
 sepL [blk q 221 [pt r,.map (some m),.int .i64 A.last],mp m (kvs xs),Room r b ps,All ownP xs] h
section
variable {W w:World}{L L' R:List SP}{q r b m i pb:Nat}{A:Sn}{ps:List Pg}{xs:List (Pic×Nat)}{x y:Pic}
theorem Store.open (hs:St W w (Store q r A::L)):∃ b m ps xs,xs.map (·.1)=A.pics∧WF A∧Rel A ps ∧
   St W w (blk q 221 [pt r,.map (some m),.int .i64 A.last]::mp m (kvs xs)::Room r b ps::All ownP xs::L):=by
 obtain⟨⟨b,m,ps,xs⟩,⟨h1,h2,h3⟩,h4⟩:=hs.exi (ι:=Nat×Nat×List Pg×List (Pic×Nat)) (p:=λi=>i.2.2.2.map (·.1)=A.pics∧WF A∧Rel A i.2.2.1)
   (B:=λi h=>sepL [blk q 221 [pt r,.map (some i.2.1),.int .i64 A.last],mp i.2.1 (kvs i.2.2.2),Room r i.1 i.2.2.1,All ownP i.2.2.2] h)
   (λh ⟨b,m,ps,xs,h1,h2⟩=>⟨(b,m,ps,xs),h1,h2⟩)
 exact⟨b,m,ps,xs,h1,h2,h3,h4.open λ_ h=>h⟩
theorem Store.close {last:Nat}(hs:St W w L)[k:Arr L (blk q 221 [pt r,.map (some m),.int .i64 last]::mp m (kvs xs)::Room r b ps::All ownP xs::L') R]
   (h1:xs.map (·.1)=A.pics) (h2:WF A) (h3:Rel A ps) (hl:A.last=last:=by rfl):St W w (Store q r A::L'):=by
 subst hl
 exact St.shut (M:=[_,_,_,_]) (hs.sub (M:=blk q 221 [pt r,.map (some m),.int .i64 A.last]::mp m (kvs xs)::Room r b ps::All ownP xs::L')) (λ_ x=>⟨b,m,ps,xs,⟨h1,h2,h3⟩,x⟩)
theorem own_at (h1:xs.map (·.1)=A.pics)(hx:A.pics[i]?=some x):∃ pb,xs[i]?=some (x,pb):=by
 rw[← h1,List.getElem?_map]at hx
 obtain⟨⟨y,pb⟩,h2,rfl⟩:=Option.map_eq_some_iff.1 hx
 exact⟨pb,h2⟩
theorem St.picOut (hs:St W w L)(hx:xs[i]?=some (x,pb))[k:Pick L (All ownP xs) R]:St W w (blk pb 232 x.cells::All ownP (xs.eraseIdx i)::R):=by
 obtain⟨hi,he⟩:=List.getElem?_eq_some_iff.1 hx
 have:=(hs.perm k.perm).allOut hi
 rw[he]at this
 exact this
theorem kvs_set (hx:xs[i]?=some (x,pb))(he:y.id=x.id):kvs (xs.set i (y,pb))=kvs xs:=by
 have hi:=(List.getElem?_eq_some_iff.1 hx).1
 apply List.ext_getElem?
 intro j
 simp only[kvs,List.getElem?_map,List.getElem?_set]
 by_cases hj:i=j
 · subst hj;rw[if_pos rfl,if_pos hi,hx];simp[he]
 · rw[if_neg hj]
theorem Store.closeAt {B:Sn}{last:Nat}(hs:St W w L)[k:Arr L (blk q 221 [pt r,.map (some m),.int .i64 last]::mp m (kvs xs)::Room r b ps::blk pb 232 y.cells::All ownP (xs.eraseIdx i)::L') R]
   (hx:xs[i]?=some (x,pb)) (h1:xs.map (·.1)=A.pics) (he:y.id=x.id) (hB:B.pics=A.pics.set i y) (h2:WF B) (h3:Rel B ps) (hl:B.last=last:=by rfl):St W w (Store q r B::L'):=by
 subst hl
 obtain⟨hi,_⟩:=List.getElem?_eq_some_iff.1 hx
 have h0:=hs.sub (M:=blk q 221 [pt r,.map (some m),.int .i64 B.last]::mp m (kvs xs)::Room r b ps::blk pb 232 y.cells::All ownP (xs.eraseIdx i)::L')
 have h4:=h0.sub (M:=blk pb 232 y.cells::All ownP (xs.eraseIdx i)::blk q 221 [pt r,.map (some m),.int .i64 B.last]::mp m (kvs xs)::Room r b ps::L')
 have h5:=St.allPut (f:=ownP) (x:=(y,pb)) hi h4
 rw[← kvs_set (y:=y) hx he]at h5
 exact Store.close (b:=b) (m:=m) (xs:=xs.set i (y,pb)) h5 (by rw[List.map_set,h1,hB]) h2 h3
theorem set_same (hx:A.pics[i]?=some x):A.pics=A.pics.set i x:=by
 obtain⟨hi,rfl⟩:=List.getElem?_eq_some_iff.1 hx
 rw[List.set_getElem_self]
theorem findAt (h1:xs.map (·.1)=A.pics)(hw:WF A)(hx:xs[i]?=some (x,pb)):findP (kvs xs) (x.id:Int) 0=some (i,pt pb):=by
 have hA:∀ (j:Nat) (z:Pic×Nat),xs[j]?=some z→A.pics[j]?=some z.1:=λj z hz=>by rw[← h1,List.getElem?_map,hz];rfl
 have:=findP_some (kvs:=kvs xs) (k:=(x.id:Int)) (v:=pt pb) (j:=i) 0 (by rw[kvs,List.getElem?_map,hx];rfl) (λj hj p hp=>by
   rw[kvs,List.getElem?_map]at hp
   obtain⟨z,hz,rfl⟩:=Option.map_eq_some_iff.1 hp
   intro e
   simp at e
   have:=hw.ids (hA j z hz) (hA i _ hx) (Int.ofNat.inj e)
   omega)
 rwa [Nat.zero_add]at this
theorem snap_at {last:Nat}(hs:St W w (blk q 221 [pt r,.map (some m),.int .i64 last]::mp m (kvs xs)::L))(h1:xs.map (·.1)=A.pics)(hw:WF A)(hx:xs[i]?=some (x,pb)) :
   Calls Tryz.prog 120 #[pt q,.int .i64 x.id] w λe w'=>e=.returned (pt pb) ∧
     St W w' (blk q 221 [pt r,.map (some m),.int .i64 last]::mp m (kvs xs)::L):=by
 have hf:=findAt h1 hw hx
 refine EN Tryz.func120 Tryz.ntmps120 rfl rfl λa ha=>?_
 refine RN 6 ha hs λa ha=>?_
 replace ha:=ha.isF 6
 refine RN 7 ha hs λa ha=>?_
 refine SS ha (ex_lookup ha Tryz.underlying218 Tryz.underlying166 Ty.t219 hs (v:=pt pb) (by rw[hf];rfl)) λa ha=>?_
 refine RT 1 ha hs ?_
 exact⟨rfl,hs⟩
theorem snap_at_no {last:Nat}{X:Int}(hs:St W w (blk q 221 [pt r,.map (some m),.int .i64 last]::mp m (kvs xs)::L))(h1:xs.map (·.1)=A.pics)(hn:∀ y∈A.pics,(y.id:Int)≠X) :
   Calls Tryz.prog 120 #[pt q,.int .i64 X] w λe w'=>e=.returned (.pointer none) ∧
     St W w' (blk q 221 [pt r,.map (some m),.int .i64 last]::mp m (kvs xs)::L):=by
 have hf:findP (kvs xs) X 0=none:=findP_none (λp hp=>by
   obtain⟨z,hz,rfl⟩:=List.mem_map.1 hp
   exact hn z.1 (by rw[← h1];exact List.mem_map.2 ⟨z,hz,rfl⟩)) 0
 refine EN Tryz.func120 Tryz.ntmps120 rfl rfl λa ha=>?_
 refine RN 6 ha hs λa ha=>?_
 replace ha:=ha.isF 6
 refine RN 7 ha hs λa ha=>?_
 refine SS ha (ex_lookup ha Tryz.underlying218 Tryz.underlying166 Ty.t219 hs (v:=.pointer none) (by rw[hf];rfl)) λa ha=>?_
 refine RT 1 ha hs ?_
 exact⟨rfl,hs⟩
theorem snap_refs (hs:St W w (Store q r A::L))(hx:A.pics[i]?=some x) :
   Calls Tryz.prog 214 #[pt q,.int .i64 x.id] w λe w'=>e=.returned (.int .i64 x.refs)∧St W w' (Store q r A::L):=by
 obtain⟨b,m,ps,xs,h1,hw,hr,hs⟩:=Store.open hs
 obtain⟨pb,hxs⟩:=own_at h1 hx
 refine EN Tryz.func214 Tryz.ntmps214 rfl rfl λa ha=>?_
 refine CL 5 ha hs (snap_at hs h1 hw hxs) λa w ha hs=>?_
 refine RN 5 ha hs λa ha=>?_
 replace ha:=ha.isF 10
 refine RN 2 ha hs λa ha=>?_
 replace hs:=hs.picOut hxs
 refine RN 3 ha hs λa ha=>?_
 refine SS ha (ld1 ha (hs.rd1 Pic.ref)) λa ha=>?_
 refine RT 1 ha hs ?_
 exact⟨rfl,Store.closeAt (b:=b) (m:=m) (ps:=ps) (pb:=pb) (y:=x) hs hxs h1 rfl (set_same hx) hw hr⟩
theorem snap_refs_no {X:Int}(hs:St W w (Store q r A::L))(hn:∀ y∈A.pics,(y.id:Int)≠X) :
   Calls Tryz.prog 214 #[pt q,.int .i64 X] w λe w'=>e=.returned (.int .i64 0)∧St W w' (Store q r A::L):=by
 obtain⟨b,m,ps,xs,h1,hw,hr,hs⟩:=Store.open hs
 refine EN Tryz.func214 Tryz.ntmps214 rfl rfl λa ha=>?_
 refine CL 5 ha hs (snap_at_no hs h1 hn) λa w ha hs=>?_
 refine RN 5 ha hs λa ha=>?_
 replace ha:=ha.isT 10
 refine RT 3 ha hs ?_
 exact⟨rfl,Store.close (b:=b) (m:=m) hs h1 hw hr⟩
theorem wrap8 {c:Nat}(h:c<4096):IntKind.i64.wrap ((c:Int).tdiv 8)=(c:Int).tdiv 8:=by
 rw[show (c:Int).tdiv 8=((c/8:Nat):Int) from quoN c 8];exact wrap_in (by omega) (by omega)
theorem snap_get {c:Nat}(hs:St W w (Store q r A::L))(hx:A.pics[i]?=some x)(hc:c<32) :
   Calls Tryz.prog 308 #[pt q,.int .i64 x.id,.int .i64 c] w λe w'=>e=.returned (.tuple #[.int .i32 (x.g c),.bool true])∧St W w' (Store q r A::L):=by
 obtain⟨b,m,ps,xs,h1,hw,hr,hs⟩:=Store.open hs
 obtain⟨pb,hxs⟩:=own_at h1 hx
 obtain⟨hp1,hp2,hp3⟩:=hr.live (List.mem_of_getElem? hx) (k:=c/8) (by omega)
 refine EN Tryz.func308 Tryz.ntmps308 rfl rfl λa ha=>?_
 refine CL 6 ha hs (snap_at hs h1 hw hxs) λa w ha hs=>?_
 refine RN 6 ha hs λa ha=>?_
 replace ha:=ha.isF 14
 refine RN 4 ha hs λa ha=>?_
 rw[decide_eq_false (by omega)]at ha
 refine RN 3 ha hs λa ha=>?_
 rw[decide_eq_false (by omega)]at ha
 refine RN 2 ha hs λa ha=>?_
 replace hs:=hs.picOut hxs
 refine DWO 0 [10] [0,1,2,4,5,6,7,8,9,11,12,3003,1010,1013,14,15,16,17] ha hs λa w ha hs hH hC=>?_
 refine RH 5 ha hs hH hC λa ha=>?_
 refine QP ha (λw=>ex_quo ha (by decide) (wrap8 (by omega))) λa ha=>?_
 rw[show (c:Int).tdiv 8=((c/8:Nat):Int) from quoN c 8]at ha
 refine RH 4 ha hs hH hC λa ha=>?_
 refine QP ha (λw=>ex_rem ha (by decide)) λa ha=>?_
 rw[show (c:Int).tmod 8=((c%8:Nat):Int) from remN c 8]at ha
 refine RH 1 ha hs hH hC λa ha=>?_
 refine SS ha (ld1 ha (hs.rd1 (Pic.at (by omega)))) λa ha=>?_
 refine RH 0 ha hs hH hC λa ha=>?_
 refine CL 0 ha hs (page_get (hs.pick (Room r b ps)) hp1 hp2 (Nat.mod_lt c (by decide))) λa w ha hs=>?_
 refine RN 4 ha hs λa ha=>?_
 refine RT 0 ha hs ?_
 exact⟨by rw[hp3 _ (Nat.mod_lt c (by decide)),show 8*(c/8)+c%8=c from by omega],Store.closeAt (b:=b) (m:=m) (ps:=ps) (pb:=pb) (y:=x) hs hxs h1 rfl (set_same hx) hw hr⟩
theorem kvs_new {A:Sn}(h1:xs.map (·.1)=A.pics)(hw:WF A):∀ p∈kvs xs,p.1≠((A.last+1:Nat):Int):=by
 intro p hp
 obtain⟨z,hz,rfl⟩:=List.mem_map.1 hp
 have:=(hw.pic z.1 (by rw[← h1];exact List.mem_map.2 ⟨z,hz,rfl⟩)).2.1
 simp only;omega
theorem i64wf {i:Int}(h1:-9223372036854775808≤i)(h2:i≤9223372036854775807):(Lit.int .i64 i).wf=true:=(Lit.wf_int_iff .i64 i).2 ⟨h1,h2⟩
theorem snap_add {last:Nat}(hs:St W w (blk q 221 [pt r,.map (some m),.int .i64 last]::mp m (kvs xs)::L))(hl:last<1099511627776)(hn:∀ p∈kvs xs,p.1≠((last+1:Nat):Int)) :
   Calls Tryz.prog 129 #[pt q,.agg (Pic.cells x).toArray] w λe w'=>∃ pb,e=.returned (.int .i64 ((last+1:Nat):Int)) ∧
     St W w' (blk q 221 [pt r,.map (some m),.int .i64 ((last+1:Nat):Int)]::mp m (kvs xs++[(((last+1:Nat):Int),pt pb)])::blk pb 232 (Pic.cells { x with refs:=1 })::L):=by
 refine EN Tryz.func129 Tryz.ntmps129 rfl rfl λa ha=>?_
 refine BX 1 ha hs λb3 a w ha hs=>?_
 refine RN 7 ha hs λa ha=>?_
 rw[show ((last:Int)+1)=((last+1:Nat):Int) from rfl]at ha
 refine ST 2 ha hs (λa w ha hs=>?_)
 refine ST 2 ha hs (λa w ha hs=>?_) (hlt:=(by rw[Pic.len];decide))
 rw[show (Value.int IntKind.i64 1)=.int .i64 ((1:Nat):Int) from rfl,Pic.setref]at hs
 refine DWO 1 [7] [0,1,2,4,5,6,3003,1007,1008] ha hs λa w ha hs hH hC=>?_
 refine RH 8 ha hs hH hC λa ha=>?_
 refine st_mapUpdate ha rfl hs Tryz.underlying218 Tryz.underlying166 (i64wf (by omega) (by omega)) hn λa w ha hs=>?_
 refine RT 6 ha hs ?_
 exact⟨b3,rfl,hs.sub⟩
theorem St.picRd {e:Nat}(hs:St W w L)(pb:Nat)[k:Blk L pb e x.cells R]:Rd w pb 0 (ints .i64 4 (λk=>(x.p k:Int)+1)):=by
 have:=hs.rdN (b:=pb) (off:=0) (cs:=x.cells) 4 (sc:=SubC.any)
 rwa [List.drop_zero,Pic.cells,List.take_left' (ints_len _ _ _)]at this
theorem snap_fork (hs:St W w (Store q r A::L))(hx:A.pics[i]?=some x)(hb:A.n+1<1099511627776) :
   Calls Tryz.prog 181 #[pt q,.int .i64 x.id] w λe w'=>e=.returned (.tuple #[.int .i64 ((A.last+1:Nat):Int),.bool true])∧St W w' (Store q r (A.add x.g x.p)::L):=by
 obtain⟨b,m,ps,xs,h1,hw,hr,hs⟩:=Store.open hs
 obtain⟨pb,hxs⟩:=own_at h1 hx
 have hxm:=List.mem_of_getElem? hx
 have hlast:=hw.last
 have hrA:=hr.add hxm
 have hwA:=hw.add hb x.g x.p
 have hok:=hrA.ok hwA
 refine EN Tryz.func181 Tryz.ntmps181 rfl rfl λa ha=>?_
 refine CL 6 ha hs (snap_at hs h1 hw hxs) λa w ha hs=>?_
 refine RN 5 ha hs λa ha=>?_
 replace ha:=ha.isF 13
 refine RN 3 ha hs λa ha=>?_
 replace hs:=hs.picOut hxs
 refine RN 3 ha hs λa ha=>?_
 refine SS ha (ex_loadN ha Tryz.underlying230 rfl Ty.t230 (hs.picRd pb)) λa ha=>?_
 refine RN 1 ha hs λa ha=>?_
 refine wp_loop_ghost (λμ a w=>∃ k:Nat,(μ=4-k∧k≤4)∧Fr a 33 [(0,pt q),(6,pt pb),(17,.agg (ints .i64 4 (λk=>(x.p k:Int)+1)).toArray),(18,.int .i64 k)]∧St W w (Room r b (addU ps x k)::blk pb 232 x.cells::All ownP (xs.eraseIdx i)::blk q 221 [pt r,.map (some m),.int .i64 A.last]::mp m (kvs xs)::L)) (4) (⟨0,⟨by simp,by simp⟩,ha.keep [0,6,17,18],by rw[addU_zero];exact hs.sub⟩) ?_
 clear ha hs
 rintro μ a w ⟨k,⟨rfl,hk⟩,ha,hs⟩
 have haul:=addU_len ps x k
 refine IF 3 ha hs (λhc1 a ha=>?_) λhc1 a ha=>?_
 ·
  refine RN 2 ha hs λa ha=>?_
  refine SS ha (ex_index1 ha Tryz.underlying230 Tryz.underlying3 rfl Ty.t3 (by omega) (ints_get _ (by omega))) λa ha=>?_
  refine RN 1 ha hs λa ha=>?_
  obtain⟨hp1,hp2,hp3⟩:=hr.live hxm (k:=k) (by omega)
  have hp4:x.p k<(addU ps x k).length:=by omega
  have hp5:=addU_succ hp4
  have hp6:(addU ps x k)[x.p k].refs+1<4611686018427387904:=by
    have h3:=cntU_mono x (x.p k) (m:=k+1) (n:=4) (by omega)
    have h4:=hok.2 _ (List.getElem_mem (show x.p k<(addU ps x 4).length by rw[addU_len];exact hp1))
    rw[addU_at]at h4 ⊢
    rw[cntU_succ,if_pos rfl]at h3
    simp only at h4 ⊢
    omega
  have hp7:0<(addU ps x k)[x.p k].refs:=by rw[addU_at];simp only;omega
  refine CL 5 ha hs (page_hold (hs.pick (Room r b (addU ps x k))) hp4 hp7 hp6) λa w ha hs=>?_
  rw[hp5]at hs
  refine RN 2 ha hs λa ha=>?_
  exact⟨4-(k+1),by omega,k+1,⟨rfl,by omega⟩,ha.keep [0,6,17,18],hs.sub⟩
 obtain rfl:k=4:=by omega
 refine CL1 5 ha hs (snap_add (q:=q) (r:=r) (m:=m) (last:=A.last) (L:=Room r b (addU ps x 4)::blk pb 232 x.cells::All ownP (xs.eraseIdx i)::L) hs.sub (by have:=hw.bound;omega) (kvs_new h1 hw)) λpb2 a w ha hs=>?_
 refine RT 2 ha hs ?_
 refine⟨rfl,?_⟩
 have hi:=(List.getElem?_eq_some_iff.1 hxs).1
 have h5:=St.allPut (f:=ownP) (x:=(x,pb)) hi (hs.sub (M:=blk pb 232 x.cells::All ownP (xs.eraseIdx i)::blk pb2 232 (Pic.cells { x with refs:=1 })::blk q 221 [pt r,.map (some m),.int .i64 ((A.last+1:Nat):Int)]::mp m (kvs xs++[(((A.last+1:Nat):Int),pt pb2)])::Room r b (addU ps x 4)::L))
 rw[show xs.set i (x,pb)=xs from by
   have:=List.getElem?_eq_some_iff.1 hxs
   rw[← this.2,List.set_getElem_self]]at h5
 have h6:=St.allPush (f:=ownP) (x:=(⟨A.last+1,1,x.g,x.p⟩,pb2)) (h5.perm (List.Perm.swap _ _ _))
 rw[show kvs xs++[(((A.last+1:Nat):Int),Value.pointer (some ⟨pb2,0,none⟩))]=kvs (xs++[(⟨A.last+1,1,x.g,x.p⟩,pb2)]) from by simp[kvs]]at h6
 exact Store.close (last:=A.last+1) (b:=b) (m:=m) (xs:=xs++[(⟨A.last+1,1,x.g,x.p⟩,pb2)]) h6 (by simp[Sn.add,h1]) hwA hrA
theorem snap_drop_more (hs:St W w (Store q r A::L))(hx:A.pics[i]?=some x)(h2:x.refs≠1) :
   Calls Tryz.prog 185 #[pt q,.int .i64 x.id] w λe w'=>e=.returned (.bool true)∧St W w' (Store q r (A.drop i x)::L):=by
 obtain⟨b,m,ps,xs,h1,hw,hr,hs⟩:=Store.open hs
 obtain⟨pb,hxs⟩:=own_at h1 hx
 have hxr:=hw.pic x (List.mem_of_getElem? hx)
 have hA:A.drop i x={ A with n:=A.n,pics:=A.pics.set i { x with refs:=x.refs-1 } }:=by rw[Sn.drop,if_neg h2]
 have hbd:=hw.bound
 refine EN Tryz.func185 Tryz.ntmps185 rfl rfl λa ha=>?_
 refine CL 5 ha hs (snap_at hs h1 hw hxs) λa w ha hs=>?_
 refine RN 5 ha hs λa ha=>?_
 replace ha:=ha.isF 12
 refine RN 3 ha hs λa ha=>?_
 replace hs:=hs.picOut hxs
 refine RN 3 ha hs λa ha=>?_
 refine SS ha (ld1 ha (hs.rd1 Pic.ref)) λa ha=>?_
 refine ST 3 ha hs (λa w ha hs=>?_) (hlt:=(by rw[Pic.len];decide))
 rw[show ((x.refs:Int)-1)=((x.refs-1:Nat):Int) from by omega,Pic.setref]at hs
 refine RN 4 ha hs λa ha=>?_
 refine SS ha (ld1 ha (hs.rd1 Pic.ref)) λa ha=>?_
 refine RN 1 ha hs λa ha=>?_
 rw[decide_eq_true (by simp;omega)]at ha
 refine RT 3 ha hs ?_
 exact⟨rfl,Store.closeAt (last:=A.last) (b:=b) (m:=m) (ps:=ps) (pb:=pb) (y:={ x with refs:=x.refs-1 }) (B:=A.drop i x) hs hxs h1 rfl (by rw[hA]) (by rw[hA];exact hw.set hbd (Nat.le_refl _) hx rfl (by simp only;omega)) (by rw[hA];exact hr.refsOnly hx)⟩
theorem snap_drop_last (hs:St W w (Store q r A::L))(hx:A.pics[i]?=some x)(h2:x.refs=1) :
   Calls Tryz.prog 185 #[pt q,.int .i64 x.id] w λe w'=>e=.returned (.bool true)∧St W w' (Store q r (A.drop i x)::L):=by
 obtain⟨b,m,ps,xs,h1,hw,hr,hs⟩:=Store.open hs
 obtain⟨pb,hxs⟩:=own_at h1 hx
 have hxm:=List.mem_of_getElem? hx
 have hA:A.drop i x={ A with pics:=A.pics.eraseIdx i }:=by rw[Sn.drop,if_pos h2]
 refine EN Tryz.func185 Tryz.ntmps185 rfl rfl λa ha=>?_
 refine CL 5 ha hs (snap_at hs h1 hw hxs) λa w ha hs=>?_
 refine RN 5 ha hs λa ha=>?_
 replace ha:=ha.isF 12
 refine RN 3 ha hs λa ha=>?_
 replace hs:=hs.picOut hxs
 refine RN 3 ha hs λa ha=>?_
 refine SS ha (ld1 ha (hs.rd1 Pic.ref)) λa ha=>?_
 refine ST 3 ha hs (λa w ha hs=>?_) (hlt:=(by rw[Pic.len];decide))
 rw[show ((x.refs:Int)-1)=((x.refs-1:Nat):Int) from by omega,Pic.setref]at hs
 refine RN 4 ha hs λa ha=>?_
 refine SS ha (ld1 ha (hs.rd1 Pic.ref)) λa ha=>?_
 refine RN 1 ha hs λa ha=>?_
 rw[decide_eq_false (by simp;omega)]at ha
 refine RN 6 ha hs λa ha=>?_
 refine SS ha (ex_loadN ha Tryz.underlying230 rfl Ty.t230 (hs.picRd (x:={ x with refs:=x.refs-1 }) pb)) λa ha=>?_
 refine RN 1 ha hs λa ha=>?_
 refine wp_loop_ghost (λμ a w=>∃ k:Nat,(μ=4-k∧k≤4)∧Fr a 44 [(0,pt q),(1,.int .i64 x.id),(28,.agg (ints .i64 4 (λk=>(x.p k:Int)+1)).toArray),(29,.int .i64 k)]∧St W w (Room r b (subU ps x k)::All ownP (xs.eraseIdx i)::blk q 221 [pt r,.map (some m),.int .i64 A.last]::mp m (kvs xs)::L)) (4) (⟨0,⟨by simp,by simp⟩,ha.keep [0,1,28,29],by rw[subU_zero];exact hs.sub⟩) ?_
 clear ha hs
 rintro μ a w ⟨k,⟨rfl,hk⟩,ha,hs⟩
 have haul:=subU_len ps x k
 refine IF 3 ha hs (λhc2 a ha=>?_) λhc2 a ha=>?_
 ·
  refine RN 2 ha hs λa ha=>?_
  refine SS ha (ex_index1 ha Tryz.underlying230 Tryz.underlying3 rfl Ty.t3 (by omega) (ints_get _ (by omega))) λa ha=>?_
  refine RN 1 ha hs λa ha=>?_
  obtain⟨hp1,hp2,hp3⟩:=hr.live hxm (k:=k) (by omega)
  have hp4:x.p k<(subU ps x k).length:=by omega
  have hp5:=subU_succ hp4
  have hp7:0<(subU ps x k)[x.p k].refs:=by
    have h3:=cntU_mono x (x.p k) (m:=k+1) (n:=4) (by omega)
    have h4:=hr.refs _ _ (List.getElem?_eq_getElem hp1)
    have h5:cntU x (x.p k) 4≤cnt A.pics (x.p k):=cnt_mem hxm (x.p k)
    rw[cntU_succ,if_pos rfl]at h3
    rw[subU_at];simp only;omega
  refine CL 5 ha hs (page_drop (hs.pick (Room r b (subU ps x k))) hp4 hp7) λa w ha hs=>?_
  rw[hp5]at hs
  refine RN 2 ha hs λa ha=>?_
  exact⟨4-(k+1),by omega,k+1,⟨rfl,by omega⟩,ha.keep [0,1,28,29],hs.sub⟩
 obtain rfl:k=4:=by omega
 refine RN 6 ha hs λa ha=>?_
 refine st_mapDelete ha rfl hs Tryz.underlying218 Tryz.underlying166 (findAt h1 hw hxs) λa w ha hs=>?_
 refine RT 2 ha hs ?_
 have hk:(kvs xs).eraseIdx i=kvs (xs.eraseIdx i):=(mapErase _ _ _).symm
 rw[hk]at hs
 exact⟨rfl,Store.close (last:=A.last) (b:=b) (m:=m) (ps:=subU ps x 4) (xs:=xs.eraseIdx i) hs (by rw[hA,mapErase,h1]) (by rw[hA];exact hw.erase i) (by rw[hA];exact hr.erase hx) (by rw[hA])⟩
theorem snap_drop (hs:St W w (Store q r A::L))(hx:A.pics[i]?=some x) :
   Calls Tryz.prog 185 #[pt q,.int .i64 x.id] w λe w'=>e=.returned (.bool true)∧St W w' (Store q r (A.drop i x)::L):=by
 by_cases h:x.refs=1
 · exact snap_drop_last hs hx h
 · exact snap_drop_more hs hx h
theorem snap_drop_no {X:Int}(hs:St W w (Store q r A::L))(hn:∀ y∈A.pics,(y.id:Int)≠X) :
   Calls Tryz.prog 185 #[pt q,.int .i64 X] w λe w'=>e=.returned (.bool false)∧St W w' (Store q r A::L):=by
 obtain⟨b,m,ps,xs,h1,hw,hr,hs⟩:=Store.open hs
 refine EN Tryz.func185 Tryz.ntmps185 rfl rfl λa ha=>?_
 refine CL 5 ha hs (snap_at_no hs h1 hn) λa w ha hs=>?_
 refine RN 5 ha hs λa ha=>?_
 replace ha:=ha.isT 12
 refine RT 3 ha hs ?_
 exact⟨rfl,Store.close (b:=b) (m:=m) hs h1 hw hr⟩
theorem WF.put (hw:WF A)(hx:A.pics[i]?=some x){g:Nat→Int}{p:Nat→Nat}:WF { A with pics:=A.pics.set i { x with g:=g,p:=p } } :=
 hw.set (n:=A.n) (y:={ x with g:=g,p:=p }) hw.bound (Nat.le_refl _) hx rfl (by have:=hw.pic x (List.mem_of_getElem? hx);simp only;omega)
theorem snap_set {c:Nat}{v:Int}(hs:St W w (Store q r A::L))(hx:A.pics[i]?=some x)(hc:c<32)(h1:cnt A.pics (x.p (c/8))=1) :
   Calls Tryz.prog 346 #[pt q,.int .i64 x.id,.int .i64 c,.int .i32 v] w λe w'=>e=.returned (.bool true)∧St W w' (Store q r (A.put i x c v)::L):=by
 obtain⟨b,m,ps,xs,h2,hw,hr,hs⟩:=Store.open hs
 obtain⟨pb,hxs⟩:=own_at h2 hx
 obtain⟨hp1,hp2,hp3⟩:=hr.live (List.mem_of_getElem? hx) (k:=c/8) (by omega)
 have hrf:ps[x.p (c/8)].refs=1:=by rw[hr.refs _ _ (List.getElem?_eq_getElem hp1)];exact h1
 refine EN Tryz.func346 Tryz.ntmps346 rfl rfl λa ha=>?_
 refine CL 5 ha hs (snap_at hs h2 hw hxs) λa w ha hs=>?_
 refine RN 6 ha hs λa ha=>?_
 replace ha:=ha.isF 18
 refine RN 4 ha hs λa ha=>?_
 rw[decide_eq_false (by omega)]at ha
 refine RN 3 ha hs λa ha=>?_
 rw[decide_eq_false (by omega)]at ha
 refine RN 2 ha hs λa ha=>?_
 replace hs:=hs.picOut hxs
 refine RN 2 ha hs λa ha=>?_
 refine SS ha (ex_quo ha (by decide) (wrap8 (by omega))) λa ha=>?_
 rw[show (c:Int).tdiv 8=((c/8:Nat):Int) from quoN c 8]at ha
 refine DWO 6 [6] [0,1,2,4,5,3003,1006,1007,8] ha hs λa w ha hs hH hC=>?_
 refine RH 6 ha hs hH hC λa ha=>?_
 refine SS ha (ld1 ha (hs.rd1 (Pic.at (by omega)))) λa ha=>?_
 refine RH 0 ha hs hH hC λa ha=>?_
 refine CL 0 ha hs (page_refs (hs.pick (Room r b ps)) hp1 hp2) λa w ha hs=>?_
 rw[hrf]at ha
 refine RN 1 ha hs λa ha=>?_
 rw[decide_eq_false (by omega)]at ha
 refine DWO 2 [6] [0,1,2,4,5,7,8,9,3003,1006,1010,11] ha hs λa w ha hs hH hC=>?_
 refine RH 6 ha hs hH hC λa ha=>?_
 refine QP ha (λw=>ex_rem ha (by decide)) λa ha=>?_
 rw[show (c:Int).tmod 8=((c%8:Nat):Int) from remN c 8]at ha
 refine RH 2 ha hs hH hC λa ha=>?_
 refine SS ha (ld1 ha (hs.rd1 (Pic.at (by omega)))) λa ha=>?_
 refine RH 0 ha hs hH hC λa ha=>?_
 refine CL 0 ha hs (page_set (hs.pick (Room r b ps)) hp1 hrf (Nat.mod_lt c (by decide))) λa w ha hs=>?_
 refine RN 1 ha hs λa ha=>?_
 refine RT 0 ha hs ?_
 rw[show x.cells=Pic.cells { x with g:=upd x.g c v } from rfl]at hs
 exact⟨rfl,Store.closeAt (B:=A.put i x c v) (last:=A.last) (b:=b) (m:=m) (pb:=pb) (y:={ x with g:=upd x.g c v }) (ps:=ps.set (x.p (c/8)) ⟨λj=>if j=c%8 then v else ps[x.p (c/8)].g j,1⟩) hs hxs h2 rfl rfl (hw.put hx) (hr.put hx hc h1 v hp1)⟩
theorem used_full {ps:List Pg}(h:noneFree ps):usedN ps=ps.length:=by
 rw[usedN,List.countP_eq_length]
 intro p hp
 obtain⟨i,hi,rfl⟩:=List.mem_iff_getElem.1 hp
 have:=h i hi
 simp;omega
theorem used_less {ps:List Pg}{f:Nat}(h:freeI ps f):usedN ps<ps.length:=by
 obtain⟨hf,h0,_⟩:=h
 have h1:=used_le ps
 rcases Nat.lt_or_ge (usedN ps) ps.length with h2 | h2
 · exact h2
 · have:=(List.countP_eq_length (p:=λp:Pg=>decide (0<p.refs)) (l:=ps)).1 (Nat.le_antisymm h1 h2) _ (List.getElem_mem hf)
   simp at this;omega
theorem snap_set_own {c:Nat}{v:Int}(hs:St W w (Store q r A::L))(hx:A.pics[i]?=some x)(hc:c<32)(h1:1<cnt A.pics (x.p (c/8)))(hu:A.used<A.room) :
   Calls Tryz.prog 346 #[pt q,.int .i64 x.id,.int .i64 c,.int .i32 v] w λe w'=>∃ f,e=.returned (.bool true)∧(f<A.room∧cnt A.pics f=0)∧St W w' (Store q r (A.putOwn i x c v f)::L):=by
 obtain⟨b,m,ps,xs,h2,hw,hr,hs⟩:=Store.open hs
 obtain⟨pb,hxs⟩:=own_at h2 hx
 obtain⟨hp1,hp2,hp3⟩:=hr.live (List.mem_of_getElem? hx) (k:=c/8) (by omega)
 have hrf:ps[x.p (c/8)].refs=cnt A.pics (x.p (c/8)):=hr.refs _ _ (List.getElem?_eq_getElem hp1)
 rcases free_cases ps with hno | ⟨f,hf⟩
 · have:=used_full hno
   rw[hr.used,hr.len]at this;omega
 have hf1:=hf.1
 have hf2:=hf.2.1
 have hfc:cnt A.pics f=0:=by rw[← hr.refs f _ (List.getElem?_eq_getElem hf1)];exact hf2
 have hne:x.p (c/8)≠f:=by
   intro e
   rw[e]at h1;omega
 have hl1:x.p (c/8)<(ps.set f ⟨ps[x.p (c/8)].g,1⟩).length:=by rw[List.length_set];exact hp1
 have e1:(ps.set f ⟨ps[x.p (c/8)].g,1⟩)[x.p (c/8)]=ps[x.p (c/8)]:=List.getElem_set_ne (Ne.symm hne) _
 have hl2:f<((ps.set f ⟨ps[x.p (c/8)].g,1⟩).set (x.p (c/8)) ⟨ps[x.p (c/8)].g,ps[x.p (c/8)].refs-1⟩).length:=by rw[List.length_set,List.length_set];exact hf1
 have e2:((ps.set f ⟨ps[x.p (c/8)].g,1⟩).set (x.p (c/8)) ⟨ps[x.p (c/8)].g,ps[x.p (c/8)].refs-1⟩)[f]=⟨ps[x.p (c/8)].g,1⟩:=by rw[List.getElem_set_ne hne,List.getElem_set_self]
 have hfin:((ps.set f ⟨ps[x.p (c/8)].g,1⟩).set (x.p (c/8)) ⟨ps[x.p (c/8)].g,ps[x.p (c/8)].refs-1⟩).set f ⟨λj=>if j=c%8 then v else ps[x.p (c/8)].g j,1⟩=(ps.set (x.p (c/8)) ⟨ps[x.p (c/8)].g,ps[x.p (c/8)].refs-1⟩).set f ⟨λj=>if j=c%8 then v else ps[x.p (c/8)].g j,1⟩:=by
   rw[List.set_comm _ _ (Ne.symm hne),List.set_set]
 refine EN Tryz.func346 Tryz.ntmps346 rfl rfl λa ha=>?_
 refine CL 5 ha hs (snap_at hs h2 hw hxs) λa w ha hs=>?_
 refine RN 6 ha hs λa ha=>?_
 replace ha:=ha.isF 18
 refine RN 4 ha hs λa ha=>?_
 rw[decide_eq_false (by omega)]at ha
 refine RN 3 ha hs λa ha=>?_
 rw[decide_eq_false (by omega)]at ha
 refine RN 2 ha hs λa ha=>?_
 replace hs:=hs.picOut hxs
 refine RN 2 ha hs λa ha=>?_
 refine SS ha (ex_quo ha (by decide) (wrap8 (by omega))) λa ha=>?_
 rw[show (c:Int).tdiv 8=((c/8:Nat):Int) from quoN c 8]at ha
 refine DWO 6 [6] [0,1,2,4,5,3003,1006,1007,8] ha hs λa w ha hs hH hC=>?_
 refine RH 6 ha hs hH hC λa ha=>?_
 refine SS ha (ld1 ha (hs.rd1 (Pic.at (by omega)))) λa ha=>?_
 refine RH 0 ha hs hH hC λa ha=>?_
 refine CL 0 ha hs (page_refs (hs.pick (Room r b ps)) hp1 hp2) λa w ha hs=>?_
 refine RN 1 ha hs λa ha=>?_
 rw[decide_eq_true (by omega)]at ha
 refine DWO 2 [6] [0,1,2,4,5,3003,1006,1007,8,9,10,11,12] ha hs λa w ha hs hH hC=>?_
 refine RH 6 ha hs hH hC λa ha=>?_
 refine SS ha (ld1 ha (hs.rd1 (Pic.at (by omega)))) λa ha=>?_
 refine RH 0 ha hs hH hC λa ha=>?_
 refine CL 0 ha hs (page_copy_some (hs.pick (Room r b ps)) hp1 hp2 hf) λa w ha hs=>?_
 refine RN 5 ha hs λa ha=>?_
 refine RN 4 ha hs λa ha=>?_
 replace ha:=ha.isF 53
 refine DWO 2 [6] [0,1,2,4,5,3003,1006,1007] ha hs λa w ha hs hH hC=>?_
 refine RH 6 ha hs hH hC λa ha=>?_
 refine SS ha (ld1 ha (hs.rd1 (Pic.at (by omega)))) λa ha=>?_
 refine RH 0 ha hs hH hC λa ha=>?_
 refine CL 0 ha hs (page_drop (hs.pick (Room r b (ps.set f ⟨ps[x.p (c/8)].g,1⟩))) hl1 (by rw[e1];exact hp2)) λa w ha hs=>?_
 rw[e1]at hs
 refine ST 3 ha hs (λa w ha hs=>?_) (hlt:=(by rw[Pic.len];omega))
 rw[Pic.setp (by omega) (upd x.g c v)]at hs
 refine DWO 1 [6] [0,1,2,4,5,7,8,9,3003,1006,1010,11] ha hs λa w ha hs hH hC=>?_
 refine RH 6 ha hs hH hC λa ha=>?_
 refine QP ha (λw=>ex_rem ha (by decide)) λa ha=>?_
 rw[show (c:Int).tmod 8=((c%8:Nat):Int) from remN c 8]at ha
 refine RH 2 ha hs hH hC λa ha=>?_
 refine SS ha (ld1 ha (hs.rd1 (Pic.at (x:={ x with p:=λj=>if j=c/8 then f else x.p j,g:=upd x.g c v }) (by omega)))) λa ha=>?_
 simp only[if_true]at ha
 refine RH 0 ha hs hH hC λa ha=>?_
 refine CL 0 ha hs (page_set (hs.pick (Room r b ((ps.set f ⟨ps[x.p (c/8)].g,1⟩).set (x.p (c/8)) ⟨ps[x.p (c/8)].g,ps[x.p (c/8)].refs-1⟩))) hl2 (by rw[e2]) (Nat.mod_lt c (by decide))) λa w ha hs=>?_
 rw[e2,hfin]at hs
 refine RN 1 ha hs λa ha=>?_
 refine RT 0 ha hs ?_
 exact⟨f,rfl,⟨hr.len ▸ hf1,hfc⟩,Store.closeAt (B:=A.putOwn i x c v f) (last:=A.last) (b:=b) (m:=m) (pb:=pb) (y:={ x with p:=λj=>if j=c/8 then f else x.p j,g:=upd x.g c v }) hs hxs h2 rfl rfl (hw.put hx) (hr.putOwn hx hc h1 v hp1 hf1 hf2)⟩
theorem snap_set_full {c:Nat}{v:Int}(hs:St W w (Store q r A::L))(hx:A.pics[i]?=some x)(hc:c<32)(h1:1<cnt A.pics (x.p (c/8)))(hu:A.room≤A.used) :
   Calls Tryz.prog 346 #[pt q,.int .i64 x.id,.int .i64 c,.int .i32 v] w λe w'=>e=.returned (.bool false)∧St W w' (Store q r A::L):=by
 obtain⟨b,m,ps,xs,h2,hw,hr,hs⟩:=Store.open hs
 obtain⟨pb,hxs⟩:=own_at h2 hx
 obtain⟨hp1,hp2,hp3⟩:=hr.live (List.mem_of_getElem? hx) (k:=c/8) (by omega)
 have hrf:ps[x.p (c/8)].refs=cnt A.pics (x.p (c/8)):=hr.refs _ _ (List.getElem?_eq_getElem hp1)
 rcases free_cases ps with hno | ⟨f,hf⟩
 rotate_left
 · have:=used_less hf
   rw[hr.used,hr.len]at this;omega
 refine EN Tryz.func346 Tryz.ntmps346 rfl rfl λa ha=>?_
 refine CL 5 ha hs (snap_at hs h2 hw hxs) λa w ha hs=>?_
 refine RN 6 ha hs λa ha=>?_
 replace ha:=ha.isF 18
 refine RN 4 ha hs λa ha=>?_
 rw[decide_eq_false (by omega)]at ha
 refine RN 3 ha hs λa ha=>?_
 rw[decide_eq_false (by omega)]at ha
 refine RN 2 ha hs λa ha=>?_
 replace hs:=hs.picOut hxs
 refine RN 2 ha hs λa ha=>?_
 refine SS ha (ex_quo ha (by decide) (wrap8 (by omega))) λa ha=>?_
 rw[show (c:Int).tdiv 8=((c/8:Nat):Int) from quoN c 8]at ha
 refine DWO 6 [6] [0,1,2,4,5,3003,1006,1007,8] ha hs λa w ha hs hH hC=>?_
 refine RH 6 ha hs hH hC λa ha=>?_
 refine SS ha (ld1 ha (hs.rd1 (Pic.at (by omega)))) λa ha=>?_
 refine RH 0 ha hs hH hC λa ha=>?_
 refine CL 0 ha hs (page_refs (hs.pick (Room r b ps)) hp1 hp2) λa w ha hs=>?_
 refine RN 1 ha hs λa ha=>?_
 rw[decide_eq_true (by omega)]at ha
 refine DWO 2 [6] [0,1,2,4,5,3003,1006,1007,8,9,10,11,12] ha hs λa w ha hs hH hC=>?_
 refine RH 6 ha hs hH hC λa ha=>?_
 refine SS ha (ld1 ha (hs.rd1 (Pic.at (by omega)))) λa ha=>?_
 refine RH 0 ha hs hH hC λa ha=>?_
 refine CL 0 ha hs (page_copy_none (hs.pick (Room r b ps)) hp1 hp2 hno) λa w ha hs=>?_
 refine RN 5 ha hs λa ha=>?_
 refine RN 4 ha hs λa ha=>?_
 replace ha:=ha.isT 53
 refine RT 3 ha hs ?_
 exact⟨rfl,Store.closeAt (b:=b) (m:=m) (ps:=ps) (pb:=pb) (y:=x) hs hxs h2 rfl (set_same hx) hw hr⟩
end
end
end Go.Proofs.YteoldcfapaiobaaGreat
