/- The walks of package snap, further. -/
import Derived.Test.YtdilfdkendjjhaaGreatA07Snap
namespace Go.Proofs.YtdilfdkendjjhaaGreat
open Go.RowKit
set_option linter.unusedVariables false
set_option linter.unusedSimpArgs false
set_option maxRecDepth 10000
set_option synthInstance.maxSize 4000
set_option synthInstance.maxHeartbeats 400000
section
section
variable {W w:World}{L L':List SP}{q r b m i pb:Nat}{A:Sn}{ps:List Pg}{xs:List (Pic×Nat)}{x y:Pic}
theorem clone_int {off n c:Nat}{vs:List Value}(hs:St W w L)(hr:∀ w',St W w' L→Rd w' b off vs)(hl:vs.length=n)(hn:0<n)(h1:∀ v∈vs,v.oneCell'=true)(hb:n≤1048576) :
   Calls Tryz.prog 139 #[.slice (some ⟨b,off,none⟩) n c] w λe w'=>∃ ad c',e=.returned (.slice ad n c')∧St W w' (Sl 3 1 ad n c' vs::L):=by
 refine EN Tryz.func139 Tryz.ntmps139 rfl rfl λa ha=>?_
 refine RN 6 ha hs λa ha=>?_
 replace ha:=ha.isF 4
 refine RN 2 ha hs λa ha=>?_
 refine st_buildSlice0 ha rfl hs Tryz.underlying52 Ty.t3 rfl λb5 a w ha hs ho=>?_
 clear ho
 refine RN 1 ha hs λa ha=>?_
 refine st_append ha rfl hs Tryz.underlying52 Ty.t3 rfl rfl (hr _ hs.tail) (by omega) h1 hn (by decide) (by omega) λad7 c7 a w ha hs=>?_
 rw[Nat.zero_add,List.nil_append] at *
 refine RT 1 ha hs ?_
 exact⟨_,_,rfl,hs⟩
theorem snap_pages (hs:St W w (Store q r A::L))(hx:A.pics[i]?=some x) :
   Calls Tryz.prog 69 #[pt q,.int .i64 x.id] w λe w'=>∃ ad c,e=.returned (.slice ad 4 c)∧St W w' (Sl 3 1 ad 4 c (ints .i64 4 (λk=>(x.p k:Int)+1))::Store q r A::L):=by
 obtain⟨b,m,ps,xs,h1,hw,hr,hs⟩:=Store.open hs
 obtain⟨pb,hxs⟩:=own_at h1 hx
 refine EN Tryz.func69 Tryz.ntmps69 rfl rfl λa ha=>?_
 refine CL 5 ha hs (snap_at hs h1 hw hxs) λa w ha hs=>?_
 refine RN 5 ha hs λa ha=>?_
 replace ha:=ha.isF 10
 refine RN 2 ha hs λa ha=>?_
 replace hs:=hs.picOut hxs
 refine CL2 4 ha hs (clone_int (off:=0) (c:=4) hs (λw' h=>h.picRd pb) (ints_len _ _ _) (by decide) ints_one (by decide)) λad c a w ha hs=>?_
 refine RT 1 ha hs ?_
 refine⟨ad,c,rfl,?_⟩
 have h4:=Store.closeAt (A:=A) (B:=A) (q:=q) (r:=r) (last:=A.last) (L':=Sl 3 1 ad 4 c (ints .i64 4 (λk=>(x.p k:Int)+1))::L) (b:=b) (m:=m) (ps:=ps) (pb:=pb) (y:=x) hs hxs h1 rfl (set_same hx) hw hr
 exact h4.perm (List.Perm.swap _ _ _)
theorem snap_room (hs:St W w (Store q r A::L)) :
   Calls Tryz.prog 67 #[pt q] w λe w'=>e=.returned (pt r)∧St W w' (Store q r A::L):=by
 obtain⟨b,m,ps,xs,h1,hw,hr,hs⟩:=Store.open hs
 refine EN Tryz.func67 Tryz.ntmps67 rfl rfl λa ha=>?_
 refine RN 6 ha hs λa ha=>?_
 replace ha:=ha.isF 4
 refine RT 7 ha hs ?_
 exact⟨rfl,Store.close (b:=b) (m:=m) hs h1 hw hr⟩
theorem snap_used (hs:St W w (Store q r A::L)) :
   Calls Tryz.prog 68 #[pt r] w λe w'=>e=.returned (.int .i64 A.used)∧St W w' (Store q r A::L):=by
 obtain⟨b,m,ps,xs,h1,hw,hr,hs⟩:=Store.open hs
 refine (page_used (hs.pick (Room r b ps))).mono λe w' ⟨h2,hs⟩=>?_
 rw[hr.used]at h2
 exact⟨h2,Store.close (b:=b) (m:=m) (ps:=ps) hs h1 hw hr⟩
theorem snap_has {n:Int}(hs:St W w (Store q r A::L)) :
   Calls Tryz.prog 115 #[pt q,.int .i64 n] w λe w'=>e=.returned (.bool (decide (n≤((A.room-A.used:Nat):Int))))∧St W w' (Store q r A::L):=by
 obtain⟨b,m,ps,xs,h1,hw,hr,hs⟩:=Store.open hs
 refine EN Tryz.func115 Tryz.ntmps115 rfl rfl λa ha=>?_
 refine RN 6 ha hs λa ha=>?_
 replace ha:=ha.isT 7
 refine CL 5 ha hs (page_free (hs.pick (Room r b ps))) λa w ha hs=>?_
 refine RT 3 ha hs ?_
 exact⟨by rw[hr.used,hr.len],Store.close (b:=b) (m:=m) (ps:=ps) hs h1 hw hr⟩
theorem snap_live (hs:St W w (Store q r A::L)) :
   Calls Tryz.prog 46 #[pt q] w λe w'=>∃ ad c,e=.returned (.slice ad A.pics.length c)∧St W w' (Sl 43 1 ad A.pics.length c (A.pics.map λx=>.int .i64 x.id)::Store q r A::L):=by
 obtain⟨b,m,ps,xs,h1,hw,hr,hs⟩:=Store.open hs
 have hlen:(kvs xs).length=A.pics.length:=by rw[← h1];simp[kvs]
 have hpw:((kvs xs).map (·.1)).Pairwise (· < ·):=by
   have:(kvs xs).map (·.1)=(A.pics.map (·.id)).map (λn:Nat=>(n:Int)):=by rw[← h1];simp[kvs]
   rw[this,List.pairwise_map]
   exact hw.sorted.imp λh=>by omega
 have hval:((kvs xs).map λp=>Value.int .i64 p.1)=A.pics.map λx=>Value.int .i64 x.id:=by rw[← h1];simp[kvs]
 refine EN Tryz.func46 Tryz.ntmps46 rfl rfl λa ha=>?_
 refine RN 6 ha hs λa ha=>?_
 replace ha:=ha.isF 4
 refine CL1 6 ha hs (maps_keys (m:=m) hs) λb8 a w ha hs=>?_
 refine CL2 0 ha hs (sorted_keys (m:=m) (kvs:=kvs xs) ((hs.pick (mp m (kvs xs))).pick (blk b8 171 [.map (some m)])) hpw (by rw[hlen];have:=hw.many;have:=hw.bound;omega)) λad c a w ha hs=>?_
 rw[hlen,hval] at *
 refine RT 1 ha hs ?_
 refine⟨ad,c,rfl,?_⟩
 have h4:=Store.close (A:=A) (q:=q) (r:=r) (last:=A.last) (xs:=xs) (L':=Sl 43 1 ad A.pics.length c (A.pics.map λx=>.int .i64 x.id)::L) (b:=b) (m:=m) (ps:=ps) hs h1 hw hr
 exact h4.perm (List.Perm.swap _ _ _)
theorem snap_state (hs:St W w (Store q r A::L))(hx:A.pics[i]?=some x) :
   Calls Tryz.prog 65 #[pt q,.int .i64 x.id] w λe w'=>e=.returned (.tuple #[.agg (ints .i32 32 x.g).toArray,.bool true])∧St W w' (Store q r A::L):=by
 refine EN Tryz.func65 Tryz.ntmps65 rfl rfl λa ha=>?_
 refine AL 1 ha hs λb4 a w ha hs=>?_
 change St W w (blk b4 116 (ints .i32 32 (λ_=>0))::_) at hs
 refine AL 2 ha hs λb6 a w ha hs=>?_
 change St W w (blk b6 116 (ints .i32 32 (λj=>if j<0 then x.g j else 0))::_) at hs
 refine RN 2 ha hs λa ha=>?_
 obtain⟨b,m,ps,xs,h1,hw,hr,hs⟩:=Store.open (hs.pick (Store q r A))
 obtain⟨pb,hxs⟩:=own_at h1 hx
 refine CL 2 ha hs (snap_at hs h1 hw hxs) λa w ha hs=>?_
 refine RN 1 ha hs λa ha=>?_
 replace ha:=ha.isF 11
 refine RN 3 ha hs λa ha=>?_
 replace hs:=Store.close (A:=A) (q:=q) (r:=r) (last:=A.last) (xs:=xs) (L':=blk b6 116 (ints .i32 32 (λj=>if j<0 then x.g j else 0))::blk b4 116 (ints .i32 32 (λ_=>0))::L) (b:=b) (m:=m) (ps:=ps) hs h1 hw hr
 refine RN 1 ha hs λa ha=>?_
 refine wp_loop_ghost (λμ a w=>∃ k:Nat,(μ=32-k∧k≤32)∧Fr a 27 [(0,pt q),(1,.int .i64 x.id),(4,pt b4),(6,pt b6),(13,.int .i64 k)]∧St W w (blk b6 116 (ints .i32 32 (λj=>if j<k then x.g j else 0))::Store q r A::blk b4 116 (ints .i32 32 (λ_=>0))::L)) (32) (⟨0,⟨by simp,by simp⟩,ha.keep [0,1,4,6,13],hs.sub⟩) ?_
 clear ha hs
 rintro μ a w ⟨k,⟨rfl,hk⟩,ha,hs⟩
 refine IF 3 ha hs (λhc1 a ha=>?_) λhc1 a ha=>?_
 ·
  refine CL 8 ha hs (snap_get (hs.pick (Store q r A)) hx (by omega)) λa w ha hs=>?_
  refine ST 4 ha hs (λa w ha hs=>?_) (hlt:=(by rw[ints_len];omega))
  rw [ints_set, show (fun i => if i = k then x.g k else if i < k then x.g i else 0) = (fun i => if i < k + 1 then x.g i else 0) from by
      funext i
      by_cases h:i=k
      · subst h;simp
      · rw[if_neg h];by_cases h2:i<k
        · rw[if_pos h2,if_pos (by omega)]
        · rw[if_neg h2,if_neg (by omega)]]at hs
  refine RN 2 ha hs λa ha=>?_
  exact⟨32-(k+1),by omega,k+1,⟨rfl,by omega⟩,ha.keep [0,1,4,6,13],hs.sub⟩
 obtain rfl:k=32:=by omega
 rw[ints_congr (g':=x.g) (λj hj=>if_pos hj)]at hs
 refine SA 2 ha hs λa w ha hs=>?_
 refine RT 1 ha hs ?_
 exact⟨rfl,hs.sub⟩
theorem cnt_none (p:Nat):cnt [] p=0:=rfl
theorem snap_new {n:Nat}(hs:St W w L)(hn:n≤50) :
   Calls Tryz.prog 48 #[.int .i64 n] w λe w'=>∃ q r,e=.returned (pt q)∧St W w' (Store q r ⟨0,4*n,0,[]⟩::L):=by
 refine EN Tryz.func48 Tryz.ntmps48 rfl rfl λa ha=>?_
 refine RN 6 ha hs λa ha=>?_
 rw[show min (max (n:Int) 0) 50=(n:Int) from by omega]at ha
 refine RN 1 ha hs λa ha=>?_
 rw[show (4:Int)*(n:Int)=((4*n:Nat):Int) from by omega]at ha
 refine CL2 0 ha hs (page_new hs (by omega)) λr b a w ha hs=>?_
 refine RN 0 ha hs λa ha=>?_
 refine st_makeMap ha rfl hs rfl λb8 a w ha hs ho=>?_
 clear ho
 refine BX 1 ha hs λb10 a w ha hs=>?_
 refine RT 1 ha hs ?_
 have h7:St W w (All ownP []::blk b10 174 [pt r,.map (some b8),.int .i64 ((0:Nat):Int)]::mp b8 (kvs [])::Room r b (List.replicate (4*n) pg0)::L):=St.allNil hs
 refine⟨b10,r,rfl,Store.close (A:=⟨0,4*n,0,[]⟩) (last:=0) (b:=b) (m:=b8) (xs:=[]) (ps:=List.replicate (4*n) pg0) h7 rfl ⟨by simp only;omega,by simp,Nat.le_refl _,by simp,by simp,by simp⟩ ⟨by simp,λp q hq=>?_,by simp⟩⟩
 obtain⟨_,rfl⟩:=List.getElem?_eq_some_iff.1 hq
 rw[List.getElem_replicate];rfl
theorem state_page {g:Nat→Int}{k:Nat}(hs:St W w L)(hk:k<4) :
   Calls Tryz.prog 117 #[.agg (ints .i32 32 g).toArray,.int .i64 k] w λe w'=>e=.returned (.agg (ints .i32 8 (λj=>g (8*k+j))).toArray)∧St W w' L:=by
 refine EN Tryz.func117 Tryz.ntmps117 rfl rfl λa ha=>?_
 refine BX 1 ha hs λb2 a w ha hs=>?_
 refine AL 0 ha hs λb4 a w ha hs=>?_
 change St W w (blk b4 194 (ints .i32 8 (λ_=>0))::_) at hs
 refine AL 1 ha hs λb5 a w ha hs=>?_
 change St W w (blk b5 194 (ints .i32 8 (λ_=>0))::_) at hs
 refine RN 5 ha hs λa ha=>?_
 rw[decide_eq_true (by omega)]at ha
 refine RN 3 ha hs λa ha=>?_
 rw[decide_eq_true (by omega)]at ha
 refine RN 1 ha hs λa ha=>?_
 have hpart:((ints .i32 32 g).drop (k*8)).take 8=ints .i32 8 (λj=>g (8*k+j)):=by rw[Nat.mul_comm k 8];exact ints_sub g (by omega)
 refine DWO 0 [] [0,1,2,3,1004] ha hs λa w ha hs hH hC=>?_
 refine RH 3 ha hs hH hC λa ha=>?_
 rw[show ((k:Int)*8)=((k*8:Nat):Int) from by omega]at ha
 refine QP ha (λw=>ex_sliceLPA ha Tryz.underlying116 Ty.t21 (by omega)) λa ha=>?_
 rw[Nat.zero_add,Nat.mul_one]at ha
 refine RH 0 ha hs hH hC λa ha=>?_
 refine st_copy ha rfl hs Tryz.underlying265 Ty.t21 rfl (k:=8) (vs:=ints .i32 8 (λj=>g (8*k+j))) (by omega) (by rw[← hpart];exact hs.rdN 8) (ints_len _ _ _) ints_one (by rw[ints_len,ints_len];decide) λa w ha hs=>?_
 rw[show splice (ints .i32 8 (λ_=>0)) 0 (ints .i32 8 (λj=>g (8*k+j)))=ints .i32 8 (λj=>g (8*k+j)) from by simp[splice,ints_len]]at hs
 refine SA 2 ha hs λa w ha hs=>?_
 refine RT 0 ha hs ?_
 exact⟨rfl,hs.sub⟩
structure Made (ps:List Pg)(g:Nat→Int)(t:Nat→Nat)(k:Nat)(ps':List Pg):Prop where
 len:ps'.length=ps.length
 new:∀ j,j<k→∃ q,ps'[t j]?=some q∧q.refs=1∧∀ l,l<8→q.g l=g (8*j+l)
 was:∀ j,j<k→∃ q,ps[t j]?=some q∧q.refs=0
 apart:∀ j l,j<k→l<k→t j=t l→j=l
 old:∀ p,(∀ j,j<k→t j≠p)→ps'[p]?=ps[p]?
 used:usedN ps'=usedN ps+k
theorem Made.zero (ps:List Pg)(g:Nat→Int)(t:Nat→Nat):Made ps g t 0 ps:=⟨rfl,λ_ h=>by omega,λ_ h=>by omega,λ_ _ h=>by omega,λ_ _=>rfl,rfl⟩
theorem Made.free {ps ps':List Pg}{g:Nat→Int}{t:Nat→Nat}{k:Nat}(h:Made ps g t k ps')(hu:usedN ps+k<ps.length):∃ f,freeI ps' f:=by
 rcases free_cases ps' with hno | hf
 · have:=used_full hno
   rw[h.used,h.len]at this;omega
 · exact hf
theorem Made.step {ps ps':List Pg}{g:Nat→Int}{t:Nat→Nat}{k f:Nat}(h:Made ps g t k ps')(hf:freeI ps' f){g1:Nat→Int}(hg:∀ l,l<8→g1 l=g (8*k+l)) :
   Made ps g (λj=>if j=k then f else t j) (k+1) (ps'.set f ⟨g1,1⟩):=by
 obtain⟨hf1,hf2,_⟩:=hf
 have hne:∀ j,j<k→t j≠f:=λj hj e=>by
   obtain⟨q,h1,h2,_⟩:=h.new j hj
   rw[e,List.getElem?_eq_getElem hf1]at h1
   cases h1;omega
 have hpf:ps[f]?=some ps'[f]:=by rw[← h.old f hne,List.getElem?_eq_getElem hf1]
 refine⟨by rw[List.length_set];exact h.len,λj hj=>?_,λj hj=>?_,λj l hj hl e=>?_,λp hp=>?_,?_⟩
 · by_cases hjk:j=k
   · subst hjk
     exact⟨⟨g1,1⟩,by simp[hf1],rfl,hg⟩
   · obtain⟨q,h1,h2,h3⟩:=h.new j (by omega)
     exact⟨q,by simp only[if_neg hjk];rw[List.getElem?_set_ne (Ne.symm (hne j (by omega)))];exact h1,h2,h3⟩
 · by_cases hjk:j=k
   · subst hjk
     exact⟨_,by simp only[if_true];exact hpf,hf2⟩
   · simp only[if_neg hjk];exact h.was j (by omega)
 · by_cases h1:j=k <;> by_cases h2:l=k
   · omega
   · rw[if_pos h1,if_neg h2]at e;exact absurd e.symm (hne l (by omega))
   · rw[if_neg h1,if_pos h2]at e;exact absurd e (hne j (by omega))
   · rw[if_neg h1,if_neg h2]at e;exact h.apart j l (by omega) (by omega) e
 · have h1:=hp k (by omega)
   simp only[if_true]at h1
   rw[List.getElem?_set_ne h1]
   refine h.old p λj hj e=>?_
   have:=hp j (by omega)
   rw[if_neg (by omega)]at this
   exact this e
 · have:=List.countP_set (p:=λp:Pg=>decide (0<p.refs)) (a:=⟨g1,1⟩) hf1
   have hu:=h.used
   simp only[usedN]at hu ⊢
   rw[this,hu]
   simp[hf2,Nat.add_assoc]
theorem Made.rel {ps ps':List Pg}{g:Nat→Int}{t:Nat→Nat}(h:Made ps g t 4 ps')(hr:Rel A ps):Rel (A.add g t) ps':=by
 have hz:∀ j,j<4→cnt A.pics (t j)=0:=λj hj=>by
   obtain⟨q,h1,h2⟩:=h.was j hj
   rw[← hr.refs _ _ h1];exact h2
 refine⟨h.len.trans hr.len,λp q hq=>?_,λy hy k hk=>?_⟩
 · simp only[Sn.add,cnt_app,cnt_cons,cnt_nil,Nat.add_zero]
   by_cases hp:∃ j,j<4∧t j=p
   · obtain⟨j,hj,rfl⟩:=hp
     obtain⟨q',h1,h2,_⟩:=h.new j hj
     rw[h1]at hq;cases hq
     rw[hz j hj,h2,cntP_eq]
     have ha:=λl (hl:l<4) (e:t l=t j)=>h.apart l j hl hj e
     simp only
     rcases (by omega:j=0∨j=1∨j=2∨j=3) with rfl | rfl | rfl | rfl
     · rw[if_pos rfl,if_neg (λe=>by have:=ha 1 (by omega) e;omega),if_neg (λe=>by have:=ha 2 (by omega) e;omega),if_neg (λe=>by have:=ha 3 (by omega) e;omega)]
     · rw[if_pos rfl,if_neg (λe=>by have:=ha 0 (by omega) e;omega),if_neg (λe=>by have:=ha 2 (by omega) e;omega),if_neg (λe=>by have:=ha 3 (by omega) e;omega)]
     · rw[if_pos rfl,if_neg (λe=>by have:=ha 0 (by omega) e;omega),if_neg (λe=>by have:=ha 1 (by omega) e;omega),if_neg (λe=>by have:=ha 3 (by omega) e;omega)]
     · rw[if_pos rfl,if_neg (λe=>by have:=ha 0 (by omega) e;omega),if_neg (λe=>by have:=ha 1 (by omega) e;omega),if_neg (λe=>by have:=ha 2 (by omega) e;omega)]
   · have hn:∀ j,j<4→t j≠p:=λj hj e=>hp ⟨j,hj,e⟩
     rw[h.old p hn]at hq
     rw[hr.refs p q hq,cntP_zero (x:=⟨A.last+1,1,g,t⟩) hn]
     rfl
 · simp only[Sn.add]at hy
   rcases List.mem_append.1 hy with hy | hy
   · obtain⟨q,h1,h2⟩:=hr.page y hy k hk
     refine⟨q,?_,h2⟩
     rw[h.old _ λj hj e=>?_]
     · exact h1
     · have h3:=hz j hj
       have h4:=cnt_mem hy (t j)
       rw[e]at h3 h4
       have:=cntP_pos (x:=y) hk
       omega
   · simp at hy;subst hy
     obtain⟨q,h1,h2,h3⟩:=h.new k hk
     exact⟨q,h1,h3⟩
abbrev pcs (P:Nat→Int):List Value:=ints .i64 4 P++[.int .i64 0]
theorem pcs_len (P:Nat→Int):(pcs P).length=5:=by simp[pcs,ints_len]
theorem pcs_at {P:Nat→Int}{k:Nat}(h:k<4):(pcs P)[k]?=some (.int .i64 (P k)):=by
 rw[pcs,List.getElem?_append_left (by rw[ints_len];exact h),ints_get _ h]
theorem pcs_set {P:Nat→Int}{k:Nat}(v:Int)(h:k<4):(pcs P).set k (.int .i64 v)=pcs (λj=>if j=k then v else P j):=by
 rw[pcs,List.set_append_left _ _ (by rw[ints_len];exact h),ints_set,pcs]
def tP (t:Nat→Nat)(k:Nat):Nat→Int:=λj=>if j<k then (t j:Int)+1 else 0
theorem tP_set (t:Nat→Nat)(k f:Nat):(λj=>if j=k then ((f:Int)+1) else tP t k j)=tP (λj=>if j=k then f else t j) (k+1):=by
 funext j
 simp only[tP]
 by_cases h:j=k
 · subst h;simp
 · rw[if_neg h,if_neg h]
   by_cases h2:j<k
   · rw[if_pos h2,if_pos (by omega)]
   · rw[if_neg h2,if_neg (by omega)]
def gP (g:Nat→Int)(k j:Nat):Nat→Int:=λl=>if l<j then g (8*k+l) else 0
theorem gP_zero (g:Nat→Int)(k:Nat):gP g k 0=λ_=>0:=by funext l;simp[gP]
theorem gP_set (g:Nat→Int)(k j:Nat):(λl=>if l=j then g (8*k+j) else gP g k j l)=gP g k (j+1):=by
 funext l
 simp only[gP]
 by_cases h:l=j
 · subst h;simp
 · rw[if_neg h]
   by_cases h2:l<j
   · rw[if_pos h2,if_pos (by omega)]
   · rw[if_neg h2,if_neg (by omega)]
theorem snap_make {g:Nat→Int}(hs:St W w (Store q r A::L))(hu:A.used+4≤A.room)(hb:A.n+1<1099511627776) :
   Calls Tryz.prog 52 #[pt q,.agg (ints .i32 32 g).toArray] w λe w'=>∃ t:Nat→Nat,e=.returned (.tuple #[.int .i64 ((A.last+1:Nat):Int),.bool true]) ∧
     ((∀ j,j<4→t j<A.room∧cnt A.pics (t j)=0)∧∀ j l,j<4→l<4→t j=t l→j=l)∧St W w' (Store q r (A.add g t)::L):=by
 refine EN Tryz.func52 Tryz.ntmps52 rfl rfl λa ha=>?_
 refine BX 1 ha hs λb3 a w ha hs=>?_
 refine CL 5 ha hs (snap_has (hs.pick (Store q r A))) λa w ha hs=>?_
 rw[decide_eq_true (by omega)]at ha
 refine RN 1 ha hs λa ha=>?_
 replace ha:=ha.isF 12
 refine RN 2 ha hs λa ha=>?_
 obtain⟨b,m,ps,xs,h1,hw,hr,hs⟩:=Store.open hs
 have hun:=hr.used
 have hrl:=hr.len
 refine AL 0 ha hs λb6 a w ha hs=>?_
 change St W w (blk b6 191 (pcs (tP (λ_=>0) 0))::_) at hs
 refine RN 3 ha hs λa ha=>?_
 refine wp_loop_ghost (λμ a w=>∃ (k:Nat) (t:Nat→Nat) (ps':List Pg),(μ=4-k∧k≤4∧Made ps g t k ps')∧Fr a 50 [(0,pt q),(3,pt b3),(6,pt b6),(13,.int .i64 k)]∧St W w (Room r b ps'::blk b6 191 (pcs (tP t k))::blk b3 116 (ints .i32 32 g)::blk q 174 [pt r,.map (some m),.int .i64 A.last]::mp m (kvs xs)::All ownP xs::L)) (4) (⟨0,λ_=>0,ps,⟨by simp,by simp,Made.zero _ _ _⟩,ha.keep [0,3,6,13],hs.sub⟩) ?_
 clear ha hs
 rintro μ a w ⟨k,t,ps',⟨rfl,hk,hm⟩,ha,hs⟩
 refine IF 3 ha hs (λhc1 a ha=>?_) λhc1 a ha=>?_
 ·
  refine RN 5 ha hs λa ha=>?_
  have hmu:=hm.used
  obtain⟨f,hf⟩:=hm.free (by omega)
  have hst:=λ(g1:Nat→Int) h=>hm.step (g1:=g1) hf h
  have hf1:=hf.1
  refine CL 5 ha hs (page_take_some (hs.pick (Room r b ps')) hf) λa w ha hs=>?_
  refine ST 5 ha hs (λa w ha hs=>?_) (hlt:=(by rw[pcs_len];omega))
  rw[pcs_set _ (by omega),tP_set]at hs
  refine CL 3 ha hs (state_page hs (by omega)) λa w ha hs=>?_
  refine RN 1 ha hs λa ha=>?_
  refine wp_loop_ghost (λμ a w=>∃ j:Nat,(μ=8-j∧j≤8)∧Fr a 50 [(0,pt q),(3,pt b3),(6,pt b6),(7,.int .i64 k),(13,.int .i64 k),(29,.agg (ints .i32 8 (λj=>g (8*k+j))).toArray),(30,.int .i64 j)]∧St W w (Room r b (ps'.set f ⟨gP g k j,1⟩)::blk b6 191 (pcs (tP (λj=>if j=k then f else t j) (k+1)))::blk b3 116 (ints .i32 32 g)::blk q 174 [pt r,.map (some m),.int .i64 A.last]::mp m (kvs xs)::All ownP xs::L)) (8) (⟨0,⟨by simp,by simp⟩,ha.keep [0,3,6,7,13,29,30],by rw[gP_zero];rw[show pg1=(⟨λ_=>0,1⟩:Pg) from rfl]at hs;exact hs.sub⟩) ?_
  clear ha hs
  rintro μ a w ⟨j,⟨rfl,hj⟩,ha,hs⟩
  refine IF 3 ha hs (λhc2 a ha=>?_) λhc2 a ha=>?_
  ·
   refine RN 3 ha hs λa ha=>?_
   refine SS ha (ex_index1 ha Tryz.underlying194 Tryz.underlying21 rfl Ty.t21 (by omega) (ints_get _ (by omega))) λa ha=>?_
   refine DWO 2 [7] [0,1,2,4,5,6,8,9,3003,1007,1010] ha hs λa w ha hs hH hC=>?_
   refine RH 9 ha hs hH hC λa ha=>?_
   refine SS ha (ld1 ha (hs.rd1 (pcs_at (by omega)))) λa ha=>?_
   rw[show tP (λj=>if j=k then f else t j) (k+1) k=(f:Int)+1 from by simp[tP]]at ha
   have hfl:f<(ps'.set f ⟨gP g k j,1⟩).length:=by rw[List.length_set];exact hf1
   have hfe:(ps'.set f ⟨gP g k j,1⟩)[f]=⟨gP g k j,1⟩:=by rw[List.getElem_set_self]
   refine RH 0 ha hs hH hC λa ha=>?_
   refine CL 0 ha hs (page_set (hs.pick (Room r b (ps'.set f ⟨gP g k j,1⟩))) hfl (by rw[hfe]) (show j<8 by omega)) λa w ha hs=>?_
   rw[hfe,List.set_set,gP_set]at hs
   refine RN 2 ha hs λa ha=>?_
   exact⟨8-(j+1),by omega,j+1,⟨rfl,by omega⟩,ha.keep [0,3,6,7,13,29,30],hs.sub⟩
  obtain rfl:j=8:=by omega
  have hst8:=hst (gP g k 8) (λl hl=>by simp[gP,hl])
  refine RN 2 ha hs λa ha=>?_
  exact⟨4-(k+1),by omega,k+1,_,_,⟨rfl,by omega,hst8⟩,ha.keep [0,3,6,13],hs.sub⟩
 obtain rfl:k=4:=by omega
 have hcs:pcs (tP t 4)=Pic.cells ⟨A.last+1,0,g,t⟩:=by
   rw[pcs,Pic.cells]
   rw[ints_congr (g:=tP t 4) (g':=λk=>(t k:Int)+1) (λj hj=>if_pos hj)]
   rfl
 rw[hcs]at hs
 have hwA:=hw.add hb g t
 have hrA:=hm.rel hr
 refine CL1 3 ha hs (snap_add (x:=⟨A.last+1,0,g,t⟩) (q:=q) (r:=r) (m:=m) (last:=A.last) (xs:=xs) (L:=Room r b ps'::All ownP xs::L) hs.sub (by have:=hw.bound;have:=hw.last;omega) (kvs_new h1 hw)) λpb a w ha hs=>?_
 refine RT 2 ha hs ?_
 refine⟨t,rfl,⟨λj hj=>?_,λj l hj hl e=>hm.apart j l hj hl e⟩,?_⟩
 · obtain⟨q',h5,h6⟩:=hm.was j hj
   have h7:=(List.getElem?_eq_some_iff.1 h5).1
   exact⟨by omega,by rw[← hr.refs _ _ h5];exact h6⟩
 · have h6:=St.allPush (f:=ownP) (l:=xs) (x:=(⟨A.last+1,1,g,t⟩,pb)) (hs.sub (M:=blk pb 191 (Pic.cells ⟨A.last+1,1,g,t⟩)::All ownP xs::blk q 174 [pt r,.map (some m),.int .i64 ((A.last+1:Nat):Int)]::mp m (kvs xs++[(((A.last+1:Nat):Int),pt pb)])::Room r b ps'::L))
   rw[show kvs xs++[(((A.last+1:Nat):Int),Value.pointer (some ⟨pb,0,none⟩))]=kvs (xs++[(⟨A.last+1,1,g,t⟩,pb)]) from by simp[kvs]]at h6
   exact Store.close (last:=A.last+1) (b:=b) (m:=m) (xs:=xs++[(⟨A.last+1,1,g,t⟩,pb)]) h6 (by simp[Sn.add,h1]) hwA hrA
end
end
end Go.Proofs.YtdilfdkendjjhaaGreat
