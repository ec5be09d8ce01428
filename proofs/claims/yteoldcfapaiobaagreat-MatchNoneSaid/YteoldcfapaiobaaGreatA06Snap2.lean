/- The walks of package snap, further. -/
import Derived.Test.YteoldcfapaiobaaGreatA05SnapP
import Derived.Test.YteoldcfapaiobaaGreatA04Ty
namespace Go.Proofs.YteoldcfapaiobaaGreat
open Go.RowKit
set_option linter.unusedVariables false
set_option linter.unusedSimpArgs false
set_option maxRecDepth 10000
set_option synthInstance.maxSize 4000
set_option synthInstance.maxHeartbeats 400000
section
section
variable {W w:World}{L L':List SP}{q r b m i pb:Nat}{A:Sn}{ps:List Pg}{xs:List (Pic×Nat)}{x y:Pic}
theorem clone_int {off n c:Nat}{vs:List Value}(hs:St W w L)(hr:∀ w',St W w' L→Rd w' b off vs)(hl:vs.length=n)(hn:0<n)(h1:∀ v∈vs,v.oneCell'=true)(hb:n≤1048576) :
   Calls Tryz.prog 121 #[.slice (some ⟨b,off,none⟩) n c] w λe w'=>∃ ad c',e=.returned (.slice ad n c')∧St W w' (Sl 3 1 ad n c' vs::L):=by
 refine EN Tryz.func121 Tryz.ntmps121 rfl rfl λa ha=>?_
 refine RN 6 ha hs λa ha=>?_
 replace ha:=ha.isF 4
 refine RN 2 ha hs λa ha=>?_
 refine st_buildSlice0 ha rfl hs Tryz.underlying53 Ty.t3 rfl λb5 a w ha hs ho=>?_
 clear ho
 refine RN 1 ha hs λa ha=>?_
 refine st_append ha rfl hs Tryz.underlying53 Ty.t3 rfl rfl (hr _ hs.tail) (by omega) h1 hn (by decide) (by omega) λad7 c7 a w ha hs=>?_
 rw[Nat.zero_add,List.nil_append] at *
 refine RT 1 ha hs ?_
 exact⟨_,_,rfl,hs⟩
theorem snap_pages (hs:St W w (Store q r A::L))(hx:A.pics[i]?=some x) :
   Calls Tryz.prog 85 #[pt q,.int .i64 x.id] w λe w'=>∃ ad c,e=.returned (.slice ad 4 c)∧St W w' (Sl 3 1 ad 4 c (ints .i64 4 (λk=>(x.p k:Int)+1))::Store q r A::L):=by
 obtain⟨b,m,ps,xs,h1,hw,hr,hs⟩:=Store.open hs
 obtain⟨pb,hxs⟩:=own_at h1 hx
 refine EN Tryz.func85 Tryz.ntmps85 rfl rfl λa ha=>?_
 refine CL 5 ha hs (snap_at hs h1 hw hxs) λa w ha hs=>?_
 refine RN 5 ha hs λa ha=>?_
 replace ha:=ha.isF 10
 refine RN 2 ha hs λa ha=>?_
 replace hs:=hs.picOut hxs
 refine CL2 4 ha hs (clone_int (off:=0) (c:=4) hs (λw' h=>h.picRd pb) (ints_len _ _ _) (by decide) ints_one (by decide)) λad c a w ha hs=>?_
 refine RT 1 ha hs ?_
 refine⟨ad,c,rfl,?_⟩
 have h4:=Store.closeAt (A:=A) (B:=A) (q:=q) (r:=r) (last:=A.last) (L':=Sl 3 1 ad 4 c (ints .i64 4 (λk=>(x.p k:Int)+1))::L) (b:=b) (m:=m) (ps:=ps) (pb:=pb) (y:=x) hs hxs h1 rfl (set_same hx) hw hr
 exact h4.perm (List.Perm.swap _ _ _)
theorem snap_has {n:Int}(hs:St W w (Store q r A::L)) :
   Calls Tryz.prog 125 #[pt q,.int .i64 n] w λe w'=>e=.returned (.bool (decide (n≤((A.room-A.used:Nat):Int))))∧St W w' (Store q r A::L):=by
 obtain⟨b,m,ps,xs,h1,hw,hr,hs⟩:=Store.open hs
 refine EN Tryz.func125 Tryz.ntmps125 rfl rfl λa ha=>?_
 refine RN 6 ha hs λa ha=>?_
 replace ha:=ha.isT 7
 refine CL 5 ha hs (page_free (hs.pick (Room r b ps))) λa w ha hs=>?_
 refine RT 3 ha hs ?_
 exact⟨by rw[hr.used,hr.len],Store.close (b:=b) (m:=m) (ps:=ps) hs h1 hw hr⟩
theorem snap_state (hs:St W w (Store q r A::L))(hx:A.pics[i]?=some x) :
   Calls Tryz.prog 290 #[pt q,.int .i64 x.id] w λe w'=>e=.returned (.tuple #[.agg (ints .i32 32 x.g).toArray,.bool true])∧St W w' (Store q r A::L):=by
 refine EN Tryz.func290 Tryz.ntmps290 rfl rfl λa ha=>?_
 refine AL 1 ha hs λb4 a w ha hs=>?_
 change St W w (blk b4 183 (ints .i32 32 (λ_=>0))::_) at hs
 refine AL 2 ha hs λb6 a w ha hs=>?_
 change St W w (blk b6 183 (ints .i32 32 (λj=>if j<0 then x.g j else 0))::_) at hs
 refine RN 2 ha hs λa ha=>?_
 obtain⟨b,m,ps,xs,h1,hw,hr,hs⟩:=Store.open (hs.pick (Store q r A))
 obtain⟨pb,hxs⟩:=own_at h1 hx
 refine CL 2 ha hs (snap_at hs h1 hw hxs) λa w ha hs=>?_
 refine RN 1 ha hs λa ha=>?_
 replace ha:=ha.isF 11
 refine RN 3 ha hs λa ha=>?_
 replace hs:=Store.close (A:=A) (q:=q) (r:=r) (last:=A.last) (xs:=xs) (L':=blk b6 183 (ints .i32 32 (λj=>if j<0 then x.g j else 0))::blk b4 183 (ints .i32 32 (λ_=>0))::L) (b:=b) (m:=m) (ps:=ps) hs h1 hw hr
 refine RN 1 ha hs λa ha=>?_
 refine wp_loop_ghost (λμ a w=>∃ k:Nat,(μ=32-k∧k≤32)∧Fr a 27 [(0,pt q),(1,.int .i64 x.id),(4,pt b4),(6,pt b6),(13,.int .i64 k)]∧St W w (blk b6 183 (ints .i32 32 (λj=>if j<k then x.g j else 0))::Store q r A::blk b4 183 (ints .i32 32 (λ_=>0))::L)) (32) (⟨0,⟨by simp,by simp⟩,ha.keep [0,1,4,6,13],hs.sub⟩) ?_
 clear ha hs
 rintro μ a w ⟨k,⟨rfl,hk⟩,ha,hs⟩
 refine IF 3 ha hs (λhc1 a ha=>?_) λhc1 a ha=>?_
 ·
  refine CL 8 ha hs (snap_get (hs.pick (Store q r A)) hx (by omega)) λa w ha hs=>?_
  refine ST 4 ha hs (λa w ha hs=>?_) (hlt:=(by rw[ints_len];omega))
  rw [ints_set, show (fun i => if i = k then x.g k else if i < k then x.g i else 0) = (fun i => if i < k + 1 then x.g i else 0) from by
      funext i
      by_cases h:i=k
      · subst h;simp
      · rw[if_neg h];by_cases h2:i<k
        · rw[if_pos h2,if_pos (by omega)]
        · rw[if_neg h2,if_neg (by omega)]]at hs
  refine RN 2 ha hs λa ha=>?_
  exact⟨32-(k+1),by omega,k+1,⟨rfl,by omega⟩,ha.keep [0,1,4,6,13],hs.sub⟩
 obtain rfl:k=32:=by omega
 rw[ints_congr (g':=x.g) (λj hj=>if_pos hj)]at hs
 refine SA 2 ha hs λa w ha hs=>?_
 refine RT 1 ha hs ?_
 exact⟨rfl,hs.sub⟩
theorem cnt_none (p:Nat):cnt [] p=0:=rfl
theorem snap_new {n:Nat}(hs:St W w L)(hn:n≤50) :
   Calls Tryz.prog 89 #[.int .i64 n] w λe w'=>∃ q r,e=.returned (pt q)∧St W w' (Store q r ⟨0,4*n,0,[]⟩::L):=by
 refine EN Tryz.func89 Tryz.ntmps89 rfl rfl λa ha=>?_
 refine RN 6 ha hs λa ha=>?_
 rw[show min (max (n:Int) 0) 50=(n:Int) from by omega]at ha
 refine RN 1 ha hs λa ha=>?_
 rw[show (4:Int)*(n:Int)=((4*n:Nat):Int) from by omega]at ha
 refine CL2 0 ha hs (page_new hs (by omega)) λr b a w ha hs=>?_
 refine RN 0 ha hs λa ha=>?_
 refine st_makeMap ha rfl hs rfl λb8 a w ha hs ho=>?_
 clear ho
 refine BX 1 ha hs λb10 a w ha hs=>?_
 refine RT 1 ha hs ?_
 have h7:St W w (All ownP []::blk b10 221 [pt r,.map (some b8),.int .i64 ((0:Nat):Int)]::mp b8 (kvs [])::Room r b (List.replicate (4*n) pg0)::L):=St.allNil hs
 refine⟨b10,r,rfl,Store.close (A:=⟨0,4*n,0,[]⟩) (last:=0) (b:=b) (m:=b8) (xs:=[]) (ps:=List.replicate (4*n) pg0) h7 rfl ⟨by simp only;omega,by simp,Nat.le_refl _,by simp,by simp,by simp⟩ ⟨by simp,λp q hq=>?_,by simp⟩⟩
 obtain⟨_,rfl⟩:=List.getElem?_eq_some_iff.1 hq
 rw[List.getElem_replicate];rfl
theorem state_page {g:Nat→Int}{k:Nat}(hs:St W w L)(hk:k<4) :
   Calls Tryz.prog 127 #[.agg (ints .i32 32 g).toArray,.int .i64 k] w λe w'=>e=.returned (.agg (ints .i32 8 (λj=>g (8*k+j))).toArray)∧St W w' L:=by
 refine EN Tryz.func127 Tryz.ntmps127 rfl rfl λa ha=>?_
 refine BX 1 ha hs λb2 a w ha hs=>?_
 refine AL 0 ha hs λb4 a w ha hs=>?_
 change St W w (blk b4 225 (ints .i32 8 (λ_=>0))::_) at hs
 refine AL 1 ha hs λb5 a w ha hs=>?_
 change St W w (blk b5 225 (ints .i32 8 (λ_=>0))::_) at hs
 refine RN 5 ha hs λa ha=>?_
 rw[decide_eq_true (by omega)]at ha
 refine RN 3 ha hs λa ha=>?_
 rw[decide_eq_true (by omega)]at ha
 refine RN 1 ha hs λa ha=>?_
 have hpart:((ints .i32 32 g).drop (k*8)).take 8=ints .i32 8 (λj=>g (8*k+j)):=by rw[Nat.mul_comm k 8];exact ints_sub g (by omega)
 refine DWO 0 [] [0,1,2,3,1004] ha hs λa w ha hs hH hC=>?_
 refine RH 3 ha hs hH hC λa ha=>?_
 rw[show ((k:Int)*8)=((k*8:Nat):Int) from by omega]at ha
 refine QP ha (λw=>ex_sliceLPA ha Tryz.underlying183 Ty.t21 (by omega)) λa ha=>?_
 rw[Nat.zero_add,Nat.mul_one]at ha
 refine RH 0 ha hs hH hC λa ha=>?_
 refine st_copy ha rfl hs Tryz.underlying270 Ty.t21 rfl (k:=8) (vs:=ints .i32 8 (λj=>g (8*k+j))) (by omega) (by rw[← hpart];exact hs.rdN 8) (ints_len _ _ _) ints_one (by rw[ints_len,ints_len];decide) λa w ha hs=>?_
 rw[show splice (ints .i32 8 (λ_=>0)) 0 (ints .i32 8 (λj=>g (8*k+j)))=ints .i32 8 (λj=>g (8*k+j)) from by simp[splice,ints_len]]at hs
 refine SA 2 ha hs λa w ha hs=>?_
 refine RT 0 ha hs ?_
 exact⟨rfl,hs.sub⟩
structure Made (ps:List Pg)(g:Nat→Int)(t:Nat→Nat)(k:Nat)(ps':List Pg):Prop where
 len:ps'.length=ps.length
 new:∀ j,j<k→∃ q,ps'[t j]?=some q∧q.refs=1∧∀ l,l<8→q.g l=g (8*j+l)
 was:∀ j,j<k→∃ q,ps[t j]?=some q∧q.refs=0
 apart:∀ j l,j<k→l<k→t j=t l→j=l
 old:∀ p,(∀ j,j<k→t j≠p)→ps'[p]?=ps[p]?
 used:usedN ps'=usedN ps+k
theorem Made.zero (ps:List Pg)(g:Nat→Int)(t:Nat→Nat):Made ps g t 0 ps:=⟨rfl,λ_ h=>by omega,λ_ h=>by omega,λ_ _ h=>by omega,λ_ _=>rfl,rfl⟩
theorem Made.free {ps ps':List Pg}{g:Nat→Int}{t:Nat→Nat}{k:Nat}(h:Made ps g t k ps')(hu:usedN ps+k<ps.length):∃ f,freeI ps' f:=by
 rcases free_cases ps' with hno | hf
 · have:=used_full hno
   rw[h.used,h.len]at this;omega
 · exact hf
theorem Made.step {ps ps':List Pg}{g:Nat→Int}{t:Nat→Nat}{k f:Nat}(h:Made ps g t k ps')(hf:freeI ps' f){g1:Nat→Int}(hg:∀ l,l<8→g1 l=g (8*k+l)) :
   Made ps g (λj=>if j=k then f else t j) (k+1) (ps'.set f ⟨g1,1⟩):=by
 obtain⟨hf1,hf2,_⟩:=hf
 have hne:∀ j,j<k→t j≠f:=λj hj e=>by
   obtain⟨q,h1,h2,_⟩:=h.new j hj
   rw[e,List.getElem?_eq_getElem hf1]at h1
   cases h1;omega
 have hpf:ps[f]?=some ps'[f]:=by rw[← h.old f hne,List.getElem?_eq_getElem hf1]
 refine⟨by rw[List.length_set];exact h.len,λj hj=>?_,λj hj=>?_,λj l hj hl e=>?_,λp hp=>?_,?_⟩
 · by_cases hjk:j=k
   · subst hjk
     exact⟨⟨g1,1⟩,by simp[hf1],rfl,hg⟩
   · obtain⟨q,h1,h2,h3⟩:=h.new j (by omega)
     exact⟨q,by simp only[if_neg hjk];rw[List.getElem?_set_ne (Ne.symm (hne j (by omega)))];exact h1,h2,h3⟩
 · by_cases hjk:j=k
   · subst hjk
     exact⟨_,by simp only[if_true];exact hpf,hf2⟩
   · simp only[if_neg hjk];exact h.was j (by omega)
 · by_cases h1:j=k <;> by_cases h2:l=k
   · omega
   · rw[if_pos h1,if_neg h2]at e;exact absurd e.symm (hne l (by omega))
   · rw[if_neg h1,if_pos h2]at e;exact absurd e (hne j (by omega))
   · rw[if_neg h1,if_neg h2]at e;exact h.apart j l (by omega) (by omega) e
 · have h1:=hp k (by omega)
   simp only[if_true]at h1
   rw[List.getElem?_set_ne h1]
   refine h.old p λj hj e=>?_
   have:=hp j (by omega)
   rw[if_neg (by omega)]at this
   exact this e
 · have:=List.countP_set (p:=λp:Pg=>decide (0<p.refs)) (a:=⟨g1,1⟩) hf1
   have hu:=h.used
   simp only[usedN]at hu ⊢
   rw[this,hu]
   simp[hf2,Nat.add_assoc]
theorem Made.rel {ps ps':List Pg}{g:Nat→Int}{t:Nat→Nat}(h:Made ps g t 4 ps')(hr:Rel A ps):Rel (A.add g t) ps':=by
 have hz:∀ j,j<4→cnt A.pics (t j)=0:=λj hj=>by
   obtain⟨q,h1,h2⟩:=h.was j hj
   rw[← hr.refs _ _ h1];exact h2
 refine⟨h.len.trans hr.len,λp q hq=>?_,λy hy k hk=>?_⟩
 · simp only[Sn.add,cnt_app,cnt_cons,cnt_nil,Nat.add_zero]
   by_cases hp:∃ j,j<4∧t j=p
   · obtain⟨j,hj,rfl⟩:=hp
     obtain⟨q',h1,h2,_⟩:=h.new j hj
     rw[h1]at hq;cases hq
     rw[hz j hj,h2,cntP_eq]
     have ha:=λl (hl:l<4) (e:t l=t j)=>h.apart l j hl hj e
     simp only
     rcases (by omega:j=0∨j=1∨j=2∨j=3) with rfl | rfl | rfl | rfl
     · rw[if_pos rfl,if_neg (λe=>by have:=ha 1 (by omega) e;omega),if_neg (λe=>by have:=ha 2 (by omega) e;omega),if_neg (λe=>by have:=ha 3 (by omega) e;omega)]
     · rw[if_pos rfl,if_neg (λe=>by have:=ha 0 (by omega) e;omega),if_neg (λe=>by have:=ha 2 (by omega) e;omega),if_neg (λe=>by have:=ha 3 (by omega) e;omega)]
     · rw[if_pos rfl,if_neg (λe=>by have:=ha 0 (by omega) e;omega),if_neg (λe=>by have:=ha 1 (by omega) e;omega),if_neg (λe=>by have:=ha 3 (by omega) e;omega)]
     · rw[if_pos rfl,if_neg (λe=>by have:=ha 0 (by omega) e;omega),if_neg (λe=>by have:=ha 1 (by omega) e;omega),if_neg (λe=>by have:=ha 2 (by omega) e;omega)]
   · have hn:∀ j,j<4→t j≠p:=λj hj e=>hp ⟨j,hj,e⟩
     rw[h.old p hn]at hq
     rw[hr.refs p q hq,cntP_zero (x:=⟨A.last+1,1,g,t⟩) hn]
     rfl
 · simp only[Sn.add]at hy
   rcases List.mem_append.1 hy with hy | hy
   · obtain⟨q,h1,h2⟩:=hr.page y hy k hk
     refine⟨q,?_,h2⟩
     rw[h.old _ λj hj e=>?_]
     · exact h1
     · have h3:=hz j hj
       have h4:=cnt_mem hy (t j)
       rw[e]at h3 h4
       have:=cntP_pos (x:=y) hk
       omega
   · simp at hy;subst hy
     obtain⟨q,h1,h2,h3⟩:=h.new k hk
     exact⟨q,h1,h3⟩
abbrev pcs (P:Nat→Int):List Value:=ints .i64 4 P++[.int .i64 0]
theorem pcs_len (P:Nat→Int):(pcs P).length=5:=by simp[pcs,ints_len]
theorem pcs_at {P:Nat→Int}{k:Nat}(h:k<4):(pcs P)[k]?=some (.int .i64 (P k)):=by
 rw[pcs,List.getElem?_append_left (by rw[ints_len];exact h),ints_get _ h]
theorem pcs_set {P:Nat→Int}{k:Nat}(v:Int)(h:k<4):(pcs P).set k (.int .i64 v)=pcs (λj=>if j=k then v else P j):=by
 rw[pcs,List.set_append_left _ _ (by rw[ints_len];exact h),ints_set,pcs]
def tP (t:Nat→Nat)(k:Nat):Nat→Int:=λj=>if j<k then (t j:Int)+1 else 0
theorem tP_set (t:Nat→Nat)(k f:Nat):(λj=>if j=k then ((f:Int)+1) else tP t k j)=tP (λj=>if j=k then f else t j) (k+1):=by
 funext j
 simp only[tP]
 by_cases h:j=k
 · subst h;simp
 · rw[if_neg h,if_neg h]
   by_cases h2:j<k
   · rw[if_pos h2,if_pos (by omega)]
   · rw[if_neg h2,if_neg (by omega)]
def gP (g:Nat→Int)(k j:Nat):Nat→Int:=λl=>if l<j then g (8*k+l) else 0
theorem gP_zero (g:Nat→Int)(k:Nat):gP g k 0=λ_=>0:=by funext l;simp[gP]
theorem gP_set (g:Nat→Int)(k j:Nat):(λl=>if l=j then g (8*k+j) else gP g k j l)=gP g k (j+1):=by
 funext l
 simp only[gP]
 by_cases h:l=j
 · subst h;simp
 · rw[if_neg h]
   by_cases h2:l<j
   · rw[if_pos h2,if_pos (by omega)]
   · rw[if_neg h2,if_neg (by omega)]
theorem snap_make {g:Nat→Int}(hs:St W w (Store q r A::L))(hu:A.used+4≤A.room)(hb:A.n+1<1099511627776) :
   Calls Tryz.prog 93 #[pt q,.agg (ints .i32 32 g).toArray] w λe w'=>∃ t:Nat→Nat,e=.returned (.tuple #[.int .i64 ((A.last+1:Nat):Int),.bool true]) ∧
     ((∀ j,j<4→t j<A.room∧cnt A.pics (t j)=0)∧∀ j l,j<4→l<4→t j=t l→j=l)∧St W w' (Store q r (A.add g t)::L):=by
 refine EN Tryz.func93 Tryz.ntmps93 rfl rfl λa ha=>?_
 refine BX 1 ha hs λb3 a w ha hs=>?_
 refine CL 5 ha hs (snap_has (hs.pick (Store q r A))) λa w ha hs=>?_
 rw[decide_eq_true (by omega)]at ha
 refine RN 1 ha hs λa ha=>?_
 replace ha:=ha.isF 12
 refine RN 2 ha hs λa ha=>?_
 obtain⟨b,m,ps,xs,h1,hw,hr,hs⟩:=Store.open hs
 have hun:=hr.used
 have hrl:=hr.len
 refine AL 0 ha hs λb6 a w ha hs=>?_
 change St W w (blk b6 232 (pcs (tP (λ_=>0) 0))::_) at hs
 refine RN 3 ha hs λa ha=>?_
 refine wp_loop_ghost (λμ a w=>∃ (k:Nat) (t:Nat→Nat) (ps':List Pg),(μ=4-k∧k≤4∧Made ps g t k ps')∧Fr a 50 [(0,pt q),(3,pt b3),(6,pt b6),(13,.int .i64 k)]∧St W w (Room r b ps'::blk b6 232 (pcs (tP t k))::blk b3 183 (ints .i32 32 g)::blk q 221 [pt r,.map (some m),.int .i64 A.last]::mp m (kvs xs)::All ownP xs::L)) (4) (⟨0,λ_=>0,ps,⟨by simp,by simp,Made.zero _ _ _⟩,ha.keep [0,3,6,13],hs.sub⟩) ?_
 clear ha hs
 rintro μ a w ⟨k,t,ps',⟨rfl,hk,hm⟩,ha,hs⟩
 refine IF 3 ha hs (λhc1 a ha=>?_) λhc1 a ha=>?_
 ·
  refine RN 5 ha hs λa ha=>?_
  have hmu:=hm.used
  obtain⟨f,hf⟩:=hm.free (by omega)
  have hst:=λ(g1:Nat→Int) h=>hm.step (g1:=g1) hf h
  have hf1:=hf.1
  refine CL 5 ha hs (page_take_some (hs.pick (Room r b ps')) hf) λa w ha hs=>?_
  refine ST 5 ha hs (λa w ha hs=>?_) (hlt:=(by rw[pcs_len];omega))
  rw[pcs_set _ (by omega),tP_set]at hs
  refine CL 3 ha hs (state_page hs (by omega)) λa w ha hs=>?_
  refine RN 1 ha hs λa ha=>?_
  refine wp_loop_ghost (λμ a w=>∃ j:Nat,(μ=8-j∧j≤8)∧Fr a 50 [(0,pt q),(3,pt b3),(6,pt b6),(7,.int .i64 k),(13,.int .i64 k),(29,.agg (ints .i32 8 (λj=>g (8*k+j))).toArray),(30,.int .i64 j)]∧St W w (Room r b (ps'.set f ⟨gP g k j,1⟩)::blk b6 232 (pcs (tP (λj=>if j=k then f else t j) (k+1)))::blk b3 183 (ints .i32 32 g)::blk q 221 [pt r,.map (some m),.int .i64 A.last]::mp m (kvs xs)::All ownP xs::L)) (8) (⟨0,⟨by simp,by simp⟩,ha.keep [0,3,6,7,13,29,30],by rw[gP_zero];rw[show pg1=(⟨λ_=>0,1⟩:Pg) from rfl]at hs;exact hs.sub⟩) ?_
  clear ha hs
  rintro μ a w ⟨j,⟨rfl,hj⟩,ha,hs⟩
  refine IF 3 ha hs (λhc2 a ha=>?_) λhc2 a ha=>?_
  ·
   refine RN 3 ha hs λa ha=>?_
   refine SS ha (ex_index1 ha Tryz.underlying225 Tryz.underlying21 rfl Ty.t21 (by omega) (ints_get _ (by omega))) λa ha=>?_
   refine DWO 2 [7] [0,1,2,4,5,6,8,9,3003,1007,1010] ha hs λa w ha hs hH hC=>?_
   refine RH 9 ha hs hH hC λa ha=>?_
   refine SS ha (ld1 ha (hs.rd1 (pcs_at (by omega)))) λa ha=>?_
   rw[show tP (λj=>if j=k then f else t j) (k+1) k=(f:Int)+1 from by simp[tP]]at ha
   have hfl:f<(ps'.set f ⟨gP g k j,1⟩).length:=by rw[List.length_set];exact hf1
   have hfe:(ps'.set f ⟨gP g k j,1⟩)[f]=⟨gP g k j,1⟩:=by rw[List.getElem_set_self]
   refine RH 0 ha hs hH hC λa ha=>?_
   refine CL 0 ha hs (page_set (hs.pick (Room r b (ps'.set f ⟨gP g k j,1⟩))) hfl (by rw[hfe]) (show j<8 by omega)) λa w ha hs=>?_
   rw[hfe,List.set_set,gP_set]at hs
   refine RN 2 ha hs λa ha=>?_
   exact⟨8-(j+1),by omega,j+1,⟨rfl,by omega⟩,ha.keep [0,3,6,7,13,29,30],hs.sub⟩
  obtain rfl:j=8:=by omega
  have hst8:=hst (gP g k 8) (λl hl=>by simp[gP,hl])
  refine RN 2 ha hs λa ha=>?_
  exact⟨4-(k+1),by omega,k+1,_,_,⟨rfl,by omega,hst8⟩,ha.keep [0,3,6,13],hs.sub⟩
 obtain rfl:k=4:=by omega
 have hcs:pcs (tP t 4)=Pic.cells ⟨A.last+1,0,g,t⟩:=by
   rw[pcs,Pic.cells]
   rw[ints_congr (g:=tP t 4) (g':=λk=>(t k:Int)+1) (λj hj=>if_pos hj)]
   rfl
 rw[hcs]at hs
 have hwA:=hw.add hb g t
 have hrA:=hm.rel hr
 refine CL1 3 ha hs (snap_add (x:=⟨A.last+1,0,g,t⟩) (q:=q) (r:=r) (m:=m) (last:=A.last) (xs:=xs) (L:=Room r b ps'::All ownP xs::L) hs.sub (by have:=hw.bound;have:=hw.last;omega) (kvs_new h1 hw)) λpb a w ha hs=>?_
 refine RT 2 ha hs ?_
 refine⟨t,rfl,⟨λj hj=>?_,λj l hj hl e=>hm.apart j l hj hl e⟩,?_⟩
 · obtain⟨q',h5,h6⟩:=hm.was j hj
   have h7:=(List.getElem?_eq_some_iff.1 h5).1
   exact⟨by omega,by rw[← hr.refs _ _ h5];exact h6⟩
 · have h6:=St.allPush (f:=ownP) (l:=xs) (x:=(⟨A.last+1,1,g,t⟩,pb)) (hs.sub (M:=blk pb 232 (Pic.cells ⟨A.last+1,1,g,t⟩)::All ownP xs::blk q 221 [pt r,.map (some m),.int .i64 ((A.last+1:Nat):Int)]::mp m (kvs xs++[(((A.last+1:Nat):Int),pt pb)])::Room r b ps'::L))
   rw[show kvs xs++[(((A.last+1:Nat):Int),Value.pointer (some ⟨pb,0,none⟩))]=kvs (xs++[(⟨A.last+1,1,g,t⟩,pb)]) from by simp[kvs]]at h6
   exact Store.close (last:=A.last+1) (b:=b) (m:=m) (xs:=xs++[(⟨A.last+1,1,g,t⟩,pb)]) h6 (by simp[Sn.add,h1]) hwA hrA
end
end
section
structure Br where
 id:Nat
 frm:Int
 press:List (List UInt8)
 done:Nat
 snap:Nat
structure Tr where
 most:Nat
 l:List Br
 last:Nat
 epoch:Nat
def OkP (p:List (List UInt8)):Prop:=p.length≤65536∧∀ b∈p,b.length≤1099511627776
abbrev brC (x:Br)(ad:Option Addr)(c:Nat):List Value:=[.int .i64 x.id,.int .i64 x.frm,.slice ad x.press.length c,.int .i64 x.done,.int .i64 x.snap]
abbrev Bx:=Br×Option Addr×Nat
abbrev brc (x:Bx):List Value:=brC x.1 x.2.1 x.2.2
def bro (x:Bx):SP:=OwnBB x.2.1 x.1.press.length x.2.2 x.1.press
theorem brc_len (x:Bx):(brc x).length=5:=rfl
structure WT (T:Tr):Prop where
 most:T.most≤8∧T.l.length≤T.most
 last:T.last<1099511627776
 epoch:T.epoch<1099511627776
 ids:(T.l.map (·.id)).Pairwise (· < ·)
 ok:∀ x∈T.l,OkP x.press∧x.done≤x.press.length∧1≤x.id∧x.id≤T.last
def Tree (tq sq:Nat)(T:Tr):SP:=λh=>∃ ad c xs,(xs.map (·.1)=T.l∧WT T) ∧
 sepL [blk tq 236 [pt sq,.int .i64 T.most,.slice ad T.l.length c,.int .i64 T.last,.int .i64 T.epoch],Sl 238 5 ad T.l.length c (rows brc xs),All bro xs] h
section
variable {W w:World}{L L' R:List SP}{tq sq q r n c k:Nat}{ad:Option Addr}{A:Sn}{T:Tr}{x y:Br}{xs:List Bx}{p:List (List UInt8)}
theorem Tree.open (hs:St W w (Tree tq sq T::L)):∃ ad c xs,xs.map (·.1)=T.l∧WT T ∧
   St W w (blk tq 236 [pt sq,.int .i64 T.most,.slice ad T.l.length c,.int .i64 T.last,.int .i64 T.epoch]::Sl 238 5 ad T.l.length c (rows brc xs)::All bro xs::L):=by
 obtain⟨⟨ad,c,xs⟩,⟨h1,h2⟩,h4⟩:=hs.exi (ι:=Option Addr×Nat×List Bx) (p:=λi=>i.2.2.map (·.1)=T.l∧WT T)
   (B:=λi h=>sepL [blk tq 236 [pt sq,.int .i64 T.most,.slice i.1 T.l.length i.2.1,.int .i64 T.last,.int .i64 T.epoch],Sl 238 5 i.1 T.l.length i.2.1 (rows brc i.2.2),All bro i.2.2] h)
   (λh ⟨ad,c,xs,h1,h2⟩=>⟨(ad,c,xs),h1,h2⟩)
 exact⟨ad,c,xs,h1,h2,h4.open λ_ h=>h⟩
theorem Tree.close {most last epoch:Nat}(hs:St W w L)[k:Arr L (blk tq 236 [pt sq,.int .i64 most,.slice ad n c,.int .i64 last,.int .i64 epoch]::Sl 238 5 ad n c (rows brc xs)::All bro xs::L') R]
   (h1:xs.map (·.1)=T.l) (h2:WT T) (e1:T.most=most:=by rfl) (e2:T.l.length=n:=by rfl) (e3:T.last=last:=by rfl) (e4:T.epoch=epoch:=by rfl):St W w (Tree tq sq T::L'):=by
 subst e1 e2 e3 e4
 exact St.shut (M:=[_,_,_]) (hs.sub (M:=blk tq 236 [pt sq,.int .i64 T.most,.slice ad T.l.length c,.int .i64 T.last,.int .i64 T.epoch]::Sl 238 5 ad T.l.length c (rows brc xs)::All bro xs::L')) (λ_ x=>⟨ad,c,xs,⟨h1,h2⟩,x⟩)
theorem Tree.same (ad:Option Addr)(c:Nat)(xs:List Bx)(hs:St W w L)[k:Arr L (blk tq 236 [pt sq,.int .i64 T.most,.slice ad T.l.length c,.int .i64 T.last,.int .i64 T.epoch]::Sl 238 5 ad T.l.length c (rows brc xs)::All bro xs::L') R]
   (h1:xs.map (·.1)=T.l) (h2:WT T):St W w (Tree tq sq T::L') :=
 St.shut (M:=[_,_,_]) (hs.sub (M:=blk tq 236 [pt sq,.int .i64 T.most,.slice ad T.l.length c,.int .i64 T.last,.int .i64 T.epoch]::Sl 238 5 ad T.l.length c (rows brc xs)::All bro xs::L')) (λ_ x=>⟨ad,c,xs,⟨h1,h2⟩,x⟩)
class PickT (L:List SP)(tq:Nat)(sq:outParam Nat)(T:outParam Tr)(R:outParam (List SP)):Prop where perm:L.Perm (Tree tq sq T::R)
instance PickT.head {L tq sq T}:PickT (Tree tq sq T::L) tq sq T L:=⟨List.Perm.refl _⟩
instance (priority:=low) PickT.tail {B L tq sq T R}[h:PickT L tq sq T R]:PickT (B::L) tq sq T (B::R):=⟨(List.Perm.cons B h.perm).trans (List.Perm.swap _ _ _)⟩
theorem St.tree (hs:St W w L)(tq:Nat)[k:PickT L tq sq T R]:St W w (Tree tq sq T::R):=hs.perm k.perm
theorem Tree.wt (hs:St W w (Tree tq sq T::L)):WT T:=by obtain⟨_,_,_,_,h,_⟩:=Tree.open hs;exact h
theorem bx_at (h1:xs.map (·.1)=T.l)(hx:T.l[k]?=some x):∃ ad c,xs[k]?=some (x,ad,c):=by
 rw[← h1,List.getElem?_map]at hx
 obtain⟨⟨y,ad,c⟩,h2,rfl⟩:=Option.map_eq_some_iff.1 hx
 exact⟨ad,c,h2⟩
theorem row_rd {b off:Nat}(hr:Rd w b off (rows brc xs)){ad':Option Addr}{c':Nat}(hx:xs[k]?=some (x,ad',c')):Rd w b (off+k*5) (brC x ad' c'):=by
 obtain⟨hi,he⟩:=List.getElem?_eq_some_iff.1 hx
 have:=hr.part (k*5) 5
 rw[rows_at brc_len xs k hi,he]at this
 exact this
theorem All.rdBB (hs:St W w (All bro xs::L)){ad':Option Addr}{c':Nat}(hx:xs[k]?=some (x,ad',c')):RdBB w ad' x.press.length x.press∧x.press.length≤c':=by
 obtain⟨hi,he⟩:=List.getElem?_eq_some_iff.1 hx
 have h:=hs.allOut hi
 rw[he]at h
 have h2:St W w (OwnBB ad' x.press.length c' x.press::_):=h
 exact⟨OwnBB.rd h2,(OwnBB.le h2).2⟩
theorem tree_new {s:Nat}{m:Int}(hs:St W w L):Calls Tryz.prog 91 #[pt s,.int .i64 m] w λe w'=>∃ tq,e=.returned (pt tq)∧St W w' (Tree tq s ⟨(min (max m 0) 8).toNat,[],0,0⟩::L):=by
 refine EN Tryz.func91 Tryz.ntmps91 rfl rfl λa ha=>?_
 refine BX 8 ha hs λb10 a w ha hs=>?_
 refine RT 1 ha hs ?_
 rw[show min (max m 0) 8=(((min (max m 0) 8).toNat:Nat):Int) from by omega]at hs
 have h:St W w (Sl 238 5 none 0 0 (rows brc [])::All bro []::blk b10 236 [pt s,.int .i64 (((min (max m 0) 8).toNat:Nat):Int),.slice none 0 0,.int .i64 ((0:Nat):Int),.int .i64 ((0:Nat):Int)]::L):=(hs.allNil (f:=bro)).sl0 238 5 none
 exact⟨b10,rfl,Tree.close (T:=⟨(min (max m 0) 8).toNat,[],0,0⟩) (most:=(min (max m 0) 8).toNat) (ad:=none) (c:=0) (n:=0) (last:=0) (epoch:=0) (xs:=[]) h rfl ⟨⟨by simp only;omega,Nat.zero_le _⟩,by simp,by simp,by simp,by simp⟩⟩
def alikeP (a b:List (List UInt8)):Bool:=a.take (min a.length b.length)==b.take (min a.length b.length)
theorem alike_pure {u v:List (List UInt8)}{ad2:Option Addr}{c2:Nat}(ha':RdBB w ad u.length u)(hb':RdBB w ad2 v.length v)(hc1:u.length≤c)(hc2:v.length≤c2)(hb:u.length≤1099511627776) :
   Calls Tryz.prog 295 #[.slice ad u.length c,.slice ad2 v.length c2] w λe w'=>e=.returned (.bool (alikeP u v))∧w'=w.drew:=by
 obtain⟨W,hw0⟩:∃ W,w=W:=⟨w,rfl⟩
 have hs:St W w []:=hw0 ▸ St.start w
 refine EN Tryz.func295 Tryz.ntmps295 rfl rfl λa ha=>?_
 refine RN 8 ha hs λa ha=>?_
 rw[show min (u.length:Int) (v.length:Int)=((min u.length v.length:Nat):Int) from by omega]at ha
 refine RN 2 ha hs λa ha=>?_
 have ha2:RdBB w.drew ad u.length u:=ha'
 have hb2:RdBB w.drew ad2 v.length v:=hb'
 refine DWG 0 (λ_=>True) [] [0,1,2,3,4,5,1006,7] ha hs λa ha=>?_
 replace hs:=hs.drew
 generalize w.drew=w at hs ha2 hb2 ⊢
 have hC:=trivial
 have hH:=Hd.any (λ_=>True)
 refine RH 6 ha hs hH hC λa ha=>?_
 rw[cutAd_zero,cutAd_zero,Nat.sub_zero,Nat.sub_zero,Nat.sub_zero]at ha
 refine CL 0 ha hs (equal_func (p:=u.take (min u.length v.length)) (q:=v.take (min u.length v.length)) (ha2.take (by omega)) (hb2.take (by omega)) (by omega)) λa w ha hx=>?_
 obtain rfl:=hx
 refine RN 1 ha (St.start _) λa ha=>?_
 refine RT 0 ha (St.start _) ?_
 exact⟨rfl,rfl⟩
theorem alike_spec {u v:List (List UInt8)}{ad2:Option Addr}{c2:Nat}(hs:St W w L)(ha':RdBB w ad u.length u)(hb':RdBB w ad2 v.length v)(hc1:u.length≤c)(hc2:v.length≤c2)(hb:u.length≤1099511627776) :
   Calls Tryz.prog 295 #[.slice ad u.length c,.slice ad2 v.length c2] w λe w'=>e=.returned (.bool (alikeP u v))∧St W w' L :=
 (alike_pure ha' hb' hc1 hc2 hb).mono λe w' ⟨h1,h2⟩=>⟨h1,by subst h2;exact hs.drew⟩
theorem clone_spec {m:Nat}{zs:List BBx}(hs:St W w L)(hr:∀ w',St W w' L→RdX w' ad zs)(hm:zs.length=m)(hok:OkP (zs.map (·.2.2))) :
   Calls Tryz.prog 165 #[.slice ad m c] w λe w'=>∃ ad' c',e=.returned (.slice ad' m c')∧St W w' (OwnBB ad' m c' (zs.map (·.2.2))::L):=by
 obtain⟨hok1,hok2⟩:=hok
 rw[List.length_map]at hok1
 refine EN Tryz.func165 Tryz.ntmps165 rfl rfl λa ha=>?_
 refine RN 6 ha hs λa ha=>?_
 replace hs:=OwnBB.nil hs
 refine RN 3 ha hs λa ha=>?_
 refine wp_loop_ghost (λμ a w=>∃ (k:Nat) (ad3:Option Addr) (c3:Nat),(μ=m-k∧k≤m)∧Fr a 19 [(3,.slice ad3 k c3),(6,.slice ad m c),(7,.int .i64 m),(8,.int .i64 k)]∧St W w (OwnBB ad3 k c3 ((zs.map (·.2.2)).take k)::L)) (m) (⟨0,none,0,⟨by simp,by simp⟩,ha.keep [3,6,7,8],hs⟩) ?_
 clear ha hs
 rintro μ a w ⟨k,ad3,c3,⟨rfl,hk⟩,ha,hs⟩
 refine IF 3 ha hs (λhc0 a ha=>?_) λhc0 a ha=>?_
 ·
  refine RN 2 ha hs λa ha=>?_
  obtain⟨b1,o1,rfl,h1⟩:=(hr _ hs.tail).1 (by omega)
  have hx1:zs[k]?=some zs[k]:=List.getElem?_eq_getElem (by omega)
  have hbl:=hok2 zs[k].2.2 (List.mem_map.2 ⟨zs[k],List.getElem_mem _,rfl⟩)
  have hcell:=h1 k _ (by rw[List.getElem?_map,hx1];rfl)
  refine RN 1 ha hs λa ha=>?_
  refine SS ha (ld1 ha (hcell)) λa ha=>?_
  refine CL2 3 ha hs (bytes_clone (bs:=zs[k].2.2) hs (λw' h=>(hr _ h.tail).2 _ (List.getElem_mem _)) hbl) λad4 c4 a w ha hs=>?_
  refine RN 0 ha hs λa ha=>?_
  refine st_buildSlice ha rfl hs Tryz.underlying207 Ty.t22 rfl rfl rfl rfl (by decide) (by decide) λb15 a w ha hs ho=>?_
  clear ho
  obtain⟨ys,hy1,hy2,hs⟩:=OwnBB.open (hs.pick (OwnBB ad3 k c3 ((zs.map (·.2.2)).take k)))
  refine RN 0 ha hs λa ha=>?_
  refine st_append ha rfl hs Tryz.underlying207 Ty.t22 rfl rfl hs.rdAll rfl (by simp[Value.oneCell']) (by decide) (by decide) (by omega) λad16 c16 a w ha hs=>?_
  have h8:=St.allPush (f:=bbo) (l:=ys) (x:=(ad4,c4,zs[k].2.2)) (hs.sub (M:=Sl 5 1 ad4 zs[k].2.2.length c4 (bc zs[k].2.2)::All bbo ys::Sl 22 1 ad16 (k+1) c16 (ys.map bbv++[[.slice ad4 zs[k].2.2.length c4]].flatten)::L))
  have h9:St W w (All bbo (ys++[(ad4,c4,zs[k].2.2)])::Sl 22 1 ad16 (k+1) c16 ((ys++[(ad4,c4,zs[k].2.2)]).map bbv)::L):=by
    rw[List.map_append];exact h8
  have hkl:k<(zs.map (·.2.2)).length:=by rw[List.length_map];omega
  have h10:=OwnBB.close (p:=(zs.map (·.2.2)).take (k+1)) (ad:=ad16) (n:=k+1) (c:=c16) (xs:=ys++[(ad4,c4,zs[k].2.2)]) (L':=L) h9 (by rw[List.map_append,hy1,List.take_succ_eq_append_getElem hkl];simp) (by rw[List.length_take];omega)
  replace hs:=h10
  clear h8 h9 h10
  refine RN 3 ha hs λa ha=>?_
  exact⟨m-(k+1),by omega,k+1,_,_,⟨rfl,by omega⟩,ha.keep [3,6,7,8],hs⟩
 refine RT 3 ha hs ?_
 obtain rfl:k=m:=by omega
 rw[List.take_of_length_le (by rw[List.length_map];omega)]at hs
 exact⟨_,_,rfl,hs⟩
theorem own_branch {zs:List BBx}{ad':Option Addr}{c':Nat}(hs:St W w L)(hr:∀ w',St W w' L→RdX w' ad' zs)(hz:zs.map (·.2.2)=x.press)(hok:OkP x.press) :
   Calls Tryz.prog 123 #[.agg (brC x ad' c').toArray] w λe w'=>∃ ad2 c2,e=.returned (.agg (brC x ad2 c2).toArray)∧St W w' (OwnBB ad2 x.press.length c2 x.press::L):=by
 have hzl:zs.length=x.press.length:=by rw[← hz,List.length_map]
 refine EN Tryz.func123 Tryz.ntmps123 rfl rfl λa ha=>?_
 refine BX 1 ha hs λb1 a w ha hs=>?_
 refine AL 0 ha hs λb2 a w ha hs=>?_
 refine CL2 3 ha hs (clone_spec hs (λw' h=>hr w' h.tail.tail) hzl (by rw[hz];exact hok)) λad2 c2 a w ha hs=>?_
 rw[hz]at hs
 refine ST 1 ha hs (λa w ha hs=>?_) (hlt:=(by simp[brC]))
 refine SA 2 ha hs λa w ha hs=>?_
 refine RT 0 ha hs ?_
 exact⟨ad2,c2,rfl,hs.sub⟩
theorem find1_spec {b:Nat}{id:Int}{ad':Option Addr}{c':Nat}(hs:St W w (blk b 2 [.int .i64 id]::L)) :
   Calls Tryz.prog 212 #[.agg (brC x ad' c').toArray,pt b] w λe w'=>e=.returned (.bool (decide ((x.id:Int)=id)))∧St W w' (blk b 2 [.int .i64 id]::L):=by
 refine EN Tryz.func212 Tryz.ntmps212 rfl rfl λa ha=>?_
 refine BX 1 ha hs λb2 a w ha hs=>?_
 refine RT 7 ha hs ?_
 exact⟨rfl,hs.sub⟩
theorem index_func {b:Nat}{id:Int}{ad':Option Addr}{c':Nat}(hs:St W w (blk b 2 [.int .i64 id]::Sl 238 5 ad' n c' (rows brc xs)::L))(hb:n≤1048576) :
   Calls Tryz.prog 211 #[.slice ad' n c',.func (.func 212) #[] #[pt b]] w λe w' =>
     ∃ r:Int,e=.returned (.int .i64 r)∧((r = -1∧∀ y∈xs,(y.1.id:Int)≠id)∨∃ k y,r=(k:Nat)∧xs[k]?=some y∧(y.1.id:Int)=id)∧St W w' (Sl 238 5 ad' n c' (rows brc xs)::L):=by
 have hxl:xs.length=n:=by
   have:=(hs.tail.sl ad').1
   rw[rows_len brc_len]at this;omega
 refine EN Tryz.func211 Tryz.ntmps211 rfl rfl λa ha=>?_
 refine RN 7 ha hs λa ha=>?_
 refine wp_loop_ghost (λμ a w=>∃ k:Nat,(μ=n-k∧k≤n∧∀ j y,j<k→xs[j]?=some y→(y.1.id:Int)≠id)∧Fr a 19 [(0,.slice ad' n c'),(1,.func (.func 212) #[] #[pt b]),(7,.int .i64 n),(8,.int .i64 k)]∧St W w (blk b 2 [.int .i64 id]::Sl 238 5 ad' n c' (rows brc xs)::L)) (n) (⟨0,⟨by simp,by simp,by omega⟩,ha.keep [0,1,7,8],hs⟩) ?_
 clear ha hs
 rintro μ a w ⟨k,⟨rfl,hk,hno⟩,ha,hs⟩
 refine IF 3 ha hs (λhc0 a ha=>?_) λhc0 a ha=>?_
 ·
  refine RN 5 ha hs λa ha=>?_
  obtain⟨b',off',rfl,hrd⟩:=hs.tail.slRd ad' (by omega)
  obtain⟨⟨y,ya,yc⟩,hy⟩:∃ y,xs[k]?=some y:=⟨_,List.getElem?_eq_getElem (by omega)⟩
  have hrk:=row_rd hrd hy
  refine RN 4 ha hs λa ha=>?_
  refine SS ha (ex_loadN ha Tryz.underlying238 rfl Ty.t238 (hrk)) λa ha=>?_
  refine CL 0 ha hs (find1_spec (x:=y) (ad':=ya) (c':=yc) hs) λa w ha hs=>?_
  refine IF 0 ha hs (λhc1 a ha=>?_) λhc1 a ha=>?_
  ·
   skip
   refine RT 3 ha hs ?_
   exact⟨_,rfl,.inr ⟨k,(y,ya,yc),rfl,hy,hc1⟩,hs.tail⟩
  refine RN 2 ha hs λa ha=>?_
  refine⟨n-(k+1),by omega,k+1,⟨rfl,by omega,λj z hj hz=>?_⟩,ha.keep [0,1,7,8],hs⟩
  by_cases hjk:j=k
  · subst hjk
    rw[hy]at hz;cases hz
    exact hc1
  · exact hno j z (by omega) hz
 refine RT 2 ha hs ?_
 refine⟨-1,rfl,.inl ⟨rfl,λz hz=>?_⟩,hs.tail⟩
 obtain⟨j,hj⟩:=List.mem_iff_getElem?.1 hz
 have hjl:=(List.getElem?_eq_some_iff.1 hj).1
 exact hno j z (by omega) hj
theorem tree_find {id:Int}(hs:St W w (Tree tq sq T::L)) :
   Calls Tryz.prog 183 #[pt tq,.int .i64 id] w λe w' =>
     ∃ r:Int,e=.returned (.int .i64 r)∧((r = -1∧∀ y∈T.l,(y.id:Int)≠id)∨∃ k y,r=(k:Nat)∧T.l[k]?=some y∧(y.id:Int)=id)∧St W w' (Tree tq sq T::L):=by
 refine EN Tryz.func183 Tryz.ntmps183 rfl rfl λa ha=>?_
 refine BX 1 ha hs λb3 a w ha hs=>?_
 refine RN 5 ha hs λa ha=>?_
 replace ha:=ha.isF 6
 refine RN 2 ha hs λa ha=>?_
 obtain⟨ad,c,xs,h1,hw,hs⟩:=Tree.open (hs.tree tq)
 have hT:=hw.most
 refine CL1 5 ha hs (index_func (xs:=xs) (b:=b3) (id:=id) (ad':=ad) (c':=c) (n:=T.l.length) (L:=blk tq 236 [pt sq,.int .i64 T.most,.slice ad T.l.length c,.int .i64 T.last,.int .i64 T.epoch]::All bro xs::L) hs.sub (by omega)) λr a w ha ⟨hr,hs⟩=>?_
 refine RT 1 ha hs ?_
 refine⟨r,rfl,?_,Tree.same ad c xs hs h1 hw⟩
 rcases hr with ⟨h2,h3⟩ | ⟨k,y,h2,h3,h4⟩
 · refine .inl ⟨h2,λy hy=>?_⟩
   rw[← h1]at hy
   obtain⟨z,hz,rfl⟩:=List.mem_map.1 hy
   exact h3 z hz
 · exact .inr ⟨k,y.1,h2,by rw[← h1,List.getElem?_map,h3];rfl,h4⟩
theorem St.brOut (hs:St W w (All bro xs::L)){ad':Option Addr}{c':Nat}(hx:xs[k]?=some (x,ad',c')):∃ zs:List BBx,zs.map (·.2.2)=x.press∧x.press.length≤c' ∧
   St W w (Sl 22 1 ad' x.press.length c' (zs.map bbv)::All bbo zs::All bro (xs.eraseIdx k)::L):=by
 obtain⟨hi,he⟩:=List.getElem?_eq_some_iff.1 hx
 have h:=hs.allOut hi
 rw[he]at h
 have h2:St W w (OwnBB ad' x.press.length c' x.press::All bro (xs.eraseIdx k)::L):=h
 obtain⟨zs,h3,h4,h5⟩:=OwnBB.open h2
 exact⟨zs,h3,(OwnBB.le h2).2,h5⟩
theorem St.brIn {zs:List BBx}{ad':Option Addr}{c':Nat}(hs:St W w L)[kk:Arr L (Sl 22 1 ad' n c' (zs.map bbv)::All bbo zs::All bro (xs.eraseIdx k)::L') R](hx:xs[k]?=some (x,ad',c'))(hz:zs.map (·.2.2)=x.press)(hn:x.press.length=n):St W w (All bro xs::L'):=by
 subst hn
 obtain⟨hi,he⟩:=List.getElem?_eq_some_iff.1 hx
 have h1:=hs.sub (M:=Sl 22 1 ad' x.press.length c' (zs.map bbv)::All bbo zs::All bro (xs.eraseIdx k)::L')
 have h2:=OwnBB.close (L':=All bro (xs.eraseIdx k)::L') (p:=x.press) (ad:=ad') (n:=x.press.length) (c:=c') (xs:=zs) h1 hz rfl
 have h3:St W w (bro (x,ad',c')::All bro (xs.eraseIdx k)::L'):=h2
 have h4:=St.allPut hi h3
 rw[← he,List.set_getElem_self]at h4
 exact h4
theorem tree_get (hs:St W w (Tree tq sq T::L))(hx:T.l[k]?=some x) :
   Calls Tryz.prog 143 #[pt tq,.int .i64 x.id] w λe w'=>∃ ad c,e=.returned (.tuple #[.agg (brC x ad c).toArray,.bool true])∧St W w' (OwnBB ad x.press.length c x.press::Tree tq sq T::L):=by
 refine EN Tryz.func143 Tryz.ntmps143 rfl rfl λa ha=>?_
 refine AL 1 ha hs λb4 a w ha hs=>?_
 refine CL1 4 ha hs (tree_find (id:=(x.id:Int)) (hs.tree tq)) λr a w ha ⟨hr,hs⟩=>?_
 obtain⟨hw,hrk⟩:WT T∧r=(k:Nat):=by
   have hw:=Tree.wt hs
   refine⟨hw,?_⟩
   rcases hr with ⟨_,h3⟩ | ⟨j,y,h2,h3,h4⟩
   · exact absurd rfl (h3 x (List.mem_of_getElem? hx))
   · have hp:=List.pairwise_iff_getElem.1 hw.ids
     obtain⟨hj,rfl⟩:=List.getElem?_eq_some_iff.1 h3
     obtain⟨hk,rfl⟩:=List.getElem?_eq_some_iff.1 hx
     rcases Nat.lt_trichotomy j k with hl | hl | hl
     · have:=hp j k (by simpa using hj) (by simpa using hk) hl
       simp at this;omega
     · rw[h2,hl]
     · have:=hp k j (by simpa using hk) (by simpa using hj) hl
       simp at this;omega
 subst hrk
 have hkl:=(List.getElem?_eq_some_iff.1 hx).1
 have hox:=(hw.ok x (List.mem_of_getElem? hx)).1
 clear hr
 refine RN 5 ha hs λa ha=>?_
 rw[decide_eq_false (by omega)]at ha
 refine RN 2 ha hs λa ha=>?_
 obtain⟨ad,c,xs,h1,hw,hs⟩:=Tree.open (hs.tree tq)
 obtain⟨ax,cx,hxx⟩:=bx_at h1 hx
 obtain⟨b',off',rfl,hrd⟩:=hs.tail.slRd ad (by omega)
 have hrk:=row_rd hrd hxx
 refine RN 6 ha hs λa ha=>?_
 refine SS ha (ex_loadN ha Tryz.underlying238 rfl Ty.t238 (hrk)) λa ha=>?_
 obtain⟨zs,hz1,hz2,hs⟩:=St.brOut (hs.pick (All bro xs)) hxx
 refine CL2 0 ha hs (own_branch (x:=x) (ad':=ax) (c':=cx) hs (λw' h=>St.rdX h) hz1 hox) λad2 c2 a w ha hs=>?_
 refine SA 0 ha hs λa w ha hs=>?_
 refine RT 1 ha hs ?_
 have h5:=St.brIn (L':=OwnBB ad2 x.press.length c2 x.press::blk tq 236 [pt sq,.int .i64 T.most,.slice (some ⟨b',off',none⟩) T.l.length c,.int .i64 T.last,.int .i64 T.epoch]::Sl 238 5 (some ⟨b',off',none⟩) T.l.length c (rows brc xs)::L) hs hxx hz1 rfl
 refine⟨ad2,c2,rfl,?_⟩
 have h6:=Tree.same (tq:=tq) (sq:=sq) (T:=T) (L':=OwnBB ad2 x.press.length c2 x.press::L) (some ⟨b',off',none⟩) c xs h5 h1 hw
 exact h6.perm (List.Perm.swap _ _ _)
theorem tree_get_no {id:Int}(hs:St W w (Tree tq sq T::L))(hn:∀ y∈T.l,(y.id:Int)≠id) :
   Calls Tryz.prog 143 #[pt tq,.int .i64 id] w λe w'=>e=.returned (.tuple #[.agg (brC ⟨0,0,[],0,0⟩ none 0).toArray,.bool false])∧St W w' (Tree tq sq T::L):=by
 refine EN Tryz.func143 Tryz.ntmps143 rfl rfl λa ha=>?_
 refine AL 1 ha hs λb4 a w ha hs=>?_
 refine CL1 4 ha hs (tree_find (id:=id) (hs.tree tq)) λr a w ha ⟨hr,hs⟩=>?_
 obtain rfl:r = -1:=by
   rcases hr with ⟨h,_⟩ | ⟨j,y,_,h3,h4⟩
   · exact h
   · exact absurd h4 (hn y (List.mem_of_getElem? h3))
 clear hr
 refine RN 5 ha hs λa ha=>?_
 replace ha:=ha.isT 11
 refine SA 3 ha hs λa w ha hs=>?_
 refine RT 1 ha hs ?_
 exact⟨rfl,hs.sub⟩
theorem tree_epoch (hs:St W w (Tree tq sq T::L)) :
   Calls Tryz.prog 144 #[pt tq] w λe w'=>e=.returned (.int .i64 T.epoch)∧St W w' (Tree tq sq T::L):=by
 obtain⟨ad,c,xs,h1,hw,hs⟩:=Tree.open hs
 refine EN Tryz.func144 Tryz.ntmps144 rfl rfl λa ha=>?_
 refine RN 6 ha hs λa ha=>?_
 replace ha:=ha.isF 4
 refine RT 7 ha hs ?_
 exact⟨rfl,Tree.same ad c xs hs h1 hw⟩
def OwnBr (ad:Option Addr)(n c:Nat)(l:List Br):SP:=λh=>∃ ys:List Bx,(ys.map (·.1)=l∧l.length=n)∧sepL [Sl 238 5 ad n c (rows brc ys),All bro ys] h
theorem OwnBr.open {l:List Br}(hs:St W w (OwnBr ad n c l::L)):∃ ys:List Bx,ys.map (·.1)=l∧l.length=n∧St W w (Sl 238 5 ad n c (rows brc ys)::All bro ys::L):=by
 obtain⟨xs,⟨h1,h2⟩,h3⟩:=hs.exi (ι:=List Bx) (p:=λxs=>xs.map (·.1)=l∧l.length=n) (B:=λxs h=>sepL [Sl 238 5 ad n c (rows brc xs),All bro xs] h) (λh ⟨xs,h1,h2⟩=>⟨xs,h1,h2⟩)
 exact⟨xs,h1,h2,h3.open λ_ h=>h⟩
theorem OwnBr.close {l:List Br}(ys:List Bx)(hs:St W w L)[k:Arr L (Sl 238 5 ad n c (rows brc ys)::All bro ys::L') R](h1:ys.map (·.1)=l)(h2:l.length=n):St W w (OwnBr ad n c l::L') :=
 St.shut (M:=[_,_]) (hs.sub (M:=Sl 238 5 ad n c (rows brc ys)::All bro ys::L')) (λ_ x=>⟨ys,⟨h1,h2⟩,x⟩)
theorem OwnBr.nil (hs:St W w L):St W w (OwnBr none 0 0 []::L):=by
 have h:St W w (Sl 238 5 none 0 0 (rows brc [])::All bro []::L):=(hs.allNil (f:=bro)).sl0 238 5 none
 exact OwnBr.close [] h rfl rfl
theorem rows_snoc (ys:List Bx)(y:Bx):rows brc ys++[brc y].flatten=rows brc (ys++[y]):=by rw[rows_app];simp[rows]
theorem rows_snocC (ys:List Bx)(x:Br)(ad:Option Addr)(c:Nat):rows brc ys++[brC x ad c].flatten=rows brc (ys++[(x,ad,c)]):=rows_snoc ys (x,ad,c)
theorem tree_all (hs:St W w (Tree tq sq T::L)) :
   Calls Tryz.prog 88 #[pt tq] w λe w'=>∃ ad c,e=.returned (.slice ad T.l.length c)∧St W w' (OwnBr ad T.l.length c T.l::Tree tq sq T::L):=by
 obtain⟨ad,c,xs,h1,hw,hs⟩:=Tree.open hs
 have hxl:xs.length=T.l.length:=by rw[← h1,List.length_map]
 have hT:=hw.most
 refine EN Tryz.func88 Tryz.ntmps88 rfl rfl λa ha=>?_
 refine RN 6 ha hs λa ha=>?_
 replace ha:=ha.isF 7
 refine RN 5 ha hs λa ha=>?_
 replace hs:=OwnBr.nil hs
 refine RN 6 ha hs λa ha=>?_
 refine wp_loop_ghost (λμ a w=>∃ (k:Nat) (ad3:Option Addr) (c3:Nat),(μ=T.l.length-k∧k≤T.l.length)∧Fr a 24 [(3,.slice ad3 k c3),(11,.slice ad T.l.length c),(12,.int .i64 T.l.length),(13,.int .i64 k)]∧St W w (OwnBr ad3 k c3 (T.l.take k)::blk tq 236 [pt sq,.int .i64 T.most,.slice ad T.l.length c,.int .i64 T.last,.int .i64 T.epoch]::Sl 238 5 ad T.l.length c (rows brc xs)::All bro xs::L)) (T.l.length) (⟨0,none,0,⟨by simp,by simp⟩,ha.keep [3,11,12,13],hs⟩) ?_
 clear ha hs
 rintro μ a w ⟨k,ad3,c3,⟨rfl,hk⟩,ha,hs⟩
 refine IF 3 ha hs (λhc1 a ha=>?_) λhc1 a ha=>?_
 ·
  refine RN 2 ha hs λa ha=>?_
  obtain⟨b',off',rfl,hrd⟩:=hs.slRd ad (by omega)
  obtain⟨⟨x,ax,cx⟩,hxx⟩:∃ y,xs[k]?=some y:=⟨_,List.getElem?_eq_getElem (by omega)⟩
  have hrk:=row_rd hrd hxx
  have hTx:T.l[k]?=some x:=by rw[← h1,List.getElem?_map,hxx];rfl
  have hox:=(hw.ok x (List.mem_of_getElem? hTx)).1
  refine RN 1 ha hs λa ha=>?_
  refine SS ha (ex_loadN ha Tryz.underlying238 rfl Ty.t238 (hrk)) λa ha=>?_
  refine AL 0 ha hs λb5 a w ha hs=>?_
  refine SA 0 ha hs λa w ha hs=>?_
  refine RN 2 ha hs λa ha=>?_
  obtain⟨zs,hz1,hz2,hs⟩:=St.brOut (hs.pick (All bro xs)) hxx
  refine CL2 0 ha hs (own_branch (x:=x) (ad':=ax) (c':=cx) hs (λw' h=>St.rdX h) hz1 hox) λad2 c2 a w ha hs=>?_
  refine RN 0 ha hs λa ha=>?_
  refine st_buildSlice ha rfl hs Tryz.underlying168 Ty.t238 rfl rfl rfl rfl (by decide) (by decide) λb20 a w ha hs ho=>?_
  clear ho
  obtain⟨ys,hy1,hy2,hs⟩:=OwnBr.open (hs.pick (OwnBr ad3 k c3 (T.l.take k)))
  refine RN 0 ha hs λa ha=>?_
  refine st_append ha rfl hs Tryz.underlying168 Ty.t238 rfl rfl hs.rdAll rfl (by simp[Value.oneCell',brC]) (by decide) (by decide) (by omega) λad21 c21 a w ha hs=>?_
  have h8:=St.allPush (f:=bro) (l:=ys) (x:=(x,ad2,c2)) (hs.sub (M:=OwnBB ad2 x.press.length c2 x.press::All bro ys::Sl 238 5 ad21 (k+1) c21 (rows brc ys++[brC x ad2 c2].flatten)::Sl 22 1 ax x.press.length cx (zs.map bbv)::All bbo zs::All bro (xs.eraseIdx k)::blk tq 236 [pt sq,.int .i64 T.most,.slice (some ⟨b',off',none⟩) T.l.length c,.int .i64 T.last,.int .i64 T.epoch]::Sl 238 5 (some ⟨b',off',none⟩) T.l.length c (rows brc xs)::L))
  rw[rows_snocC]at h8
  have h9:=OwnBr.close (l:=T.l.take (k+1)) (n:=k+1) (ad:=ad21) (c:=c21) (L':=Sl 22 1 ax x.press.length cx (zs.map bbv)::All bbo zs::All bro (xs.eraseIdx k)::blk tq 236 [pt sq,.int .i64 T.most,.slice (some ⟨b',off',none⟩) T.l.length c,.int .i64 T.last,.int .i64 T.epoch]::Sl 238 5 (some ⟨b',off',none⟩) T.l.length c (rows brc xs)::L) (ys++[(x,ad2,c2)]) h8 (by
    have hkl:k<T.l.length:=by omega
    rw[List.map_append,hy1,List.take_succ_eq_append_getElem hkl]
    rw[List.getElem?_eq_getElem hkl]at hTx
    cases hTx;rfl) (by rw[List.length_take];omega)
  have h10:=St.brIn (L':=OwnBr ad21 (k+1) c21 (T.l.take (k+1))::blk tq 236 [pt sq,.int .i64 T.most,.slice (some ⟨b',off',none⟩) T.l.length c,.int .i64 T.last,.int .i64 T.epoch]::Sl 238 5 (some ⟨b',off',none⟩) T.l.length c (rows brc xs)::L) h9 hxx hz1 rfl
  replace hs:=h10
  clear h8 h9 h10
  refine RN 3 ha hs λa ha=>?_
  exact⟨T.l.length-(k+1),by omega,k+1,_,_,⟨rfl,by omega⟩,ha.keep [3,11,12,13],hs.sub⟩
 refine RT 3 ha hs ?_
 obtain rfl:k=T.l.length:=by omega
 rw[List.take_length]at hs
 refine⟨_,_,rfl,?_⟩
 have h6:=Tree.same (tq:=tq) (sq:=sq) (T:=T) (L':=OwnBr ad3 T.l.length c3 T.l::L) ad c xs hs h1 hw
 exact h6.perm (List.Perm.swap _ _ _)
def Tr.add (T:Tr)(frm:Int)(p:List (List UInt8))(snap:Nat):Tr:={ T with l:=T.l++[⟨T.last+1,frm,p,0,snap⟩],last:=T.last+1 }
def Br.is (y:Br)(frm:Int)(p:List (List UInt8)):Prop:=y.frm=frm∧y.press=p
theorem alike_eq {u v:List (List UInt8)}(h:u.length=v.length):(alikeP u v=true)↔u=v:=by
 rw[alikeP,← h,Nat.min_self,List.take_length,h,List.take_length];simp
theorem add_full {frm sn:Int}{ad2:Option Addr}{m c2:Nat}(hs:St W w (Tree tq sq T::L))(h:T.most≤T.l.length∨m=0) :
   Calls Tryz.prog 306 #[pt tq,.int .i64 frm,.int .i64 sn,.slice ad2 m c2] w λe w'=>e=.returned (.tuple #[.int .i64 0,.bool false])∧St W w' (Tree tq sq T::L):=by
 obtain⟨ad,c,xs,h1,hw,hs⟩:=Tree.open hs
 refine EN Tryz.func306 Tryz.ntmps306 rfl rfl λa ha=>?_
 refine DWO 5 [11] [0,1,2,3,4,5,8,9,10,3006,7,1011,12,13,14,15,16,17,18] ha hs λa w ha hs hH hC=>?_
 refine RH 3 ha hs hH hC λa ha=>?_
 replace ha:=ha.isF 16
 refine RH 12 ha hs hH hC λa ha=>?_
 refine ha.by (s:=28) (λhg14 ha=>?_) (λhg14 ha=>?_)
 ·
  refine RH 4 ha hs hH hC λa ha=>?_
  refine RT 4 ha hs ?_
  exact⟨rfl,Tree.same ad c xs hs h1 hw⟩
 refine RH 4 ha hs hH hC λa ha=>?_
 rw[decide_eq_true (by omega)]at ha
 refine RT 4 ha hs ?_
 exact⟨rfl,Tree.same ad c xs hs h1 hw⟩
theorem add_dup {frm sn:Int}{ad2:Option Addr}{c2 j:Nat}{y:Br}(hs:St W w (Tree tq sq T::L))(hp:∀ w',St W w' L→RdBB w' ad2 p.length p)(hc:p.length≤c2)(hok:OkP p)(hy:T.l[j]?=some y)(his:y.is frm p) :
   Calls Tryz.prog 306 #[pt tq,.int .i64 frm,.int .i64 sn,.slice ad2 p.length c2] w λe w'=>e=.returned (.tuple #[.int .i64 0,.bool false])∧St W w' (Tree tq sq T::L):=by
 obtain⟨ad,c,xs,h1,hw,hs⟩:=Tree.open hs
 have hxl:xs.length=T.l.length:=by rw[← h1,List.length_map]
 have hT:=hw.most
 have hjl:=(List.getElem?_eq_some_iff.1 hy).1
 refine EN Tryz.func306 Tryz.ntmps306 rfl rfl λa ha=>?_
 refine DWO 5 [11] [0,1,2,3,4,5,8,9,10,3006,7,1011,12,13,14,15,16,17,18] ha hs λa w ha hs hH hC=>?_
 refine RH 3 ha hs hH hC λa ha=>?_
 replace ha:=ha.isF 16
 refine RH 12 ha hs hH hC λa ha=>?_
 refine ha.by (s:=28) (λhg14 ha=>?_) (λhg14 ha=>?_)
 ·
  refine RH 4 ha hs hH hC λa ha=>?_
  refine RT 4 ha hs ?_
  exact⟨rfl,Tree.same ad c xs hs h1 hw⟩
 refine RH 4 ha hs hH hC λa ha=>?_
 refine IF 0 ha hs (λhc0 a ha=>?_) λhc0 a ha=>?_
 ·
  refine RT 3 ha hs ?_
  exact⟨rfl,Tree.same ad c xs hs h1 hw⟩
 refine RN 8 ha hs λa ha=>?_
 refine wp_loop_ghost (λμ a w=>∃ k:Nat,(μ=j-k∧k≤j)∧Fr a 101 [(1,.int .i64 frm),(3,.slice ad2 p.length c2),(36,.slice ad T.l.length c),(37,.int .i64 T.l.length),(38,.int .i64 k)]∧St W w (blk tq 236 [pt sq,.int .i64 T.most,.slice ad T.l.length c,.int .i64 T.last,.int .i64 T.epoch]::Sl 238 5 ad T.l.length c (rows brc xs)::All bro xs::L)) (j) (⟨0,⟨by simp,by simp⟩,ha.keep [1,3,36,37,38],hs.sub⟩) ?_
 clear ha hs
 rintro μ a w ⟨k,⟨rfl,hk⟩,ha,hs⟩
 refine RN 3 ha hs λa ha=>?_
 rw[decide_eq_true (by omega)]at ha
 refine RN 3 ha hs λa ha=>?_
 obtain⟨b',off',rfl,hrd⟩:=hs.slRd ad (by omega)
 obtain⟨⟨x,ax,cx⟩,hxx⟩:∃ y,xs[k]?=some y:=⟨_,List.getElem?_eq_getElem (by omega)⟩
 have hrk:=row_rd hrd hxx
 have hTx:T.l[k]?=some x:=by rw[← h1,List.getElem?_map,hxx];rfl
 have hox:=(hw.ok x (List.mem_of_getElem? hTx)).1
 have hkj:k=j→x=y:=λe=>by rw[e,hy]at hTx;cases hTx;rfl
 refine RN 1 ha hs λa ha=>?_
 refine SS ha (ex_loadN ha Tryz.underlying238 rfl Ty.t238 (hrk)) λa ha=>?_
 refine AL 0 ha hs λb11 a w ha hs=>?_
 refine SA 0 ha hs λa w ha hs=>?_
 refine BY 6 ha hs (λhg4 a ha=>?_) λhg4 a ha=>?_
 ·
  refine BY 8 ha hs (λhg12 a ha=>?_) λhg12 a ha=>?_
  ·
   refine RN 3 ha hs λa ha=>?_
   have hrx:=All.rdBB (hs.pick (All bro xs)) hxx
   refine CL 0 ha hs (alike_spec (u:=x.press) (v:=p) hs hrx.1 (hp _ hs.sub) hrx.2 hc (by have:=hox.1;omega)) λa w ha hs=>?_
   refine IF 1 ha hs (λhc2 a ha=>?_) λhc2 a ha=>?_
   ·
    refine RT 3 ha hs ?_
    exact⟨rfl,Tree.same (some ⟨b',off',none⟩) c xs hs h1 hw⟩
   have hne : k ≠ j := fun e => by
       have hxp:x.press=p:=by rw[hkj e];exact his.2
       rw[(alike_eq (by rw[hxp])).2 hxp]at hc2
       cases hc2
   refine RN 2 ha hs λa ha=>?_
   exact⟨j-(k+1),by omega,k+1,⟨rfl,by omega⟩,ha.keep [1,3,36,37,38],hs.sub⟩
  have hne:k≠j:=λe=>hg12 (by rw[hkj e,his.2])
  refine RN 3 ha hs λa ha=>?_
  have hrx:=All.rdBB (hs.pick (All bro xs)) hxx
  refine RN 5 ha hs λa ha=>?_
  exact⟨j-(k+1),by omega,k+1,⟨rfl,by omega⟩,ha.keep [1,3,36,37,38],hs.sub⟩
 have hne:k≠j:=λe=>hg4 (by rw[hkj e];exact his.1)
 refine RN 11 ha hs λa ha=>?_
 have hrx:=All.rdBB (hs.pick (All bro xs)) hxx
 refine RN 5 ha hs λa ha=>?_
 exact⟨j-(k+1),by omega,k+1,⟨rfl,by omega⟩,ha.keep [1,3,36,37,38],hs.sub⟩
theorem WT.add {frm:Int}{sn:Nat}(h:WT T)(h1:T.l.length<T.most)(h2:T.last+1<1099511627776)(hok:OkP p):WT (T.add frm p sn):=by
 obtain⟨a1,a2,a3,a4,a5⟩:=h
 refine⟨⟨a1.1,by simp[Tr.add];omega⟩,h2,a3,?_,λx hx=>?_⟩
 · simp only[Tr.add,List.map_append,List.map_cons,List.map_nil]
   refine List.pairwise_append.2 ⟨a4,by simp,λu hu v hv=>?_⟩
   obtain⟨x,hx,rfl⟩:=List.mem_map.1 hu
   have:=(a5 x hx).2.2.2
   simp at hv;omega
 · simp only[Tr.add]at hx ⊢
   rcases List.mem_append.1 hx with hx | hx
   · obtain⟨b1,b2,b3,b4⟩:=a5 x hx
     exact⟨b1,b2,b3,by omega⟩
   · simp at hx;subst hx
     exact⟨hok,Nat.zero_le _,by simp,Nat.le_refl _⟩
theorem add_ok {frm:Int}{ad2:Option Addr}{c2 i:Nat}{zs:List BBx}{px:Pic}(hs:St W w (Tree tq sq T::Store sq r A::L))(hr:∀ w',St W w' L→RdX w' ad2 zs)(hz:zs.map (·.2.2)=p)(hc:p.length≤c2)(hok:OkP p)
   (hx:A.pics[i]?=some px) (hb:A.n+1<1099511627776) (hl:T.last+1<1099511627776) (hno:∀ y∈T.l,¬ y.is frm p) (hm:T.l.length<T.most) (h0:0<p.length) :
   Calls Tryz.prog 306 #[pt tq,.int .i64 frm,.int .i64 px.id,.slice ad2 p.length c2] w λe w'=>e=.returned (.tuple #[.int .i64 ((T.last+1:Nat):Int),.bool true])∧St W w' (Tree tq sq (T.add frm p (A.last+1))::Store sq r (A.add px.g px.p)::L):=by
 obtain⟨ad,c,xs,h1,hw,hs⟩:=Tree.open hs
 have hxl:xs.length=T.l.length:=by rw[← h1,List.length_map]
 have hT:=hw.most
 have hp:∀ w',St W w' L→RdBB w' ad2 p.length p:=λw' h=>by
   have:=(hr w' h).bb
   rw[hz]at this
   rwa [show zs.length=p.length from by rw[← hz,List.length_map]]at this
 refine EN Tryz.func306 Tryz.ntmps306 rfl rfl λa ha=>?_
 refine DWO 5 [11] [0,1,2,3,4,5,8,9,10,3006,7,1011,12,13,14,15,16,17,18] ha hs λa w ha hs hH hC=>?_
 refine RH 3 ha hs hH hC λa ha=>?_
 replace ha:=ha.isF 16
 refine RH 12 ha hs hH hC λa ha=>?_
 rw[decide_eq_false (by omega)]at ha
 refine RH 4 ha hs hH hC λa ha=>?_
 rw[decide_eq_false (by omega)]at ha
 refine RN 9 ha hs λa ha=>?_
 refine wp_loop_ghost (λμ a w=>∃ k:Nat,(μ=T.l.length-k∧k≤T.l.length)∧Fr a 101 [(0,pt tq),(1,.int .i64 frm),(2,.int .i64 px.id),(3,.slice ad2 p.length c2),(36,.slice ad T.l.length c),(37,.int .i64 T.l.length),(38,.int .i64 k)]∧St W w (blk tq 236 [pt sq,.int .i64 T.most,.slice ad T.l.length c,.int .i64 T.last,.int .i64 T.epoch]::Sl 238 5 ad T.l.length c (rows brc xs)::All bro xs::Store sq r A::L)) (T.l.length) (⟨0,⟨by simp,by simp⟩,ha.keep [0,1,2,3,36,37,38],hs.sub⟩) ?_
 clear ha hs
 rintro μ a w ⟨k,⟨rfl,hk⟩,ha,hs⟩
 refine IF 3 ha hs (λhc1 a ha=>?_) λhc1 a ha=>?_
 ·
  refine RN 2 ha hs λa ha=>?_
  obtain⟨b',off',rfl,hrd⟩:=hs.slRd ad (by omega)
  obtain⟨⟨x,ax,cx⟩,hxx⟩:∃ y,xs[k]?=some y:=⟨_,List.getElem?_eq_getElem (by omega)⟩
  have hrk:=row_rd hrd hxx
  have hTx:T.l[k]?=some x:=by rw[← h1,List.getElem?_map,hxx];rfl
  have hxm:=List.mem_of_getElem? hTx
  have hox:=(hw.ok x hxm).1
  have hxno:=hno x hxm
  refine RN 1 ha hs λa ha=>?_
  refine SS ha (ex_loadN ha Tryz.underlying238 rfl Ty.t238 (hrk)) λa ha=>?_
  refine AL 0 ha hs λb11 a w ha hs=>?_
  refine SA 0 ha hs λa w ha hs=>?_
  refine BY 6 ha hs (λhg4 a ha=>?_) λhg4 a ha=>?_
  ·
   refine BY 8 ha hs (λhg12 a ha=>?_) λhg12 a ha=>?_
   ·
    refine RN 3 ha hs λa ha=>?_
    have hrx:=All.rdBB (hs.pick (All bro xs)) hxx
    refine CL 0 ha hs (alike_spec (u:=x.press) (v:=p) hs hrx.1 (hp _ hs.sub) hrx.2 hc (by have:=hox.1;omega)) λa w ha hs=>?_
    refine IF 1 ha hs (λhc2 a ha=>?_) λhc2 a ha=>?_
    ·
     (try simp only at hg12);exact absurd ⟨by omega,(alike_eq (by omega)).1 hc2⟩ hxno
    refine RN 2 ha hs λa ha=>?_
    exact⟨T.l.length-(k+1),by omega,k+1,⟨rfl,by omega⟩,ha.keep [0,1,2,3,36,37,38],hs.sub⟩
   refine RN 3 ha hs λa ha=>?_
   have hrx:=All.rdBB (hs.pick (All bro xs)) hxx
   refine RN 5 ha hs λa ha=>?_
   exact⟨T.l.length-(k+1),by omega,k+1,⟨rfl,by omega⟩,ha.keep [0,1,2,3,36,37,38],hs.sub⟩
  refine RN 11 ha hs λa ha=>?_
  have hrx:=All.rdBB (hs.pick (All bro xs)) hxx
  refine RN 5 ha hs λa ha=>?_
  exact⟨T.l.length-(k+1),by omega,k+1,⟨rfl,by omega⟩,ha.keep [0,1,2,3,36,37,38],hs.sub⟩
 refine CL 6 ha hs (snap_fork (hs.pick (Store sq r A)) hx hb) λa w ha hs=>?_
 refine RN 9 ha hs λa ha=>?_
 replace ha:=ha.isF 71
 refine ST 9 ha hs (λa w ha hs=>?_)
 rw[show ((T.last:Int)+1)=((T.last+1:Nat):Int) from rfl]at hs
 refine DWC 1 (λw0 w'=>w'.cell? ⟨tq,2,none⟩=some (.slice ad T.l.length c)∧w'.cell? ⟨tq,3,none⟩=some (.int .i64 ((T.last+1:Nat):Int))) [8,11,13,14] [0,1,2,3,5,6,7,9,10,12,3004,3008,1011,1013,1014,1015,16,17,1018] ha hs λa w ha hs hH=>?_
 have hC:=hH.at w ⟨hs.rd1 rfl,hs.rd1 rfl⟩
 refine RH 10 ha hs hH hC λa ha=>?_
 refine QH ha (λw hc=>ld1 ha (hc.1)) hC λa ha=>?_
 refine QH ha (λw hc=>ld1 ha (hc.2)) hC λa ha=>?_
 refine RH 0 ha hs hH hC λa ha=>?_
 refine CL2 0 ha hs (clone_spec hs (λw' h=>hr w' h.sub) (by rw[← hz,List.length_map]) (by rw[hz];exact hok)) λad4 c4 a w ha hs=>?_
 replace hC:=hH.at w ⟨hs.rd1 rfl,hs.rd1 rfl⟩
 refine RH 1 ha hs hH hC λa ha=>?_
 refine st_buildSlice ha rfl hs Tryz.underlying168 Ty.t238 rfl rfl rfl rfl (by decide) (by decide) λb93 a w ha hs ho=>?_
 clear ho
 replace hC:=hH.at w ⟨hs.rd1 rfl,hs.rd1 rfl⟩
 refine RH 0 ha hs hH hC λa ha=>?_
 refine st_append ha rfl hs Tryz.underlying168 Ty.t238 rfl rfl hs.rdAll rfl (by simp[Value.oneCell']) (by decide) (by decide) (by omega) λad94 c94 a w ha hs=>?_
 refine ST 2 ha hs (λa w ha hs=>?_)
 refine RT 7 ha hs ?_
 refine⟨rfl,?_⟩
 rw[hz]at hs
 have h8:=St.allPush (f:=bro) (l:=xs) (x:=(⟨T.last+1,frm,p,0,A.last+1⟩,ad4,c4)) (hs.sub (M:=OwnBB ad4 p.length c4 p::All bro xs::blk tq 236 [pt sq,.int .i64 T.most,.slice ad94 (T.l.length+1) c94,.int .i64 ((T.last+1:Nat):Int),.int .i64 T.epoch]::Sl 238 5 ad94 (T.l.length+1) c94 (rows brc xs++[[.int .i64 ((T.last+1:Nat):Int),.int .i64 frm,.slice ad4 p.length c4,.int .i64 0,.int .i64 ((A.last+1:Nat):Int)]].flatten)::Store sq r (A.add px.g px.p)::L))
 have h9:St W w (All bro (xs++[(⟨T.last+1,frm,p,0,A.last+1⟩,ad4,c4)])::blk tq 236 [pt sq,.int .i64 T.most,.slice ad94 (T.l.length+1) c94,.int .i64 ((T.last+1:Nat):Int),.int .i64 T.epoch]::Sl 238 5 ad94 (T.l.length+1) c94 (rows brc (xs++[(⟨T.last+1,frm,p,0,A.last+1⟩,ad4,c4)]))::Store sq r (A.add px.g px.p)::L):=by
   rw[← rows_snocC];exact h8
 exact Tree.close (T:=T.add frm p (A.last+1)) (ad:=ad94) (c:=c94) (xs:=xs++[(⟨T.last+1,frm,p,0,A.last+1⟩,ad4,c4)]) (n:=T.l.length+1) (most:=T.most) (last:=T.last+1) (epoch:=T.epoch) h9 (by simp[Tr.add,h1]) (hw.add hm hl hok) rfl (by simp[Tr.add]) rfl rfl
def Tr.pub (T:Tr)(k:Nat)(x:Br)(done snap:Nat):Tr:={ T with l:=T.l.set k { x with done:=done,snap:=snap } }
theorem WT.pub {d sn:Nat}(h:WT T)(hx:T.l[k]?=some x)(hd:d≤x.press.length):WT (T.pub k x d sn):=by
 obtain⟨a1,a2,a3,a4,a5⟩:=h
 obtain⟨hi,rfl⟩:=List.getElem?_eq_some_iff.1 hx
 refine⟨⟨a1.1,by simp[Tr.pub];exact a1.2⟩,a2,a3,?_,λy hy=>?_⟩
 · have : (T.l.set k { T.l[k] with done := d, snap := sn }).map (·.id) = T.l.map (·.id) := by
     apply List.ext_getElem?
     intro j
     simp only[List.getElem?_map,List.getElem?_set]
     by_cases hj:k=j
     · subst hj;simp[hi]
     · rw[if_neg hj]
   simp only[Tr.pub];rw[this];exact a4
 · simp only[Tr.pub]at hy ⊢
   rcases List.mem_or_eq_of_mem_set hy with hy | rfl
   · exact a5 y hy
   · obtain⟨b1,b2,b3,b4⟩:=a5 _ (List.getElem_mem hi)
     exact⟨b1,hd,b3,b4⟩
theorem WT.unique (hw:WT T){j:Nat}{y:Br}(hx:T.l[k]?=some x)(hy:T.l[j]?=some y)(he:y.id=x.id):j=k:=by
 have hp:=List.pairwise_iff_getElem.1 hw.ids
 obtain⟨hj,rfl⟩:=List.getElem?_eq_some_iff.1 hy
 obtain⟨hk,rfl⟩:=List.getElem?_eq_some_iff.1 hx
 rcases Nat.lt_trichotomy j k with hl | hl | hl
 · have:=hp j k (by simpa using hj) (by simpa using hk) hl
   simp at this;omega
 · exact hl
 · have:=hp k j (by simpa using hk) (by simpa using hj) hl
   simp at this;omega
theorem find_at (hs:St W w (Tree tq sq T::L))(hx:T.l[k]?=some x) :
   Calls Tryz.prog 183 #[pt tq,.int .i64 x.id] w λe w'=>e=.returned (.int .i64 k)∧St W w' (Tree tq sq T::L):=by
 refine (tree_find (id:=(x.id:Int)) hs).mono λe w' ⟨r,h1,h2,h3⟩=>⟨?_,h3⟩
 rcases h2 with ⟨_,h4⟩ | ⟨j,y,h4,h5,h6⟩
 · exact absurd rfl (h4 x (List.mem_of_getElem? hx))
 · rw[h1,h4,(Tree.wt h3).unique hx h5 (by omega)]
theorem publish_no {i:Nat}{px:Pic}{d sn:Int}(hs:St W w (Tree tq sq T::Store sq r A::L))(hx:T.l[k]?=some x)(hno:d≤x.done∨(x.press.length:Int)<d∨∀ y∈A.pics,(y.id:Int)≠sn) :
   Calls Tryz.prog 186 #[pt tq,.int .i64 x.id,.int .i64 d,.int .i64 sn] w λe w'=>e=.returned (.bool false)∧St W w' (Tree tq sq T::Store sq r A::L):=by
 have hkl:=(List.getElem?_eq_some_iff.1 hx).1
 refine EN Tryz.func186 Tryz.ntmps186 rfl rfl λa ha=>?_
 refine CL 5 ha hs (find_at hs hx) λa w ha hs=>?_
 refine RN 3 ha hs λa ha=>?_
 obtain⟨ad,c,xs,h1,hw,hs⟩:=Tree.open (hs.tree tq)
 obtain⟨ax,cx,hxx⟩:=bx_at h1 hx
 obtain⟨b',off',rfl,hrd⟩:=hs.tail.slRd ad (by omega)
 have hrk:=row_rd hrd hxx
 have hdc:=hrk 3 _ rfl
 have hpc:=hrk 2 _ rfl
 refine RN 3 ha hs λa ha=>?_
 rw[decide_eq_false (by omega)]at ha
 refine RN 8 ha hs λa ha=>?_
 refine st_set ha (wgT ha rfl (s:=15)) (ld1 ha (hdc)) rfl λa ha=>?_
 refine BY 3 ha hs (λhg14 a ha=>?_) λhg14 a ha=>?_
 ·
  skip
  refine RT 24 ha hs ?_
  exact⟨rfl,Tree.same (L':=Store sq r A::L) (some ⟨b',off',none⟩) c xs hs h1 hw⟩
 refine RN 8 ha hs λa ha=>?_
 refine st_set ha (wgT ha rfl (s:=27)) (ld1 ha (hpc)) rfl λa ha=>?_
 refine BY 4 ha hs (λhg27 a ha=>?_) λhg27 a ha=>?_
 ·
  refine RT 11 ha hs ?_
  exact⟨rfl,Tree.same (L':=Store sq r A::L) (some ⟨b',off',none⟩) c xs hs h1 hw⟩
 refine CL 5 ha hs (snap_refs_no (hs.pick (Store sq r A)) (by rcases hno with h | h | h;omega;omega;exact h)) λa w ha hs=>?_
 refine RN 2 ha hs λa ha=>?_
 replace ha:=ha.isT 48
 refine RT 3 ha hs ?_
 exact⟨rfl,Tree.same (L':=Store sq r A::L) (some ⟨b',off',none⟩) c xs hs h1 hw⟩
end
end
end Go.Proofs.YteoldcfapaiobaaGreat
