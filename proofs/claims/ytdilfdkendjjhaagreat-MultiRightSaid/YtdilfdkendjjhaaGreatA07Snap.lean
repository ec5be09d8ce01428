/- The walks of package snap. -/
import Derived.Test.YtdilfdkendjjhaaGreatA06SnapP
namespace Go.Proofs.YtdilfdkendjjhaaGreat
open Go.RowKit
set_option linter.unusedVariables false
set_option linter.unusedSimpArgs false
set_option maxRecDepth 10000
set_option synthInstance.maxSize 4000
set_option synthInstance.maxHeartbeats 400000
section
def ownP (x:Pic×Nat):SP:=blk x.2 191 x.1.cells
def kvs (xs:List (Pic×Nat)):List (Int×Value):=xs.map λx=>((x.1.id:Int),Value.pointer (some ⟨x.2,0,none⟩))
def Store (q r:Nat)(A:Sn):SP:=λh=>∃ b m ps xs,(xs.map (·.1)=A.pics∧WF A∧Rel A ps) ∧
 sepL [blk q 174 [pt r,.map (some m),.int .i64 A.last],mp m (kvs xs),Room r b ps,All ownP xs] h
section
variable {W w:World}{L L' R:List SP}{q r b m i pb:Nat}{A:Sn}{ps:List Pg}{xs:List (Pic×Nat)}{x y:Pic}
theorem Store.open (hs:St W w (Store q r A::L)):∃ b m ps xs,xs.map (·.1)=A.pics∧WF A∧Rel A ps ∧
   St W w (blk q 174 [pt r,.map (some m),.int .i64 A.last]::mp m (kvs xs)::Room r b ps::All ownP xs::L):=by
 obtain⟨⟨b,m,ps,xs⟩,⟨h1,h2,h3⟩,h4⟩:=hs.exi (ι:=Nat×Nat×List Pg×List (Pic×Nat)) (p:=λi=>i.2.2.2.map (·.1)=A.pics∧WF A∧Rel A i.2.2.1)
   (B:=λi h=>sepL [blk q 174 [pt r,.map (some i.2.1),.int .i64 A.last],mp i.2.1 (kvs i.2.2.2),Room r i.1 i.2.2.1,All ownP i.2.2.2] h)
   (λh ⟨b,m,ps,xs,h1,h2⟩=>⟨(b,m,ps,xs),h1,h2⟩)
 exact⟨b,m,ps,xs,h1,h2,h3,h4.open λ_ h=>h⟩
theorem Store.close {last:Nat}(hs:St W w L)[k:Arr L (blk q 174 [pt r,.map (some m),.int .i64 last]::mp m (kvs xs)::Room r b ps::All ownP xs::L') R]
   (h1:xs.map (·.1)=A.pics) (h2:WF A) (h3:Rel A ps) (hl:A.last=last:=by rfl):St W w (Store q r A::L'):=by
 subst hl
 exact St.shut (M:=[_,_,_,_]) (hs.sub (M:=blk q 174 [pt r,.map (some m),.int .i64 A.last]::mp m (kvs xs)::Room r b ps::All ownP xs::L')) (λ_ x=>⟨b,m,ps,xs,⟨h1,h2,h3⟩,x⟩)
theorem own_at (h1:xs.map (·.1)=A.pics)(hx:A.pics[i]?=some x):∃ pb,xs[i]?=some (x,pb):=by
 rw[← h1,List.getElem?_map]at hx
 obtain⟨⟨y,pb⟩,h2,rfl⟩:=Option.map_eq_some_iff.1 hx
 exact⟨pb,h2⟩
theorem St.picOut (hs:St W w L)(hx:xs[i]?=some (x,pb))[k:Pick L (All ownP xs) R]:St W w (blk pb 191 x.cells::All ownP (xs.eraseIdx i)::R):=by
 obtain⟨hi,he⟩:=List.getElem?_eq_some_iff.1 hx
 have:=(hs.perm k.perm).allOut hi
 rw[he]at this
 exact this
theorem kvs_set (hx:xs[i]?=some (x,pb))(he:y.id=x.id):kvs (xs.set i (y,pb))=kvs xs:=by
 have hi:=(List.getElem?_eq_some_iff.1 hx).1
 apply List.ext_getElem?
 intro j
 simp only[kvs,List.getElem?_map,List.getElem?_set]
 by_cases hj:i=j
 · subst hj;rw[if_pos rfl,if_pos hi,hx];simp[he]
 · rw[if_neg hj]
theorem Store.closeAt {B:Sn}{last:Nat}(hs:St W w L)[k:Arr L (blk q 174 [pt r,.map (some m),.int .i64 last]::mp m (kvs xs)::Room r b ps::blk pb 191 y.cells::All ownP (xs.eraseIdx i)::L') R]
   (hx:xs[i]?=some (x,pb)) (h1:xs.map (·.1)=A.pics) (he:y.id=x.id) (hB:B.pics=A.pics.set i y) (h2:WF B) (h3:Rel B ps) (hl:B.last=last:=by rfl):St W w (Store q r B::L'):=by
 subst hl
 obtain⟨hi,_⟩:=List.getElem?_eq_some_iff.1 hx
 have h0:=hs.sub (M:=blk q 174 [pt r,.map (some m),.int .i64 B.last]::mp m (kvs xs)::Room r b ps::blk pb 191 y.cells::All ownP (xs.eraseIdx i)::L')
 have h4:=h0.sub (M:=blk pb 191 y.cells::All ownP (xs.eraseIdx i)::blk q 174 [pt r,.map (some m),.int .i64 B.last]::mp m (kvs xs)::Room r b ps::L')
 have h5:=St.allPut (f:=ownP) (x:=(y,pb)) hi h4
 rw[← kvs_set (y:=y) hx he]at h5
 exact Store.close (b:=b) (m:=m) (xs:=xs.set i (y,pb)) h5 (by rw[List.map_set,h1,hB]) h2 h3
theorem set_same (hx:A.pics[i]?=some x):A.pics=A.pics.set i x:=by
 obtain⟨hi,rfl⟩:=List.getElem?_eq_some_iff.1 hx
 rw[List.set_getElem_self]
theorem findAt (h1:xs.map (·.1)=A.pics)(hw:WF A)(hx:xs[i]?=some (x,pb)):findP (kvs xs) (x.id:Int) 0=some (i,pt pb):=by
 have hA:∀ (j:Nat) (z:Pic×Nat),xs[j]?=some z→A.pics[j]?=some z.1:=λj z hz=>by rw[← h1,List.getElem?_map,hz];rfl
 have:=findP_some (kvs:=kvs xs) (k:=(x.id:Int)) (v:=pt pb) (j:=i) 0 (by rw[kvs,List.getElem?_map,hx];rfl) (λj hj p hp=>by
   rw[kvs,List.getElem?_map]at hp
   obtain⟨z,hz,rfl⟩:=Option.map_eq_some_iff.1 hp
   intro e
   simp at e
   have:=hw.ids (hA j z hz) (hA i _ hx) (Int.ofNat.inj e)
   omega)
 rwa [Nat.zero_add]at this
theorem snap_at {last:Nat}(hs:St W w (blk q 174 [pt r,.map (some m),.int .i64 last]::mp m (kvs xs)::L))(h1:xs.map (·.1)=A.pics)(hw:WF A)(hx:xs[i]?=some (x,pb)) :
   Calls Tryz.prog 137 #[pt q,.int .i64 x.id] w λe w'=>e=.returned (pt pb) ∧
     St W w' (blk q 174 [pt r,.map (some m),.int .i64 last]::mp m (kvs xs)::L):=by
 have hf:=findAt h1 hw hx
 refine EN Tryz.func137 Tryz.ntmps137 rfl rfl λa ha=>?_
 refine RN 6 ha hs λa ha=>?_
 replace ha:=ha.isF 6
 refine RN 7 ha hs λa ha=>?_
 refine SS ha (ex_lookup ha Tryz.underlying171 Tryz.underlying43 Ty.t172 hs (v:=pt pb) (by rw[hf];rfl)) λa ha=>?_
 refine RT 1 ha hs ?_
 exact⟨rfl,hs⟩
theorem snap_at_no {last:Nat}{X:Int}(hs:St W w (blk q 174 [pt r,.map (some m),.int .i64 last]::mp m (kvs xs)::L))(h1:xs.map (·.1)=A.pics)(hn:∀ y∈A.pics,(y.id:Int)≠X) :
   Calls Tryz.prog 137 #[pt q,.int .i64 X] w λe w'=>e=.returned (.pointer none) ∧
     St W w' (blk q 174 [pt r,.map (some m),.int .i64 last]::mp m (kvs xs)::L):=by
 have hf:findP (kvs xs) X 0=none:=findP_none (λp hp=>by
   obtain⟨z,hz,rfl⟩:=List.mem_map.1 hp
   exact hn z.1 (by rw[← h1];exact List.mem_map.2 ⟨z,hz,rfl⟩)) 0
 refine EN Tryz.func137 Tryz.ntmps137 rfl rfl λa ha=>?_
 refine RN 6 ha hs λa ha=>?_
 replace ha:=ha.isF 6
 refine RN 7 ha hs λa ha=>?_
 refine SS ha (ex_lookup ha Tryz.underlying171 Tryz.underlying43 Ty.t172 hs (v:=.pointer none) (by rw[hf];rfl)) λa ha=>?_
 refine RT 1 ha hs ?_
 exact⟨rfl,hs⟩
theorem snap_refs (hs:St W w (Store q r A::L))(hx:A.pics[i]?=some x) :
   Calls Tryz.prog 236 #[pt q,.int .i64 x.id] w λe w'=>e=.returned (.int .i64 x.refs)∧St W w' (Store q r A::L):=by
 obtain⟨b,m,ps,xs,h1,hw,hr,hs⟩:=Store.open hs
 obtain⟨pb,hxs⟩:=own_at h1 hx
 refine EN Tryz.func236 Tryz.ntmps236 rfl rfl λa ha=>?_
 refine CL 5 ha hs (snap_at hs h1 hw hxs) λa w ha hs=>?_
 refine RN 5 ha hs λa ha=>?_
 replace ha:=ha.isF 10
 refine RN 2 ha hs λa ha=>?_
 replace hs:=hs.picOut hxs
 refine RN 3 ha hs λa ha=>?_
 refine SS ha (ld1 ha (hs.rd1 Pic.ref)) λa ha=>?_
 refine RT 1 ha hs ?_
 exact⟨rfl,Store.closeAt (b:=b) (m:=m) (ps:=ps) (pb:=pb) (y:=x) hs hxs h1 rfl (set_same hx) hw hr⟩
theorem snap_refs_no {X:Int}(hs:St W w (Store q r A::L))(hn:∀ y∈A.pics,(y.id:Int)≠X) :
   Calls Tryz.prog 236 #[pt q,.int .i64 X] w λe w'=>e=.returned (.int .i64 0)∧St W w' (Store q r A::L):=by
 obtain⟨b,m,ps,xs,h1,hw,hr,hs⟩:=Store.open hs
 refine EN Tryz.func236 Tryz.ntmps236 rfl rfl λa ha=>?_
 refine CL 5 ha hs (snap_at_no hs h1 hn) λa w ha hs=>?_
 refine RN 5 ha hs λa ha=>?_
 replace ha:=ha.isT 10
 refine RT 3 ha hs ?_
 exact⟨rfl,Store.close (b:=b) (m:=m) hs h1 hw hr⟩
theorem wrap8 {c:Nat}(h:c<4096):IntKind.i64.wrap ((c:Int).tdiv 8)=(c:Int).tdiv 8:=by
 rw[show (c:Int).tdiv 8=((c/8:Nat):Int) from quoN c 8];exact wrap_in (by omega) (by omega)
theorem snap_get {c:Nat}(hs:St W w (Store q r A::L))(hx:A.pics[i]?=some x)(hc:c<32) :
   Calls Tryz.prog 138 #[pt q,.int .i64 x.id,.int .i64 c] w λe w'=>e=.returned (.tuple #[.int .i32 (x.g c),.bool true])∧St W w' (Store q r A::L):=by
 obtain⟨b,m,ps,xs,h1,hw,hr,hs⟩:=Store.open hs
 obtain⟨pb,hxs⟩:=own_at h1 hx
 obtain⟨hp1,hp2,hp3⟩:=hr.live (List.mem_of_getElem? hx) (k:=c/8) (by omega)
 refine EN Tryz.func138 Tryz.ntmps138 rfl rfl λa ha=>?_
 refine CL 6 ha hs (snap_at hs h1 hw hxs) λa w ha hs=>?_
 refine RN 6 ha hs λa ha=>?_
 replace ha:=ha.isF 14
 refine RN 4 ha hs λa ha=>?_
 rw[decide_eq_false (by omega)]at ha
 refine RN 3 ha hs λa ha=>?_
 rw[decide_eq_false (by omega)]at ha
 refine RN 2 ha hs λa ha=>?_
 replace hs:=hs.picOut hxs
 refine DWO 0 [10] [0,1,2,4,5,6,7,8,9,11,12,3003,1010,1013,14,15,16,17] ha hs λa w ha hs hH hC=>?_
 refine RH 5 ha hs hH hC λa ha=>?_
 refine QP ha (λw=>ex_quo ha (by decide) (wrap8 (by omega))) λa ha=>?_
 rw[show (c:Int).tdiv 8=((c/8:Nat):Int) from quoN c 8]at ha
 refine RH 4 ha hs hH hC λa ha=>?_
 refine QP ha (λw=>ex_rem ha (by decide)) λa ha=>?_
 rw[show (c:Int).tmod 8=((c%8:Nat):Int) from remN c 8]at ha
 refine RH 1 ha hs hH hC λa ha=>?_
 refine SS ha (ld1 ha (hs.rd1 (Pic.at (by omega)))) λa ha=>?_
 refine RH 0 ha hs hH hC λa ha=>?_
 refine CL 0 ha hs (page_get (hs.pick (Room r b ps)) hp1 hp2 (Nat.mod_lt c (by decide))) λa w ha hs=>?_
 refine RN 4 ha hs λa ha=>?_
 refine RT 0 ha hs ?_
 exact⟨by rw[hp3 _ (Nat.mod_lt c (by decide)),show 8*(c/8)+c%8=c from by omega],Store.closeAt (b:=b) (m:=m) (ps:=ps) (pb:=pb) (y:=x) hs hxs h1 rfl (set_same hx) hw hr⟩
theorem kvs_new {A:Sn}(h1:xs.map (·.1)=A.pics)(hw:WF A):∀ p∈kvs xs,p.1≠((A.last+1:Nat):Int):=by
 intro p hp
 obtain⟨z,hz,rfl⟩:=List.mem_map.1 hp
 have:=(hw.pic z.1 (by rw[← h1];exact List.mem_map.2 ⟨z,hz,rfl⟩)).2.1
 simp only;omega
theorem i64wf {i:Int}(h1:-9223372036854775808≤i)(h2:i≤9223372036854775807):(Lit.int .i64 i).wf=true:=(Lit.wf_int_iff .i64 i).2 ⟨h1,h2⟩
theorem snap_add {last:Nat}(hs:St W w (blk q 174 [pt r,.map (some m),.int .i64 last]::mp m (kvs xs)::L))(hl:last<1099511627776)(hn:∀ p∈kvs xs,p.1≠((last+1:Nat):Int)) :
   Calls Tryz.prog 119 #[pt q,.agg (Pic.cells x).toArray] w λe w'=>∃ pb,e=.returned (.int .i64 ((last+1:Nat):Int)) ∧
     St W w' (blk q 174 [pt r,.map (some m),.int .i64 ((last+1:Nat):Int)]::mp m (kvs xs++[(((last+1:Nat):Int),pt pb)])::blk pb 191 (Pic.cells { x with refs:=1 })::L):=by
 refine EN Tryz.func119 Tryz.ntmps119 rfl rfl λa ha=>?_
 refine BX 1 ha hs λb3 a w ha hs=>?_
 refine RN 7 ha hs λa ha=>?_
 rw[show ((last:Int)+1)=((last+1:Nat):Int) from rfl]at ha
 refine ST 2 ha hs (λa w ha hs=>?_)
 refine ST 2 ha hs (λa w ha hs=>?_) (hlt:=(by rw[Pic.len];decide))
 rw[show (Value.int IntKind.i64 1)=.int .i64 ((1:Nat):Int) from rfl,Pic.setref]at hs
 refine DWO 1 [7] [0,1,2,4,5,6,3003,1007,1008] ha hs λa w ha hs hH hC=>?_
 refine RH 8 ha hs hH hC λa ha=>?_
 refine st_mapUpdate ha rfl hs Tryz.underlying171 Tryz.underlying43 (i64wf (by omega) (by omega)) hn λa w ha hs=>?_
 refine RT 6 ha hs ?_
 exact⟨b3,rfl,hs.sub⟩
theorem St.picRd {e:Nat}(hs:St W w L)(pb:Nat)[k:Blk L pb e x.cells R]:Rd w pb 0 (ints .i64 4 (λk=>(x.p k:Int)+1)):=by
 have:=hs.rdN (b:=pb) (off:=0) (cs:=x.cells) 4 (sc:=SubC.any)
 rwa [List.drop_zero,Pic.cells,List.take_left' (ints_len _ _ _)]at this
theorem snap_fork (hs:St W w (Store q r A::L))(hx:A.pics[i]?=some x)(hb:A.n+1<1099511627776) :
   Calls Tryz.prog 189 #[pt q,.int .i64 x.id] w λe w'=>e=.returned (.tuple #[.int .i64 ((A.last+1:Nat):Int),.bool true])∧St W w' (Store q r (A.add x.g x.p)::L):=by
 obtain⟨b,m,ps,xs,h1,hw,hr,hs⟩:=Store.open hs
 obtain⟨pb,hxs⟩:=own_at h1 hx
 have hxm:=List.mem_of_getElem? hx
 have hlast:=hw.last
 have hrA:=hr.add hxm
 have hwA:=hw.add hb x.g x.p
 have hok:=hrA.ok hwA
 refine EN Tryz.func189 Tryz.ntmps189 rfl rfl λa ha=>?_
 refine CL 6 ha hs (snap_at hs h1 hw hxs) λa w ha hs=>?_
 refine RN 5 ha hs λa ha=>?_
 replace ha:=ha.isF 13
 refine RN 3 ha hs λa ha=>?_
 replace hs:=hs.picOut hxs
 refine RN 3 ha hs λa ha=>?_
 refine SS ha (ex_loadN ha Tryz.underlying189 rfl Ty.t189 (hs.picRd pb)) λa ha=>?_
 refine RN 1 ha hs λa ha=>?_
 refine wp_loop_ghost (λμ a w=>∃ k:Nat,(μ=4-k∧k≤4)∧Fr a 33 [(0,pt q),(6,pt pb),(17,.agg (ints .i64 4 (λk=>(x.p k:Int)+1)).toArray),(18,.int .i64 k)]∧St W w (Room r b (addU ps x k)::blk pb 191 x.cells::All ownP (xs.eraseIdx i)::blk q 174 [pt r,.map (some m),.int .i64 A.last]::mp m (kvs xs)::L)) (4) (⟨0,⟨by simp,by simp⟩,ha.keep [0,6,17,18],by rw[addU_zero];exact hs.sub⟩) ?_
 clear ha hs
 rintro μ a w ⟨k,⟨rfl,hk⟩,ha,hs⟩
 have haul:=addU_len ps x k
 refine IF 3 ha hs (λhc1 a ha=>?_) λhc1 a ha=>?_
 ·
  refine RN 2 ha hs λa ha=>?_
  refine SS ha (ex_index1 ha Tryz.underlying189 Tryz.underlying3 rfl Ty.t3 (by omega) (ints_get _ (by omega))) λa ha=>?_
  refine RN 1 ha hs λa ha=>?_
  obtain⟨hp1,hp2,hp3⟩:=hr.live hxm (k:=k) (by omega)
  have hp4:x.p k<(addU ps x k).length:=by omega
  have hp5:=addU_succ hp4
  have hp6:(addU ps x k)[x.p k].refs+1<4611686018427387904:=by
    have h3:=cntU_mono x (x.p k) (m:=k+1) (n:=4) (by omega)
    have h4:=hok.2 _ (List.getElem_mem (show x.p k<(addU ps x 4).length by rw[addU_len];exact hp1))
    rw[addU_at]at h4 ⊢
    rw[cntU_succ,if_pos rfl]at h3
    simp only at h4 ⊢
    omega
  have hp7:0<(addU ps x k)[x.p k].refs:=by rw[addU_at];simp only;omega
  refine CL 5 ha hs (page_hold (hs.pick (Room r b (addU ps x k))) hp4 hp7 hp6) λa w ha hs=>?_
  rw[hp5]at hs
  refine RN 2 ha hs λa ha=>?_
  exact⟨4-(k+1),by omega,k+1,⟨rfl,by omega⟩,ha.keep [0,6,17,18],hs.sub⟩
 obtain rfl:k=4:=by omega
 refine CL1 5 ha hs (snap_add (q:=q) (r:=r) (m:=m) (last:=A.last) (L:=Room r b (addU ps x 4)::blk pb 191 x.cells::All ownP (xs.eraseIdx i)::L) hs.sub (by have:=hw.bound;omega) (kvs_new h1 hw)) λpb2 a w ha hs=>?_
 refine RT 2 ha hs ?_
 refine⟨rfl,?_⟩
 have hi:=(List.getElem?_eq_some_iff.1 hxs).1
 have h5:=St.allPut (f:=ownP) (x:=(x,pb)) hi (hs.sub (M:=blk pb 191 x.cells::All ownP (xs.eraseIdx i)::blk pb2 191 (Pic.cells { x with refs:=1 })::blk q 174 [pt r,.map (some m),.int .i64 ((A.last+1:Nat):Int)]::mp m (kvs xs++[(((A.last+1:Nat):Int),pt pb2)])::Room r b (addU ps x 4)::L))
 rw[show xs.set i (x,pb)=xs from by
   have:=List.getElem?_eq_some_iff.1 hxs
   rw[← this.2,List.set_getElem_self]]at h5
 have h6:=St.allPush (f:=ownP) (x:=(⟨A.last+1,1,x.g,x.p⟩,pb2)) (h5.perm (List.Perm.swap _ _ _))
 rw[show kvs xs++[(((A.last+1:Nat):Int),Value.pointer (some ⟨pb2,0,none⟩))]=kvs (xs++[(⟨A.last+1,1,x.g,x.p⟩,pb2)]) from by simp[kvs]]at h6
 exact Store.close (last:=A.last+1) (b:=b) (m:=m) (xs:=xs++[(⟨A.last+1,1,x.g,x.p⟩,pb2)]) h6 (by simp[Sn.add,h1]) hwA hrA
theorem snap_drop_more (hs:St W w (Store q r A::L))(hx:A.pics[i]?=some x)(h2:x.refs≠1) :
   Calls Tryz.prog 180 #[pt q,.int .i64 x.id] w λe w'=>e=.returned (.bool true)∧St W w' (Store q r (A.drop i x)::L):=by
 obtain⟨b,m,ps,xs,h1,hw,hr,hs⟩:=Store.open hs
 obtain⟨pb,hxs⟩:=own_at h1 hx
 have hxr:=hw.pic x (List.mem_of_getElem? hx)
 have hA:A.drop i x={ A with n:=A.n,pics:=A.pics.set i { x with refs:=x.refs-1 } }:=by rw[Sn.drop,if_neg h2]
 have hbd:=hw.bound
 refine EN Tryz.func180 Tryz.ntmps180 rfl rfl λa ha=>?_
 refine CL 5 ha hs (snap_at hs h1 hw hxs) λa w ha hs=>?_
 refine RN 5 ha hs λa ha=>?_
 replace ha:=ha.isF 12
 refine RN 3 ha hs λa ha=>?_
 replace hs:=hs.picOut hxs
 refine RN 3 ha hs λa ha=>?_
 refine SS ha (ld1 ha (hs.rd1 Pic.ref)) λa ha=>?_
 refine ST 3 ha hs (λa w ha hs=>?_) (hlt:=(by rw[Pic.len];decide))
 rw[show ((x.refs:Int)-1)=((x.refs-1:Nat):Int) from by omega,Pic.setref]at hs
 refine RN 4 ha hs λa ha=>?_
 refine SS ha (ld1 ha (hs.rd1 Pic.ref)) λa ha=>?_
 refine RN 1 ha hs λa ha=>?_
 rw[decide_eq_true (by simp;omega)]at ha
 refine RT 3 ha hs ?_
 exact⟨rfl,Store.closeAt (last:=A.last) (b:=b) (m:=m) (ps:=ps) (pb:=pb) (y:={ x with refs:=x.refs-1 }) (B:=A.drop i x) hs hxs h1 rfl (by rw[hA]) (by rw[hA];exact hw.set hbd (Nat.le_refl _) hx rfl (by simp only;omega)) (by rw[hA];exact hr.refsOnly hx)⟩
theorem snap_drop_last (hs:St W w (Store q r A::L))(hx:A.pics[i]?=some x)(h2:x.refs=1) :
   Calls Tryz.prog 180 #[pt q,.int .i64 x.id] w λe w'=>e=.returned (.bool true)∧St W w' (Store q r (A.drop i x)::L):=by
 obtain⟨b,m,ps,xs,h1,hw,hr,hs⟩:=Store.open hs
 obtain⟨pb,hxs⟩:=own_at h1 hx
 have hxm:=List.mem_of_getElem? hx
 have hA:A.drop i x={ A with pics:=A.pics.eraseIdx i }:=by rw[Sn.drop,if_pos h2]
 refine EN Tryz.func180 Tryz.ntmps180 rfl rfl λa ha=>?_
 refine CL 5 ha hs (snap_at hs h1 hw hxs) λa w ha hs=>?_
 refine RN 5 ha hs λa ha=>?_
 replace ha:=ha.isF 12
 refine RN 3 ha hs λa ha=>?_
 replace hs:=hs.picOut hxs
 refine RN 3 ha hs λa ha=>?_
 refine SS ha (ld1 ha (hs.rd1 Pic.ref)) λa ha=>?_
 refine ST 3 ha hs (λa w ha hs=>?_) (hlt:=(by rw[Pic.len];decide))
 rw[show ((x.refs:Int)-1)=((x.refs-1:Nat):Int) from by omega,Pic.setref]at hs
 refine RN 4 ha hs λa ha=>?_
 refine SS ha (ld1 ha (hs.rd1 Pic.ref)) λa ha=>?_
 refine RN 1 ha hs λa ha=>?_
 rw[decide_eq_false (by simp;omega)]at ha
 refine RN 6 ha hs λa ha=>?_
 refine SS ha (ex_loadN ha Tryz.underlying189 rfl Ty.t189 (hs.picRd (x:={ x with refs:=x.refs-1 }) pb)) λa ha=>?_
 refine RN 1 ha hs λa ha=>?_
 refine wp_loop_ghost (λμ a w=>∃ k:Nat,(μ=4-k∧k≤4)∧Fr a 44 [(0,pt q),(1,.int .i64 x.id),(28,.agg (ints .i64 4 (λk=>(x.p k:Int)+1)).toArray),(29,.int .i64 k)]∧St W w (Room r b (subU ps x k)::All ownP (xs.eraseIdx i)::blk q 174 [pt r,.map (some m),.int .i64 A.last]::mp m (kvs xs)::L)) (4) (⟨0,⟨by simp,by simp⟩,ha.keep [0,1,28,29],by rw[subU_zero];exact hs.sub⟩) ?_
 clear ha hs
 rintro μ a w ⟨k,⟨rfl,hk⟩,ha,hs⟩
 have haul:=subU_len ps x k
 refine IF 3 ha hs (λhc2 a ha=>?_) λhc2 a ha=>?_
 ·
  refine RN 2 ha hs λa ha=>?_
  refine SS ha (ex_index1 ha Tryz.underlying189 Tryz.underlying3 rfl Ty.t3 (by omega) (ints_get _ (by omega))) λa ha=>?_
  refine RN 1 ha hs λa ha=>?_
  obtain⟨hp1,hp2,hp3⟩:=hr.live hxm (k:=k) (by omega)
  have hp4:x.p k<(subU ps x k).length:=by omega
  have hp5:=subU_succ hp4
  have hp7:0<(subU ps x k)[x.p k].refs:=by
    have h3:=cntU_mono x (x.p k) (m:=k+1) (n:=4) (by omega)
    have h4:=hr.refs _ _ (List.getElem?_eq_getElem hp1)
    have h5:cntU x (x.p k) 4≤cnt A.pics (x.p k):=cnt_mem hxm (x.p k)
    rw[cntU_succ,if_pos rfl]at h3
    rw[subU_at];simp only;omega
  refine CL 5 ha hs (page_drop (hs.pick (Room r b (subU ps x k))) hp4 hp7) λa w ha hs=>?_
  rw[hp5]at hs
  refine RN 2 ha hs λa ha=>?_
  exact⟨4-(k+1),by omega,k+1,⟨rfl,by omega⟩,ha.keep [0,1,28,29],hs.sub⟩
 obtain rfl:k=4:=by omega
 refine RN 6 ha hs λa ha=>?_
 refine st_mapDelete ha rfl hs Tryz.underlying171 Tryz.underlying43 (findAt h1 hw hxs) λa w ha hs=>?_
 refine RT 2 ha hs ?_
 have hk:(kvs xs).eraseIdx i=kvs (xs.eraseIdx i):=(mapErase _ _ _).symm
 rw[hk]at hs
 exact⟨rfl,Store.close (last:=A.last) (b:=b) (m:=m) (ps:=subU ps x 4) (xs:=xs.eraseIdx i) hs (by rw[hA,mapErase,h1]) (by rw[hA];exact hw.erase i) (by rw[hA];exact hr.erase hx) (by rw[hA])⟩
theorem snap_drop (hs:St W w (Store q r A::L))(hx:A.pics[i]?=some x) :
   Calls Tryz.prog 180 #[pt q,.int .i64 x.id] w λe w'=>e=.returned (.bool true)∧St W w' (Store q r (A.drop i x)::L):=by
 by_cases h:x.refs=1
 · exact snap_drop_last hs hx h
 · exact snap_drop_more hs hx h
theorem snap_drop_no {X:Int}(hs:St W w (Store q r A::L))(hn:∀ y∈A.pics,(y.id:Int)≠X) :
   Calls Tryz.prog 180 #[pt q,.int .i64 X] w λe w'=>e=.returned (.bool false)∧St W w' (Store q r A::L):=by
 obtain⟨b,m,ps,xs,h1,hw,hr,hs⟩:=Store.open hs
 refine EN Tryz.func180 Tryz.ntmps180 rfl rfl λa ha=>?_
 refine CL 5 ha hs (snap_at_no hs h1 hn) λa w ha hs=>?_
 refine RN 5 ha hs λa ha=>?_
 replace ha:=ha.isT 12
 refine RT 3 ha hs ?_
 exact⟨rfl,Store.close (b:=b) (m:=m) hs h1 hw hr⟩
theorem WF.put (hw:WF A)(hx:A.pics[i]?=some x){g:Nat→Int}{p:Nat→Nat}:WF { A with pics:=A.pics.set i { x with g:=g,p:=p } } :=
 hw.set (n:=A.n) (y:={ x with g:=g,p:=p }) hw.bound (Nat.le_refl _) hx rfl (by have:=hw.pic x (List.mem_of_getElem? hx);simp only;omega)
theorem snap_set {c:Nat}{v:Int}(hs:St W w (Store q r A::L))(hx:A.pics[i]?=some x)(hc:c<32)(h1:cnt A.pics (x.p (c/8))=1) :
   Calls Tryz.prog 314 #[pt q,.int .i64 x.id,.int .i64 c,.int .i32 v] w λe w'=>e=.returned (.bool true)∧St W w' (Store q r (A.put i x c v)::L):=by
 obtain⟨b,m,ps,xs,h2,hw,hr,hs⟩:=Store.open hs
 obtain⟨pb,hxs⟩:=own_at h2 hx
 obtain⟨hp1,hp2,hp3⟩:=hr.live (List.mem_of_getElem? hx) (k:=c/8) (by omega)
 have hrf:ps[x.p (c/8)].refs=1:=by rw[hr.refs _ _ (List.getElem?_eq_getElem hp1)];exact h1
 refine EN Tryz.func314 Tryz.ntmps314 rfl rfl λa ha=>?_
 refine CL 5 ha hs (snap_at hs h2 hw hxs) λa w ha hs=>?_
 refine RN 6 ha hs λa ha=>?_
 replace ha:=ha.isF 18
 refine RN 4 ha hs λa ha=>?_
 rw[decide_eq_false (by omega)]at ha
 refine RN 3 ha hs λa ha=>?_
 rw[decide_eq_false (by omega)]at ha
 refine RN 2 ha hs λa ha=>?_
 replace hs:=hs.picOut hxs
 refine RN 2 ha hs λa ha=>?_
 refine SS ha (ex_quo ha (by decide) (wrap8 (by omega))) λa ha=>?_
 rw[show (c:Int).tdiv 8=((c/8:Nat):Int) from quoN c 8]at ha
 refine DWO 6 [6] [0,1,2,4,5,3003,1006,1007,8] ha hs λa w ha hs hH hC=>?_
 refine RH 6 ha hs hH hC λa ha=>?_
 refine SS ha (ld1 ha (hs.rd1 (Pic.at (by omega)))) λa ha=>?_
 refine RH 0 ha hs hH hC λa ha=>?_
 refine CL 0 ha hs (page_refs (hs.pick (Room r b ps)) hp1 hp2) λa w ha hs=>?_
 rw[hrf]at ha
 refine RN 1 ha hs λa ha=>?_
 rw[decide_eq_false (by omega)]at ha
 refine DWO 2 [6] [0,1,2,4,5,7,8,9,3003,1006,1010,11] ha hs λa w ha hs hH hC=>?_
 refine RH 6 ha hs hH hC λa ha=>?_
 refine QP ha (λw=>ex_rem ha (by decide)) λa ha=>?_
 rw[show (c:Int).tmod 8=((c%8:Nat):Int) from remN c 8]at ha
 refine RH 2 ha hs hH hC λa ha=>?_
 refine SS ha (ld1 ha (hs.rd1 (Pic.at (by omega)))) λa ha=>?_
 refine RH 0 ha hs hH hC λa ha=>?_
 refine CL 0 ha hs (page_set (hs.pick (Room r b ps)) hp1 hrf (Nat.mod_lt c (by decide))) λa w ha hs=>?_
 refine RN 1 ha hs λa ha=>?_
 refine RT 0 ha hs ?_
 rw[show x.cells=Pic.cells { x with g:=upd x.g c v } from rfl]at hs
 exact⟨rfl,Store.closeAt (B:=A.put i x c v) (last:=A.last) (b:=b) (m:=m) (pb:=pb) (y:={ x with g:=upd x.g c v }) (ps:=ps.set (x.p (c/8)) ⟨λj=>if j=c%8 then v else ps[x.p (c/8)].g j,1⟩) hs hxs h2 rfl rfl (hw.put hx) (hr.put hx hc h1 v hp1)⟩
theorem used_full {ps:List Pg}(h:noneFree ps):usedN ps=ps.length:=by
 rw[usedN,List.countP_eq_length]
 intro p hp
 obtain⟨i,hi,rfl⟩:=List.mem_iff_getElem.1 hp
 have:=h i hi
 simp;omega
theorem used_less {ps:List Pg}{f:Nat}(h:freeI ps f):usedN ps<ps.length:=by
 obtain⟨hf,h0,_⟩:=h
 have h1:=used_le ps
 rcases Nat.lt_or_ge (usedN ps) ps.length with h2 | h2
 · exact h2
 · have:=(List.countP_eq_length (p:=λp:Pg=>decide (0<p.refs)) (l:=ps)).1 (Nat.le_antisymm h1 h2) _ (List.getElem_mem hf)
   simp at this;omega
theorem snap_set_own {c:Nat}{v:Int}(hs:St W w (Store q r A::L))(hx:A.pics[i]?=some x)(hc:c<32)(h1:1<cnt A.pics (x.p (c/8)))(hu:A.used<A.room) :
   Calls Tryz.prog 314 #[pt q,.int .i64 x.id,.int .i64 c,.int .i32 v] w λe w'=>∃ f,e=.returned (.bool true)∧(f<A.room∧cnt A.pics f=0)∧St W w' (Store q r (A.putOwn i x c v f)::L):=by
 obtain⟨b,m,ps,xs,h2,hw,hr,hs⟩:=Store.open hs
 obtain⟨pb,hxs⟩:=own_at h2 hx
 obtain⟨hp1,hp2,hp3⟩:=hr.live (List.mem_of_getElem? hx) (k:=c/8) (by omega)
 have hrf:ps[x.p (c/8)].refs=cnt A.pics (x.p (c/8)):=hr.refs _ _ (List.getElem?_eq_getElem hp1)
 rcases free_cases ps with hno | ⟨f,hf⟩
 · have:=used_full hno
   rw[hr.used,hr.len]at this;omega
 have hf1:=hf.1
 have hf2:=hf.2.1
 have hfc:cnt A.pics f=0:=by rw[← hr.refs f _ (List.getElem?_eq_getElem hf1)];exact hf2
 have hne:x.p (c/8)≠f:=by
   intro e
   rw[e]at h1;omega
 have hl1:x.p (c/8)<(ps.set f ⟨ps[x.p (c/8)].g,1⟩).length:=by rw[List.length_set];exact hp1
 have e1:(ps.set f ⟨ps[x.p (c/8)].g,1⟩)[x.p (c/8)]=ps[x.p (c/8)]:=List.getElem_set_ne (Ne.symm hne) _
 have hl2:f<((ps.set f ⟨ps[x.p (c/8)].g,1⟩).set (x.p (c/8)) ⟨ps[x.p (c/8)].g,ps[x.p (c/8)].refs-1⟩).length:=by rw[List.length_set,List.length_set];exact hf1
 have e2:((ps.set f ⟨ps[x.p (c/8)].g,1⟩).set (x.p (c/8)) ⟨ps[x.p (c/8)].g,ps[x.p (c/8)].refs-1⟩)[f]=⟨ps[x.p (c/8)].g,1⟩:=by rw[List.getElem_set_ne hne,List.getElem_set_self]
 have hfin:((ps.set f ⟨ps[x.p (c/8)].g,1⟩).set (x.p (c/8)) ⟨ps[x.p (c/8)].g,ps[x.p (c/8)].refs-1⟩).set f ⟨λj=>if j=c%8 then v else ps[x.p (c/8)].g j,1⟩=(ps.set (x.p (c/8)) ⟨ps[x.p (c/8)].g,ps[x.p (c/8)].refs-1⟩).set f ⟨λj=>if j=c%8 then v else ps[x.p (c/8)].g j,1⟩:=by
   rw[List.set_comm _ _ (Ne.symm hne),List.set_set]
 refine EN Tryz.func314 Tryz.ntmps314 rfl rfl λa ha=>?_
 refine CL 5 ha hs (snap_at hs h2 hw hxs) λa w ha hs=>?_
 refine RN 6 ha hs λa ha=>?_
 replace ha:=ha.isF 18
 refine RN 4 ha hs λa ha=>?_
 rw[decide_eq_false (by omega)]at ha
 refine RN 3 ha hs λa ha=>?_
 rw[decide_eq_false (by omega)]at ha
 refine RN 2 ha hs λa ha=>?_
 replace hs:=hs.picOut hxs
 refine RN 2 ha hs λa ha=>?_
 refine SS ha (ex_quo ha (by decide) (wrap8 (by omega))) λa ha=>?_
 rw[show (c:Int).tdiv 8=((c/8:Nat):Int) from quoN c 8]at ha
 refine DWO 6 [6] [0,1,2,4,5,3003,1006,1007,8] ha hs λa w ha hs hH hC=>?_
 refine RH 6 ha hs hH hC λa ha=>?_
 refine SS ha (ld1 ha (hs.rd1 (Pic.at (by omega)))) λa ha=>?_
 refine RH 0 ha hs hH hC λa ha=>?_
 refine CL 0 ha hs (page_refs (hs.pick (Room r b ps)) hp1 hp2) λa w ha hs=>?_
 refine RN 1 ha hs λa ha=>?_
 rw[decide_eq_true (by omega)]at ha
 refine DWO 2 [6] [0,1,2,4,5,3003,1006,1007,8,9,10,11,12] ha hs λa w ha hs hH hC=>?_
 refine RH 6 ha hs hH hC λa ha=>?_
 refine SS ha (ld1 ha (hs.rd1 (Pic.at (by omega)))) λa ha=>?_
 refine RH 0 ha hs hH hC λa ha=>?_
 refine CL 0 ha hs (page_copy_some (hs.pick (Room r b ps)) hp1 hp2 hf) λa w ha hs=>?_
 refine RN 5 ha hs λa ha=>?_
 refine RN 4 ha hs λa ha=>?_
 replace ha:=ha.isF 53
 refine DWO 2 [6] [0,1,2,4,5,3003,1006,1007] ha hs λa w ha hs hH hC=>?_
 refine RH 6 ha hs hH hC λa ha=>?_
 refine SS ha (ld1 ha (hs.rd1 (Pic.at (by omega)))) λa ha=>?_
 refine RH 0 ha hs hH hC λa ha=>?_
 refine CL 0 ha hs (page_drop (hs.pick (Room r b (ps.set f ⟨ps[x.p (c/8)].g,1⟩))) hl1 (by rw[e1];exact hp2)) λa w ha hs=>?_
 rw[e1]at hs
 refine ST 3 ha hs (λa w ha hs=>?_) (hlt:=(by rw[Pic.len];omega))
 rw[Pic.setp (by omega) (upd x.g c v)]at hs
 refine DWO 1 [6] [0,1,2,4,5,7,8,9,3003,1006,1010,11] ha hs λa w ha hs hH hC=>?_
 refine RH 6 ha hs hH hC λa ha=>?_
 refine QP ha (λw=>ex_rem ha (by decide)) λa ha=>?_
 rw[show (c:Int).tmod 8=((c%8:Nat):Int) from remN c 8]at ha
 refine RH 2 ha hs hH hC λa ha=>?_
 refine SS ha (ld1 ha (hs.rd1 (Pic.at (x:={ x with p:=λj=>if j=c/8 then f else x.p j,g:=upd x.g c v }) (by omega)))) λa ha=>?_
 simp only[if_true]at ha
 refine RH 0 ha hs hH hC λa ha=>?_
 refine CL 0 ha hs (page_set (hs.pick (Room r b ((ps.set f ⟨ps[x.p (c/8)].g,1⟩).set (x.p (c/8)) ⟨ps[x.p (c/8)].g,ps[x.p (c/8)].refs-1⟩))) hl2 (by rw[e2]) (Nat.mod_lt c (by decide))) λa w ha hs=>?_
 rw[e2,hfin]at hs
 refine RN 1 ha hs λa ha=>?_
 refine RT 0 ha hs ?_
 exact⟨f,rfl,⟨hr.len ▸ hf1,hfc⟩,Store.closeAt (B:=A.putOwn i x c v f) (last:=A.last) (b:=b) (m:=m) (pb:=pb) (y:={ x with p:=λj=>if j=c/8 then f else x.p j,g:=upd x.g c v }) hs hxs h2 rfl rfl (hw.put hx) (hr.putOwn hx hc h1 v hp1 hf1 hf2)⟩
theorem snap_set_full {c:Nat}{v:Int}(hs:St W w (Store q r A::L))(hx:A.pics[i]?=some x)(hc:c<32)(h1:1<cnt A.pics (x.p (c/8)))(hu:A.room≤A.used) :
   Calls Tryz.prog 314 #[pt q,.int .i64 x.id,.int .i64 c,.int .i32 v] w λe w'=>e=.returned (.bool false)∧St W w' (Store q r A::L):=by
 obtain⟨b,m,ps,xs,h2,hw,hr,hs⟩:=Store.open hs
 obtain⟨pb,hxs⟩:=own_at h2 hx
 obtain⟨hp1,hp2,hp3⟩:=hr.live (List.mem_of_getElem? hx) (k:=c/8) (by omega)
 have hrf:ps[x.p (c/8)].refs=cnt A.pics (x.p (c/8)):=hr.refs _ _ (List.getElem?_eq_getElem hp1)
 rcases free_cases ps with hno | ⟨f,hf⟩
 rotate_left
 · have:=used_less hf
   rw[hr.used,hr.len]at this;omega
 refine EN Tryz.func314 Tryz.ntmps314 rfl rfl λa ha=>?_
 refine CL 5 ha hs (snap_at hs h2 hw hxs) λa w ha hs=>?_
 refine RN 6 ha hs λa ha=>?_
 replace ha:=ha.isF 18
 refine RN 4 ha hs λa ha=>?_
 rw[decide_eq_false (by omega)]at ha
 refine RN 3 ha hs λa ha=>?_
 rw[decide_eq_false (by omega)]at ha
 refine RN 2 ha hs λa ha=>?_
 replace hs:=hs.picOut hxs
 refine RN 2 ha hs λa ha=>?_
 refine SS ha (ex_quo ha (by decide) (wrap8 (by omega))) λa ha=>?_
 rw[show (c:Int).tdiv 8=((c/8:Nat):Int) from quoN c 8]at ha
 refine DWO 6 [6] [0,1,2,4,5,3003,1006,1007,8] ha hs λa w ha hs hH hC=>?_
 refine RH 6 ha hs hH hC λa ha=>?_
 refine SS ha (ld1 ha (hs.rd1 (Pic.at (by omega)))) λa ha=>?_
 refine RH 0 ha hs hH hC λa ha=>?_
 refine CL 0 ha hs (page_refs (hs.pick (Room r b ps)) hp1 hp2) λa w ha hs=>?_
 refine RN 1 ha hs λa ha=>?_
 rw[decide_eq_true (by omega)]at ha
 refine DWO 2 [6] [0,1,2,4,5,3003,1006,1007,8,9,10,11,12] ha hs λa w ha hs hH hC=>?_
 refine RH 6 ha hs hH hC λa ha=>?_
 refine SS ha (ld1 ha (hs.rd1 (Pic.at (by omega)))) λa ha=>?_
 refine RH 0 ha hs hH hC λa ha=>?_
 refine CL 0 ha hs (page_copy_none (hs.pick (Room r b ps)) hp1 hp2 hno) λa w ha hs=>?_
 refine RN 5 ha hs λa ha=>?_
 refine RN 4 ha hs λa ha=>?_
 replace ha:=ha.isT 53
 refine RT 3 ha hs ?_
 exact⟨rfl,Store.closeAt (b:=b) (m:=m) (ps:=ps) (pb:=pb) (y:=x) hs hxs h2 rfl (set_same hx) hw hr⟩
end
end
end Go.Proofs.YtdilfdkendjjhaaGreat
