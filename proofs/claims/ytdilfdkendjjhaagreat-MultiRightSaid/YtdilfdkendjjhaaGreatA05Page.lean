/- The walks of package page. -/
import Derived.Test.YtdilfdkendjjhaaGreatA04Ty
import Derived.Test.YtdilfdkendjjhaaGreatA02More2
import Derived.Maps.Own
import Derived.Shelf.SlIterI.Nil
import Derived.Shelf.SortM.Plain
import Derived.Shelf.SortM.SortNone
namespace Go.Proofs.YtdilfdkendjjhaaGreat
open Go.RowKit
set_option linter.unusedVariables false
set_option linter.unusedSimpArgs false
set_option maxRecDepth 10000
set_option synthInstance.maxSize 4000
set_option synthInstance.maxHeartbeats 400000
section
structure Pg where
 g:Nat→Int
 refs:Nat
def Pg.cells (p:Pg):List Value:=ints .i32 8 p.g++[.int .i64 p.refs]
def pgc (ps:List Pg):List Value:=rows Pg.cells ps
def pg0:Pg:=⟨λ_=>0,0⟩
def pg1:Pg:=⟨λ_=>0,1⟩
theorem Pg.len (p:Pg):p.cells.length=9:=by simp[Pg.cells,ints_len]
theorem pgc_len (ps:List Pg):(pgc ps).length=ps.length*9:=rows_len Pg.len ps
theorem Pg.one (p:Pg):∀ v∈p.cells,v.oneCell'=true:=by
 intro v hv
 rcases List.mem_append.1 hv with h | h
 · exact ints_one v h
 · simp at h;subst h;rfl
theorem pgc_ref {ps:List Pg}{i:Nat}(h:i<ps.length):(pgc ps)[i*9+8]?=some (.int .i64 ps[i].refs):=rows_get Pg.len ps h (by simp[Pg.cells,ints_len])
theorem pgc_at {ps:List Pg}{i k:Nat}(h:i<ps.length)(hk:k<8):(pgc ps)[i*9+k]?=some (.int .i32 (ps[i].g k)):=rows_get Pg.len ps h (by
 rw[Pg.cells,List.getElem?_append_left (by rw[ints_len];exact hk),ints_get _ hk])
theorem pgc_setref {ps:List Pg}{i r:Nat}(h:i<ps.length):(pgc ps).set (i*9+8) (.int .i64 r)=pgc (ps.set i ⟨ps[i].g,r⟩):=rows_set1 Pg.len ps _ h (by decide) (by
 rw[Pg.cells,List.set_append_right _ _ (by rw[ints_len];exact Nat.le_refl _),ints_len];rfl)
theorem pgc_setat {ps:List Pg}{i k:Nat}{v:Int}(h:i<ps.length)(hk:k<8):(pgc ps).set (i*9+k) (.int .i32 v)=pgc (ps.set i ⟨λj=>if j=k then v else ps[i].g j,ps[i].refs⟩):=rows_set1 Pg.len ps _ h (by omega) (by
 rw[Pg.cells,List.set_append_left _ _ (by rw[ints_len];exact hk),ints_set];rfl)
theorem pgc_setpage {ps:List Pg}{i:Nat}(p:Pg)(h:i<ps.length):splice (pgc ps) (i*9) p.cells=pgc (ps.set i p):=rows_set Pg.len ps p h
theorem pgc_cells {ps:List Pg}{i:Nat}(h:i<ps.length):((pgc ps).drop (i*9)).take 8=ints .i32 8 ps[i].g:=by
 have:=rows_sub (k:=0) (m:=8) Pg.len ps h (by decide)
 simp only[Nat.add_zero,List.drop_zero]at this
 rw[pgc,this,Pg.cells,List.take_left' (ints_len _ _ _)]
theorem pgc_setcells {ps:List Pg}{i:Nat}{g:Nat→Int}(h:i<ps.length):splice (pgc ps) (i*9) (ints .i32 8 g)=pgc (ps.set i ⟨g,ps[i].refs⟩):=by
 have:=splice_at (k:=0) (vs:=ints .i32 8 g) Pg.len ps ⟨g,ps[i].refs⟩ h (by rw[ints_len];decide) (by
   simp only[splice,Pg.cells,List.take_zero,List.nil_append,ints_len,Nat.zero_add]
   rw[List.drop_left' (ints_len _ _ _)])
 rw[Nat.add_zero]at this;exact this
def Room (q b:Nat)(ps:List Pg):SP:=λh=>(ps.length≤200∧∀ p∈ps,p.refs<4611686018427387904)∧sepL [blk q 216 [.slice (some ⟨b,0,none⟩) ps.length ps.length],blk b 218 (pgc ps)] h
theorem Room.open {W w:World}{L:List SP}{q b:Nat}{ps:List Pg}(hs:St W w (Room q b ps::L)):(ps.length≤200∧∀ p∈ps,p.refs<4611686018427387904) ∧
   St W w (blk q 216 [.slice (some ⟨b,0,none⟩) ps.length ps.length]::blk b 218 (pgc ps)::L) :=
 ⟨hs.tell λ_ h=>h.1,hs.open λ_ h=>h.2⟩
theorem Room.close {W w:World}{L L' R:List SP}{q b n:Nat}{ps:List Pg}(hs:St W w L)(hn:ps.length=n)(h:ps.length≤200∧∀ p∈ps,p.refs<4611686018427387904)
   [k:Arr L (blk q 216 [.slice (some ⟨b,0,none⟩) n n]::blk b 218 (pgc ps)::L') R]:St W w (Room q b ps::L'):=by
 subst hn
 exact St.shut (M:=[_,_]) (hs.sub (M:=blk q 216 [.slice (some ⟨b,0,none⟩) ps.length ps.length]::blk b 218 (pgc ps)::L')) (λ_ x=>⟨h,x⟩)
theorem made9 (n:Nat):(madeCells (Value.cells (.agg #[.int .i32 0,.int .i32 0,.int .i32 0,.int .i32 0,.int .i32 0,.int .i32 0,.int .i32 0,.int .i32 0,.int .i64 0])) (n*9)).toList=pgc (List.replicate n pg0):=by
 apply List.ext_getElem?
 intro i
 by_cases hi:i<n*9
 · obtain⟨j,k,hk,rfl⟩:∃ j k,k<9∧i=j*9+k:=⟨i/9,i%9,Nat.mod_lt _ (by decide),by omega⟩
   have hj:j<(List.replicate n pg0).length:=by simp;omega
   have hv:(Pg.cells pg0)[k]?=some ((Pg.cells pg0)[k]'(by rw[Pg.len];exact hk)):=List.getElem?_eq_getElem _
   rw[pgc,rows_get Pg.len _ hj (by rw[List.getElem_replicate];exact hv)]
   simp only[madeCells,Value.cells,Array.toList_map,List.getElem?_map]
   rw[Array.toList_range,List.getElem?_range hi]
   have h1:(j*9+k)%9=k:=by omega
   simp only[Option.map_some,List.size_toArray,List.length_cons,List.length_nil,Nat.reduceAdd,h1,Option.some.injEq]
   rcases k with _ | _ | _ | _ | _ | _ | _ | _ | _ | k <;> first | rfl | omega
 · rw[List.getElem?_eq_none,List.getElem?_eq_none]
   · rw[pgc_len];simp;omega
   · simp[madeCells];omega
theorem page_new {W w:World}{L:List SP}{n:Nat}(hs:St W w L)(hn:n≤200) :
   Calls Tryz.prog 114 #[.int .i64 n] w λe w'=>∃ q b,e=.returned (pt q)∧St W w' (Room q b (List.replicate n pg0)::L):=by
 refine EN Tryz.func114 Tryz.ntmps114 rfl rfl λa ha=>?_
 refine RN 6 ha hs λa ha=>?_
 rw[show min (max (n:Int) 0) 200=(n:Int) from by omega]at ha
 refine st_makeSlice ha rfl hs Tryz.underlying214 Ty.t218 rfl (by omega) (by omega) λb6 a w ha hs ho=>?_
 clear ho
 rw[made9]at hs
 refine BX 1 ha hs λb8 a w ha hs=>?_
 refine RT 1 ha hs ?_
 refine⟨b8,b6,rfl,(Room.close (n:=_) hs List.length_replicate ⟨by simp;exact hn,?_⟩)⟩
 intro p hp
 rw[(List.mem_replicate.1 hp).2];decide
section
variable {W w:World}{L:List SP}{q b i:Nat}{ps:List Pg}
theorem page_at (hs:St W w (Room q b ps::L))(hi:i<ps.length)(hr:0<ps[i].refs) :
   Calls Tryz.prog 140 #[pt q,.int .i64 ((i:Int)+1)] w λe w'=>e=.returned (.pointer (some ⟨b,i*9,none⟩))∧St W w' (Room q b ps::L):=by
 obtain⟨hp,hs⟩:=Room.open hs
 refine EN Tryz.func140 Tryz.ntmps140 rfl rfl λa ha=>?_
 refine RN 7 ha hs λa ha=>?_
 replace ha:=ha.isF 7
 refine RN 4 ha hs λa ha=>?_
 rw[decide_eq_false (by omega)]at ha
 refine RN 9 ha hs λa ha=>?_
 rw[decide_eq_false (by omega)]at ha
 refine RN 6 ha hs λa ha=>?_
 rw[show (i:Int)+1-1=(i:Int) from by omega]at ha
 refine RN 2 ha hs λa ha=>?_
 refine st_set ha (wgT ha rfl (s:=20)) (ld1 ha (hs.rd1 (pgc_ref hi))) rfl λa ha=>?_
 refine RN 2 ha hs λa ha=>?_
 rw[decide_eq_false (by omega)]at ha
 refine RN 8 ha hs λa ha=>?_
 rw[show (i:Int)+1-1=(i:Int) from by omega]at ha
 refine RT 2 ha hs ?_
 exact⟨rfl,(Room.close (n:=_) hs rfl hp)⟩
theorem St.pgRd {R:List SP}{e:Nat}(hs:St W w L)[k:Blk L b e (pgc ps) R](hi:i<ps.length):Rd w b (i*9) (ints .i32 8 ps[i].g):=by
 rw[← pgc_cells hi];exact hs.rdN 8
theorem St.pgRd9 {R:List SP}{e:Nat}(hs:St W w L)[k:Blk L b e (pgc ps) R](hi:i<ps.length):Rd w b (i*9) ps[i].cells:=by
 rw[← rows_at Pg.len ps i hi];exact hs.rdN 9
theorem page_refs (hs:St W w (Room q b ps::L))(hi:i<ps.length)(hr:0<ps[i].refs) :
   Calls Tryz.prog 70 #[pt q,.int .i64 ((i:Int)+1)] w λe w'=>e=.returned (.int .i64 ps[i].refs)∧St W w' (Room q b ps::L):=by
 refine EN Tryz.func70 Tryz.ntmps70 rfl rfl λa ha=>?_
 refine CL 5 ha hs (page_at hs hi hr) λa w ha hs=>?_
 refine RN 5 ha hs λa ha=>?_
 replace ha:=ha.isF 10
 refine RN 2 ha hs λa ha=>?_
 obtain⟨hp,hs⟩:=Room.open hs
 refine RN 3 ha hs λa ha=>?_
 refine SS ha (ld1 ha (hs.rd1 (pgc_ref hi))) λa ha=>?_
 refine RT 1 ha hs ?_
 exact⟨rfl,(Room.close (n:=_) hs rfl hp)⟩
theorem refsSet {ps:List Pg}{i r:Nat}{g:Nat→Int}(hp:ps.length≤200∧∀ p∈ps,p.refs<4611686018427387904)(hr:r<4611686018427387904) :
   (ps.set i ⟨g,r⟩).length≤200∧∀ p∈ps.set i ⟨g,r⟩,p.refs<4611686018427387904:=by
 refine⟨by rw[List.length_set];exact hp.1,λp h=>?_⟩
 rcases List.mem_or_eq_of_mem_set h with h | h
 · exact hp.2 p h
 · rw[h];exact hr
theorem page_hold (hs:St W w (Room q b ps::L))(hi:i<ps.length)(hr:0<ps[i].refs)(hb:ps[i].refs+1<4611686018427387904) :
   Calls Tryz.prog 232 #[pt q,.int .i64 ((i:Int)+1)] w λe w'=>e=.returned (.bool true)∧St W w' (Room q b (ps.set i ⟨ps[i].g,ps[i].refs+1⟩)::L):=by
 refine EN Tryz.func232 Tryz.ntmps232 rfl rfl λa ha=>?_
 refine CL 5 ha hs (page_at hs hi hr) λa w ha hs=>?_
 refine RN 5 ha hs λa ha=>?_
 replace ha:=ha.isT 10
 refine RN 1 ha hs λa ha=>?_
 obtain⟨hp,hs⟩:=Room.open hs
 refine RN 3 ha hs λa ha=>?_
 refine SS ha (ld1 ha (hs.rd1 (pgc_ref hi))) λa ha=>?_
 refine ST 3 ha hs (λa w ha hs=>?_) (hlt:=(by rw[pgc_len];omega))
 rw[show ((ps[i].refs:Int)+1)=((ps[i].refs+1:Nat):Int) from rfl,pgc_setref hi]at hs
 refine RT 4 ha hs ?_
 exact⟨rfl,(Room.close (n:=ps.length) hs List.length_set (refsSet hp hb))⟩
theorem page_drop (hs:St W w (Room q b ps::L))(hi:i<ps.length)(hr:0<ps[i].refs) :
   Calls Tryz.prog 226 #[pt q,.int .i64 ((i:Int)+1)] w λe w'=>e=.returned (.bool true)∧St W w' (Room q b (ps.set i ⟨ps[i].g,ps[i].refs-1⟩)::L):=by
 refine EN Tryz.func226 Tryz.ntmps226 rfl rfl λa ha=>?_
 refine CL 5 ha hs (page_at hs hi hr) λa w ha hs=>?_
 refine RN 5 ha hs λa ha=>?_
 replace ha:=ha.isT 10
 refine RN 1 ha hs λa ha=>?_
 obtain⟨hp,hs⟩:=Room.open hs
 have hb:=hp.2 _ (List.getElem_mem hi)
 refine RN 3 ha hs λa ha=>?_
 refine SS ha (ld1 ha (hs.rd1 (pgc_ref hi))) λa ha=>?_
 refine ST 3 ha hs (λa w ha hs=>?_) (hlt:=(by rw[pgc_len];omega))
 rw[show ((ps[i].refs:Int)-1)=((ps[i].refs-1:Nat):Int) from by omega,pgc_setref hi]at hs
 refine RT 4 ha hs ?_
 exact⟨rfl,(Room.close (n:=ps.length) hs List.length_set (refsSet hp (by omega)))⟩
theorem page_get {k:Nat}(hs:St W w (Room q b ps::L))(hi:i<ps.length)(hr:0<ps[i].refs)(hk:k<8) :
   Calls Tryz.prog 199 #[pt q,.int .i64 ((i:Int)+1),.int .i64 k] w λe w'=>e=.returned (.tuple #[.int .i32 (ps[i].g k),.bool true])∧St W w' (Room q b ps::L):=by
 refine EN Tryz.func199 Tryz.ntmps199 rfl rfl λa ha=>?_
 refine CL 6 ha hs (page_at hs hi hr) λa w ha hs=>?_
 refine RN 6 ha hs λa ha=>?_
 replace ha:=ha.isF 14
 refine RN 4 ha hs λa ha=>?_
 rw[decide_eq_false (by omega)]at ha
 refine RN 3 ha hs λa ha=>?_
 rw[decide_eq_false (by omega)]at ha
 refine RN 2 ha hs λa ha=>?_
 obtain⟨hp,hs⟩:=Room.open hs
 refine RN 5 ha hs λa ha=>?_
 refine SS ha (ld1 ha (hs.rd1 (pgc_at hi hk))) λa ha=>?_
 refine RT 2 ha hs ?_
 exact⟨rfl,(Room.close (n:=_) hs rfl hp)⟩
theorem page_set {k:Nat}{v:Int}(hs:St W w (Room q b ps::L))(hi:i<ps.length)(hr:ps[i].refs=1)(hk:k<8) :
   Calls Tryz.prog 118 #[pt q,.int .i64 ((i:Int)+1),.int .i64 k,.int .i32 v] w λe w'=>e=.returned (.bool true)∧St W w' (Room q b (ps.set i ⟨λj=>if j=k then v else ps[i].g j,1⟩)::L):=by
 refine EN Tryz.func118 Tryz.ntmps118 rfl rfl λa ha=>?_
 refine CL 5 ha hs (page_at hs hi (by omega)) λa w ha hs=>?_
 refine RN 6 ha hs λa ha=>?_
 replace ha:=ha.isF 15
 refine RN 4 ha hs λa ha=>?_
 rw[decide_eq_false (by omega)]at ha
 refine RN 4 ha hs λa ha=>?_
 obtain⟨hp,hs⟩:=Room.open hs
 rw[decide_eq_false (by omega)]at ha
 refine RN 3 ha hs λa ha=>?_
 refine st_set ha (wgT ha rfl (s:=23)) (ld1 ha (hs.rd1 (pgc_ref hi))) rfl λa ha=>?_
 refine RN 2 ha hs λa ha=>?_
 rw[decide_eq_false (by omega)]at ha
 refine ST 8 ha hs (λa w ha hs=>?_) (hlt:=(by rw[pgc_len];omega))
 rw[pgc_setat hi hk,hr]at hs
 refine RT 2 ha hs ?_
 exact⟨rfl,(Room.close (n:=ps.length) hs List.length_set (refsSet hp (by omega)))⟩
def freeI (ps:List Pg)(i:Nat):Prop:=∃ h:i<ps.length,ps[i].refs=0∧∀ j,(hj:j<i)→0<ps[j].refs
def noneFree (ps:List Pg):Prop:=∀ j,(h:j<ps.length)→0<ps[j].refs
theorem free_cases (ps:List Pg):noneFree ps∨∃ i,freeI ps i:=by
 have aux:∀ n,(∀ j,(h:j<ps.length)→j<n→0<ps[j].refs)∨∃ i,freeI ps i:=by
   intro n
   induction n with
   | zero=>exact .inl λj _ h=>by omega
   | succ n ih =>
     rcases ih with h | h
     · by_cases hn:n<ps.length
       · by_cases h0:ps[n].refs=0
         · exact .inr ⟨n,hn,h0,λj hj=>h j (by omega) hj⟩
         · refine .inl λj hj hjn=>?_
           rcases Nat.lt_or_ge j n with h1 | h1
           · exact h j hj h1
           · obtain rfl:j=n:=by omega
             omega
       · exact .inl λj hj hjn=>h j hj (by omega)
     · exact .inr h
 rcases aux ps.length with h | h
 · exact .inl λj hj=>h j hj hj
 · exact .inr h
theorem page_take_some (hs:St W w (Room q b ps::L))(hf:freeI ps i) :
   Calls Tryz.prog 116 #[pt q] w λe w'=>e=.returned (.tuple #[.int .i64 ((i:Int)+1),.bool true])∧St W w' (Room q b (ps.set i pg1)::L):=by
 obtain⟨hi,h0,hlow⟩:=hf
 obtain⟨hp,hs⟩:=Room.open hs
 refine EN Tryz.func116 Tryz.ntmps116 rfl rfl λa ha=>?_
 refine RN 7 ha hs λa ha=>?_
 replace ha:=ha.isF 6
 refine RN 9 ha hs λa ha=>?_
 refine wp_loop_ghost (λμ a w=>∃ k:Nat,(μ=i-k∧k≤i)∧Fr a 34 [(0,pt q),(11,.int .i64 ps.length),(12,.int .i64 k)]∧St W w (blk q 216 [.slice (some ⟨b,0,none⟩) ps.length ps.length]::blk b 218 (pgc ps)::L)) (i) (⟨0,⟨by simp,by simp⟩,ha.keep [0,11,12],hs.sub⟩) ?_
 clear ha hs
 rintro μ a w ⟨k,⟨rfl,hk⟩,ha,hs⟩
 refine RN 3 ha hs λa ha=>?_
 rw[decide_eq_true (by omega)]at ha
 refine RN 13 ha hs λa ha=>?_
 refine SS ha (ld1 ha (hs.rd1 (pgc_ref (by omega)))) λa ha=>?_
 refine IF 1 ha hs (λhc2 a ha=>?_) λhc2 a ha=>?_
 ·
  obtain rfl : k = i := by
      rcases Nat.lt_or_ge k i with h | h
      · have:=hlow k h;omega
      · omega
  refine RN 8 ha hs λa ha=>?_
  refine st_storeN ha rfl hs Ty.t218 (by simp[Value.oneCell']) (by rw[pgc_len];simp;omega) λa w ha hs=>?_
  replace hs:=hs.bring b
  change St W w (blk b 218 (splice (pgc ps) (k*9) pg1.cells)::_) at hs
  rw[pgc_setpage pg1 hi]at hs
  refine RT 5 ha hs ?_
  exact⟨rfl,(Room.close (n:=ps.length) hs List.length_set (refsSet (g:=λ_=>0) (r:=1) hp (by omega)))⟩
 have hki : k < i := by
     rcases Nat.lt_or_ge k i with h | h
     · exact h
     · obtain rfl:k=i:=by omega
       omega
 refine RN 2 ha hs λa ha=>?_
 exact⟨i-(k+1),by omega,k+1,⟨rfl,by omega⟩,ha.keep [0,11,12],hs.sub⟩
theorem page_take_none (hs:St W w (Room q b ps::L))(hf:noneFree ps) :
   Calls Tryz.prog 116 #[pt q] w λe w'=>e=.returned (.tuple #[.int .i64 0,.bool false])∧St W w' (Room q b ps::L):=by
 obtain⟨hp,hs⟩:=Room.open hs
 refine EN Tryz.func116 Tryz.ntmps116 rfl rfl λa ha=>?_
 refine RN 7 ha hs λa ha=>?_
 replace ha:=ha.isF 6
 refine RN 9 ha hs λa ha=>?_
 refine wp_loop_ghost (λμ a w=>∃ k:Nat,(μ=ps.length-k∧k≤ps.length)∧Fr a 34 [(0,pt q),(11,.int .i64 ps.length),(12,.int .i64 k)]∧St W w (blk q 216 [.slice (some ⟨b,0,none⟩) ps.length ps.length]::blk b 218 (pgc ps)::L)) (ps.length) (⟨0,⟨by simp,by simp⟩,ha.keep [0,11,12],hs.sub⟩) ?_
 clear ha hs
 rintro μ a w ⟨k,⟨rfl,hk⟩,ha,hs⟩
 refine IF 3 ha hs (λhc1 a ha=>?_) λhc1 a ha=>?_
 ·
  refine RN 12 ha hs λa ha=>?_
  have hk2:=hf k (by omega)
  refine SS ha (ld1 ha (hs.rd1 (pgc_ref (by omega)))) λa ha=>?_
  refine RN 1 ha hs λa ha=>?_
  rw[decide_eq_false (by omega)]at ha
  refine RN 3 ha hs λa ha=>?_
  exact⟨ps.length-(k+1),by omega,k+1,⟨rfl,by omega⟩,ha.keep [0,11,12],hs.sub⟩
 refine RT 3 ha hs ?_
 exact⟨rfl,(Room.close (n:=_) hs rfl hp)⟩
theorem page_copy_none (hs:St W w (Room q b ps::L))(hi:i<ps.length)(hr:0<ps[i].refs)(hf:noneFree ps) :
   Calls Tryz.prog 315 #[pt q,.int .i64 ((i:Int)+1)] w λe w'=>e=.returned (.tuple #[.int .i64 0,.bool false])∧St W w' (Room q b ps::L):=by
 refine EN Tryz.func315 Tryz.ntmps315 rfl rfl λa ha=>?_
 refine CL 6 ha hs (page_at hs hi hr) λa w ha hs=>?_
 refine RN 5 ha hs λa ha=>?_
 replace ha:=ha.isF 13
 refine CL 3 ha hs (page_take_none hs hf) λa w ha hs=>?_
 refine RN 8 ha hs λa ha=>?_
 replace ha:=ha.isF 19
 refine RT 6 ha hs ?_
 exact⟨rfl,hs⟩
theorem page_copy_some {k:Nat}(hs:St W w (Room q b ps::L))(hi:i<ps.length)(hr:0<ps[i].refs)(hf:freeI ps k) :
   Calls Tryz.prog 315 #[pt q,.int .i64 ((i:Int)+1)] w λe w'=>e=.returned (.tuple #[.int .i64 ((k:Int)+1),.bool true])∧St W w' (Room q b (ps.set k ⟨ps[i].g,1⟩)::L):=by
 have hk:=hf.1
 have hne:k≠i:=by
   rintro rfl
   obtain⟨_,h,_⟩:=hf
   omega
 have hkl:k<(ps.set k pg1).length:=by rw[List.length_set];exact hk
 have hil:i<(ps.set k pg1).length:=by rw[List.length_set];exact hi
 have e1:(ps.set k pg1)[k]=pg1:=by rw[List.getElem_set_self]
 have e2:(ps.set k pg1)[i]=ps[i]:=by rw[List.getElem_set_ne hne]
 refine EN Tryz.func315 Tryz.ntmps315 rfl rfl λa ha=>?_
 refine CL 6 ha hs (page_at hs hi hr) λa w ha hs=>?_
 refine RN 5 ha hs λa ha=>?_
 replace ha:=ha.isF 13
 refine CL 3 ha hs (page_take_some hs hf) λa w ha hs=>?_
 refine RN 8 ha hs λa ha=>?_
 replace ha:=ha.isT 19
 refine DWC 1 (λw0 w'=>Rd w' b (i*9) (ints .i32 8 ps[i].g)) [2] [0,1,3,4,5,3006,1002,7,8,1009] ha hs λa w ha hs hH=>?_
 have hC : Rd w b (i * 9) (ints .i32 8 ps[i].g) := by
     have:=St.pgRd (b:=b) (e:=218) (Room.open hs).2 hil
     rwa [e2]at this
 refine RH 5 ha hs hH hC λa ha=>?_
 refine QH ha (λw hc=>ex_loadN ha Tryz.underlying194 rfl Ty.t194 (hc)) hC λa ha=>?_
 refine RH 0 ha hs hH hC λa ha=>?_
 refine CL 0 ha hs (page_at hs hkl (by rw[e1];decide)) λa w ha hs=>?_
 replace hC : (fun w' => Rd w' b (i * 9) (ints .i32 8 ps[i].g)) w := by
     have:=St.pgRd (b:=b) (e:=218) (Room.open hs).2 hil
     rwa [e2]at this
 refine RH 2 ha hs hH hC λa ha=>?_
 obtain⟨hp,hs⟩:=Room.open hs
 refine st_storeN ha rfl hs Ty.t194 ints_one (by rw[pgc_len,ints_len];omega) λa w ha hs=>?_
 rw[pgc_setcells hkl,List.set_set,e1,show pg1.refs=1 from rfl]at hs
 refine RT 5 ha hs ?_
 exact⟨rfl,(Room.close (n:=(ps.set k pg1).length) hs (by rw[List.length_set,List.length_set]) (by have:=refsSet (g:=ps[i].g) (r:=1) (i:=k) hp (by decide);rwa [List.set_set]at this))⟩
def usedN (ps:List Pg):Nat:=ps.countP λp=>decide (0<p.refs)
theorem used_le (ps:List Pg):usedN ps≤ps.length:=List.countP_le_length
theorem used_succ {ps:List Pg}{k:Nat}(h:k<ps.length):usedN (ps.take (k+1))=usedN (ps.take k)+if 0<ps[k].refs then 1 else 0:=by
 rw[usedN,List.take_succ_eq_append_getElem h,List.countP_append,usedN,List.countP_singleton]
 by_cases h:0<ps[k].refs <;> simp[h]
theorem page_used (hs:St W w (Room q b ps::L)) :
   Calls Tryz.prog 68 #[pt q] w λe w'=>e=.returned (.int .i64 (usedN ps))∧St W w' (Room q b ps::L):=by
 obtain⟨hp,hs⟩:=Room.open hs
 refine EN Tryz.func68 Tryz.ntmps68 rfl rfl λa ha=>?_
 refine RN 6 ha hs λa ha=>?_
 replace ha:=ha.isF 7
 refine RN 11 ha hs λa ha=>?_
 refine wp_loop_ghost (λμ a w=>∃ k:Nat,(μ=ps.length-k∧k≤ps.length)∧Fr a 24 [(3,.int .i64 (usedN (ps.take k))),(11,.slice (some ⟨b,0,none⟩) ps.length ps.length),(12,.int .i64 ps.length),(13,.int .i64 k)]∧St W w (blk q 216 [.slice (some ⟨b,0,none⟩) ps.length ps.length]::blk b 218 (pgc ps)::L)) (ps.length) (⟨0,⟨by simp,by simp⟩,ha.keep [3,11,12,13],hs.sub⟩) ?_
 clear ha hs
 rintro μ a w ⟨k,⟨rfl,hk⟩,ha,hs⟩
 have hul:=used_le (ps.take k)
 rw[List.length_take]at hul
 refine IF 3 ha hs (λhc1 a ha=>?_) λhc1 a ha=>?_
 ·
  have hk3:k<ps.length:=by omega
  have hul2:=used_succ hk3
  refine RN 3 ha hs λa ha=>?_
  refine SS ha (ex_loadN ha Tryz.underlying218 rfl Ty.t218 (hs.pgRd9 hk3)) λa ha=>?_
  refine AL 0 ha hs λb5 a w ha hs=>?_
  refine RN 0 ha hs λa ha=>?_
  refine st_storeN ha rfl hs Ty.t218 (Pg.one _) (by rw[Pg.len];exact Nat.le_refl _) λa w ha hs=>?_
  rw[show splice _ 0 ps[k].cells=ps[k].cells from by simp[splice,Pg.len]]at hs
  refine RN 2 ha hs λa ha=>?_
  refine SS ha (ld1 ha (hs.rd1 (show ps[k].cells[8]?=some (.int .i64 ps[k].refs) from by simp[Pg.cells,ints_len]))) λa ha=>?_
  refine IF 1 ha hs (λhc2 a ha=>?_) λhc2 a ha=>?_
  ·
   rw[if_pos (by omega)]at hul2
   refine RN 5 ha hs λa ha=>?_
   exact⟨ps.length-(k+1),by omega,k+1,⟨rfl,by omega⟩,by rw[hul2];exact ha.keep [3,11,12,13],hs.sub⟩
  rw[if_neg (by omega)]at hul2
  refine RN 2 ha hs λa ha=>?_
  exact⟨ps.length-(k+1),by omega,k+1,⟨rfl,by omega⟩,by rw[hul2];exact ha.keep [3,11,12,13],hs.sub⟩
 refine RT 3 ha hs ?_
 obtain rfl:k=ps.length:=by omega
 rw[List.take_length]
 exact⟨rfl,(Room.close (n:=_) hs rfl hp)⟩
theorem page_free (hs:St W w (Room q b ps::L)) :
   Calls Tryz.prog 176 #[pt q] w λe w'=>e=.returned (.int .i64 ((ps.length-usedN ps:Nat):Int))∧St W w' (Room q b ps::L):=by
 have hul:=used_le ps
 have hp:=(Room.open hs).1
 refine EN Tryz.func176 Tryz.ntmps176 rfl rfl λa ha=>?_
 refine RN 6 ha hs λa ha=>?_
 replace ha:=ha.isF 4
 refine DWC 2 (λw0 w'=>w'.cell? ⟨q,0,none⟩=some (.slice (some ⟨b,0,none⟩) ps.length ps.length)) [6] [0,1,2,5,3003,4,1006,7,8] ha hs λa w ha hs hH=>?_
 have hC:=hH.at w ((Room.open hs).2.rd1 rfl)
 refine RH 4 ha hs hH hC λa ha=>?_
 refine QH ha (λw hc=>ld1 ha (hc)) hC λa ha=>?_
 refine RH 1 ha hs hH hC λa ha=>?_
 refine CL 0 ha hs (page_used hs) λa w ha hs=>?_
 replace hC:=hH.at w ((Room.open hs).2.rd1 rfl)
 refine RH 2 ha hs hH hC λa ha=>?_
 refine RT 0 ha hs ?_
 exact⟨by rw[show ((ps.length-usedN ps:Nat):Int)=(ps.length:Int)-(usedN ps:Int) from by omega],hs⟩
end
end
section
def MapIs (es:Array MapEntry)(clock:Nat)(kvs:List (Int×Value)):Prop :=
 es.toList.map (λe=>(e.key,e.val))=kvs.map (λp=>(Value.int .i64 p.1,p.2))∧MapKept.Stamped es clock∧∀ p∈kvs,(Lit.int .i64 p.1).wf=true
def mp (b:Nat)(kvs:List (Int×Value)):SP:=λh=>∃ es clock,h b=some (.map es clock)∧MapIs es clock kvs
def findP:List (Int×Value)→Int→Nat→Option (Nat×Value)
 | [],_,_=>none
 | p::r,k,i=>if p.1=k then some (i,p.2) else findP r k (i+1)
theorem findP_none {kvs:List (Int×Value)}{k:Int}(h:∀ p∈kvs,p.1≠k):∀ i,findP kvs k i=none:=by
 induction kvs with
 | nil=>intro i;rfl
 | cons p r ih =>
   intro i
   rw[findP,if_neg (h p List.mem_cons_self)]
   exact ih (λq hq=>h q (List.mem_cons_of_mem _ hq)) _
theorem findP_some {kvs:List (Int×Value)}{k:Int}{v:Value}:∀ {j:Nat} (i:Nat),kvs[j]?=some (k,v)→(∀ j',j'<j→∀ p,kvs[j']?=some p→p.1≠k)→findP kvs k i=some (i+j,v):=by
 induction kvs with
 | nil=>intro j i h;simp at h
 | cons p r ih =>
   intro j i h hl
   cases j with
   | zero=>simp at h;subst h;simp[findP]
   | succ j =>
     rw[findP,if_neg (hl 0 (by omega) p rfl),ih (i+1) (by simpa using h) (λj' hj q hq=>hl (j'+1) (by omega) q (by simpa using hq))]
     rw[show i+1+j=i+(j+1) from by omega]
theorem findNow_is (k:Int):∀ (es:List MapEntry) (kvs:List (Int×Value)) (i:Nat),es.map (λe=>(e.key,e.val))=kvs.map (λp=>(Value.int .i64 p.1,p.2))→Instr.findNow (.int .i64) (.int .i64 k) es i=some (findP kvs k i)
 | [],[],i,_=>rfl
 | [],_::_,_,h=>by simp at h
 | _::_,[],_,h=>by simp at h
 | e::es,p::kvs,i,h=>by
   simp only[List.map_cons,List.cons.injEq,Prod.mk.injEq]at h
   obtain⟨⟨h1,h2⟩,h3⟩:=h
   simp only[Instr.findNow,h1,Instr.sameNow,findP]
   by_cases hk:p.1=k
   · simp[hk,h2]
   · have:(k==p.1)=false:=by simp;exact λe=>hk e.symm
     simp only[this,if_neg hk]
     exact findNow_is k es kvs (i+1) h3
theorem mapErase {α β:Type}(f:α→β)(l:List α)(i:Nat):(l.eraseIdx i).map f=(l.map f).eraseIdx i:=by
 simp only[List.eraseIdx_eq_take_drop_succ,List.map_append,List.map_take,List.map_drop]
section
variable {W w:World}{L:List SP}{b:Nat}{kvs:List (Int×Value)}
theorem St.mpHas (hs:St W w (mp b kvs::L)):∃ es clock,MapIs es clock kvs∧St W w (pts b (.map es clock)::L):=by
 obtain⟨⟨es,clock⟩,h1,h2⟩:=hs.exi (ι:=Array MapEntry×Nat) (p:=λi=>MapIs i.1 i.2 kvs) (B:=λi=>pts b (.map i.1 i.2)) (λh ⟨es,clock,h1,h2⟩=>⟨(es,clock),h2,h1⟩)
 exact⟨es,clock,h1,h2⟩
theorem St.mpShut {es:Array MapEntry}{clock:Nat}(hs:St W w (pts b (.map es clock)::L))(h:MapIs es clock kvs):St W w (mp b kvs::L) :=
 St.shut (M:=[_]) hs (λ_ x=>by
   obtain⟨_,_,_,a,_,y,_⟩:=x
   exact⟨es,clock,a _ _ y,h⟩)
theorem MapIs.nil:MapIs #[] 0 []:=⟨rfl,⟨by simp,by simp,by simp⟩,by simp⟩
theorem MapIs.push {es:Array MapEntry}{clock:Nat}{k:Int}{v:Value}(h:MapIs es clock kvs)(hw:(Lit.int .i64 k).wf=true)(hn:∀ p∈kvs,p.1≠k):MapIs (es.push ⟨.int .i64 k,v,clock⟩) (clock+1) (kvs++[(k,v)]):=by
 obtain⟨h1,⟨h2,h3,h4⟩,h5⟩:=h
 refine⟨by simp[h1],⟨λx hx=>?_,?_,?_⟩,λp hp=>?_⟩
 · simp only[Array.toList_push,List.mem_append,List.mem_singleton]at hx
   rcases hx with hx | rfl
   · have:=h2 x hx;omega
   · exact Nat.lt_succ_self _
 · simp only[Array.toList_push,List.map_append,List.map_cons,List.map_nil]
   refine List.nodup_append.2 ⟨h3,by simp,λx hx y hy=>?_⟩
   simp only[List.mem_map]at hx
   obtain⟨e,he,rfl⟩:=hx
   have:=h2 e he
   simp at hy;omega
 · simp only[Array.toList_push,List.map_append,List.map_cons,List.map_nil]
   refine List.nodup_append.2 ⟨h4,by simp,λx hx y hy=>?_⟩
   simp only[List.mem_map]at hx
   obtain⟨e,he,rfl⟩:=hx
   have hm:(e.key,e.val)∈es.toList.map (λe=>(e.key,e.val)):=List.mem_map.2 ⟨e,he,rfl⟩
   rw[h1]at hm
   obtain⟨p,hp,hpe⟩:=List.mem_map.1 hm
   simp only[Prod.mk.injEq]at hpe
   simp at hy
   rw[hy,← hpe.1]
   intro e2
   simp at e2
   exact hn p hp e2
 · rcases List.mem_append.1 hp with h | h
   · exact h5 p h
   · simp at h;subst h;exact hw
theorem MapIs.erase {es:Array MapEntry}{clock:Nat}(h:MapIs es clock kvs)(i:Nat):MapIs (es.eraseIdxIfInBounds i) clock (kvs.eraseIdx i):=by
 obtain⟨h1,⟨h2,h3,h4⟩,h5⟩:=h
 have ht:(es.eraseIdxIfInBounds i).toList=es.toList.eraseIdx i:=by simp[Array.toList_eraseIdxIfInBounds]
 have hm:∀ {β:Type} (f:MapEntry→β),(es.toList.eraseIdx i).map f=(es.toList.map f).eraseIdx i:=λf=>mapErase f _ i
 refine⟨by rw[ht,hm,h1,mapErase],⟨λx hx=>h2 x (List.mem_of_mem_eraseIdx (ht ▸ hx)),?_,?_⟩,λp hp=>h5 p (List.mem_of_mem_eraseIdx hp)⟩
 · rw[ht,hm];exact h3.sublist (List.eraseIdx_sublist _ _)
 · rw[ht,hm];exact h4.sublist (List.eraseIdx_sublist _ _)
end
section
variable {P:Program}{ops:Array Oper}{Q:Exit→Act→World→Prop}{a:Act}{w w' W:World}{K:Act→World→Prop}{n d:Nat}{l:List (Nat×Value)}{v:Value}{L R:List SP}{kvs:List (Int×Value)}
class PickM (L:List SP)(b:Nat)(kvs:outParam (List (Int×Value)))(R:outParam (List SP)):Prop where perm:L.Perm (mp b kvs::R)
instance PickM.head {L b kvs}:PickM (mp b kvs::L) b kvs L:=⟨List.Perm.refl _⟩
instance (priority:=low) PickM.tail {A L b kvs R}[h:PickM L b kvs R]:PickM (A::L) b kvs (A::R):=⟨(List.Perm.cons A h.perm).trans (List.Perm.swap _ _ _)⟩
theorem run_setMap {b:Nat}{es es':Array MapEntry}{c c':Nat}(h:w.heap[b]?=some (.map es c)):(setObj b (.map es' c')).run P w=.ok () (ChangeMaps.setBlock w b (.map es' c')):=by
 simp only[setObj,Sem.run,h]
 rfl
theorem checkKey_n {kt:TypeId}{em:Bool}{k:Int}(hk:P.underlying kt=some (.int .i64))(n:Nat):(Instr.checkKey em (n+1) kt (.int .i64 k)).run P w=.ok () w:=by
 simp only[Instr.checkKey,Sem.run_bind,run_underlying hk,Result.andThen_ok]
 rfl
theorem checkKey_int {kt:TypeId}{em:Bool}{k:Int}(hk:P.underlying kt=some (.int .i64)):(Instr.checkKey em 10000 kt (.int .i64 k)).run P w=.ok () w :=
 checkKey_n hk 9999
theorem findKey_is {es:Array MapEntry}{clock:Nat}{kt:TypeId}{k:Int}(hk:P.underlying kt=some (.int .i64))(h:MapIs es clock kvs):(Instr.findKey kt (.int .i64 k) es.toList).run P w=.ok (findP kvs k 0) w:=by
 simp[Instr.findKey,run_underlying hk,findNow_is k es.toList kvs 0 h.1]
theorem st_makeMap {t ty ps af g}(ha:Fr a n l)(hw:Region.wanted ⟨some d,.makeMap t none,ty,ps,af,g⟩ (yielded ops a.tmps)=true)(hs:St W w L)(hf:okB d n l=true)
   (h:∀ b a' w',Fr a' n ((d,.map (some b))::l)→St W w' (mp b []::L)→Old w w'→K a' w'):StepK P ops Q ⟨some d,.makeMap t none,ty,ps,af,g⟩ K a w:=by
 refine st_set (v:=.map (some w.heap.size)) (w':=w.alloc (.map #[] 0)) ha hw ?_ hf (λa' ha'=>h _ _ _ ha' (St.mpShut (hs.alloc (.map #[] 0)) MapIs.nil) (Old.alloc _ _))
 simp[execOp,Instr.makeMap,newObj,Sem.run]
theorem ex_lookup {x y b t kt et k z sz by' dst ty ps af g}{R:List SP}(ha:Fr a n l)(ht:P.underlying t=some (.map kt et))(hk:P.underlying kt=some (.int .i64))(hi:TI P et z sz by')(hs:St W w L)
   [ev:Ev l x (.map (some b))] [ey:Ev l y (.int .i64 k)] [pk:PickM L b kvs R] (hv:((findP kvs k 0).map (·.2)).getD z=v) :
   (execOp a.eval ⟨dst,.lookup t x y false,ty,ps,af,g⟩).run P w=.ok (.value v) w:=by
 obtain⟨es,clock,h1,h2⟩:=(hs.perm pk.perm).mpHas
 have hg:=MapKept.run_getObj_map (P:=P) h2.has.2
 have h3:(Instr.lookup t (.map (some b)) (.int .i64 k) false).run P w=.ok v w:=by
   simp only[Instr.lookup,Sem.run_bind,run_underlying ht,Result.andThen_ok,hg]
   simp only[Sem.run_pure,Result.andThen_ok,checkKey_int hk,findKey_is hk h1]
   cases hf:findP kvs k 0 with
   | none=>rw[hf]at hv;simp at hv;simp[run_zero hi,hv]
   | some p=>rw[hf]at hv;simp at hv;simp[hv]
 simp[execOp,ev.ev a n ha,ey.ev a n ha,h3]
theorem st_mapUpdate {x y u b t kt et k ty ps af g}{R:List SP}(ha:Fr a n l)(hw:Region.wanted ⟨none,.mapUpdate t x y u,ty,ps,af,g⟩ (yielded ops a.tmps)=true)(hs:St W w L)
   (ht:P.underlying t=some (.map kt et)) (hk:P.underlying kt=some (.int .i64)) [ev:Ev l x (.map (some b))] [ey:Ev l y (.int .i64 k)] [eu:Ev l u v] [pk:PickM L b kvs R]
   (hwf:(Lit.int .i64 k).wf=true) (hn:∀ p∈kvs,p.1≠k)
   (h:∀ a' w',Fr a' n l→St W w' (mp b (kvs++[(k,v)])::R)→K a' w'):StepK P ops Q ⟨none,.mapUpdate t x y u,ty,ps,af,g⟩ K a w:=by
 obtain⟨es,clock,h1,h2⟩:=(hs.perm pk.perm).mpHas
 have hg:=MapKept.run_getObj_map (P:=P) h2.has.2
 have hb:b<w.heap.size:=(Array.getElem?_eq_some_iff.1 h2.has.2).1
 have h3:(Instr.mapUpdate t (.map (some b)) (.int .i64 k) v).run P w=.ok () (ChangeMaps.setBlock w b (.map (es.push ⟨.int .i64 k,v,clock⟩) (clock+1))):=by
   simp only[Instr.mapUpdate,Sem.run_bind,run_underlying ht,Result.andThen_ok,hg]
   simp only[Sem.run_pure,Result.andThen_ok,checkKey_int hk,findKey_is hk h1,findP_none hn]
   simp[run_setMap h2.has.2]
 have h4:=h2.upd (o':=.map (es.push ⟨.int .i64 k,v,clock⟩) (clock+1)) (w':=ChangeMaps.setBlock w b (.map (es.push ⟨.int .i64 k,v,clock⟩) (clock+1))) rfl rfl rfl rfl
 refine st_act (w':=ChangeMaps.setBlock w b (.map (es.push ⟨.int .i64 k,v,clock⟩) (clock+1))) ha hw ?_ (λa' ha'=>h a' _ ha' (h4.mpShut (h1.push hwf hn)))
 simp[execOp,ev.ev a n ha,ey.ev a n ha,eu.ev a n ha,h3]
theorem st_mapDelete {x y b t kt et k i ty ps af g}{R:List SP}(ha:Fr a n l)(hw:Region.wanted ⟨none,.call ⟨.builtin .delete,#[x,y],#[t,kt]⟩,ty,ps,af,g⟩ (yielded ops a.tmps)=true)(hs:St W w L)
   (ht:P.underlying t=some (.map kt et)) (hk:P.underlying kt=some (.int .i64)) [ev:Ev l x (.map (some b))] [ey:Ev l y (.int .i64 k)] [pk:PickM L b kvs R] (hi:findP kvs k 0=some (i,v))
   (h:∀ a' w',Fr a' n l→St W w' (mp b (kvs.eraseIdx i)::R)→K a' w'):StepK P ops Q ⟨none,.call ⟨.builtin .delete,#[x,y],#[t,kt]⟩,ty,ps,af,g⟩ K a w:=by
 obtain⟨es,clock,h1,h2⟩:=(hs.perm pk.perm).mpHas
 have hg:=MapKept.run_getObj_map (P:=P) h2.has.2
 have hb:b<w.heap.size:=(Array.getElem?_eq_some_iff.1 h2.has.2).1
 have h3:(Builtin.delete_ #[t,kt] ty #[.map (some b),.int .i64 k]).run P w=.ok (.tuple #[]) (ChangeMaps.setBlock w b (.map (es.eraseIdxIfInBounds i) clock)):=by
   simp only[Builtin.delete_,List.getElem?_toArray,List.getElem?_cons_zero,List.getElem?_cons_succ]
   simp only[Sem.run_bind,run_underlying ht,Result.andThen_ok,hg]
   simp only[Sem.run_pure,Result.andThen_ok,checkKey_int hk,findKey_is hk h1,hi]
   simp[run_setMap h2.has.2]
 have h4:=h2.upd (o':=.map (es.eraseIdxIfInBounds i) clock) (w':=ChangeMaps.setBlock w b (.map (es.eraseIdxIfInBounds i) clock)) rfl rfl rfl rfl
 refine st_none (v:=.tuple #[]) (w':=ChangeMaps.setBlock w b (.map (es.eraseIdxIfInBounds i) clock)) ha hw ?_ (λa' ha'=>h a' _ ha' (h4.mpShut (h1.erase i)))
 simp[execOp,resolve,ev.ev a n ha,ey.ev a n ha,invoke,builtin,h3]
end
end
section
open Go.RowKit Go.Maps Go.Sort Go.Shelf
def Lay.keysA_ren:Go.Shelf.Ren:=⟨fun | 7=>108 | 10=>168 | n=>n,fun | 23=>171 | 26=>43 | 3=>172 | 28=>169 | 0=>0 | 27=>168 | 33=>258 | 4=>4 | n=>n,fun | n=>n⟩
theorem Lay.keysA:Go.Proofs.SlLaysZI.n7 Tryz.prog Lay.keysA_ren:={
 mixed:=by kernel_rfl
 f7:=⟨Tryz.f108.name,by decide,Tryz.func108.trans (congrArg some (by kernel_rfl))⟩
 f10:=⟨Tryz.f168.name,by decide,Tryz.func168.trans (congrArg some (by kernel_rfl))⟩
 t0:=Tryz.underlying0
 a0:=Tryz.isAgg0
 z0:=Tryz.sizeOf0
 v0:=Tryz.zeroValue0
 t4:=Tryz.underlying4
 a4:=Tryz.isAgg4
 z4:=Tryz.sizeOf4
 v4:=Tryz.zeroValue4
 t23:=Tryz.underlying171
 a23:=Tryz.isAgg171
 z23:=Tryz.sizeOf171
 v23:=Tryz.zeroValue171
 t26:=Tryz.underlying43
 a26:=Tryz.isAgg43
 z26:=Tryz.sizeOf43
 v26:=Tryz.zeroValue43
 t27:=Tryz.underlying168
 a27:=Tryz.isAgg168
 z27:=Tryz.sizeOf168
 v27:=Tryz.zeroValue168
 t28:=Tryz.underlying169
 a28:=Tryz.isAgg169
 z28:=Tryz.sizeOf169
 v28:=Tryz.zeroValue169
 t33:=Tryz.underlying258
 a33:=Tryz.isAgg258
 z33:=Tryz.sizeOf258
 v33:=Tryz.zeroValue258 }
def Lay.sortedA_ren:Go.Shelf.Ren:=⟨fun | 6=>107 | 8=>166 | 9=>167 | 11=>217 | 13=>219 | 12=>218 | 23=>259 | 24=>260 | 14=>250 | 15=>251 | 16=>252 | 17=>253 | 18=>254 | 19=>255 | 20=>256 | 21=>257 | 22=>258 | 25=>277 | 26=>278 | 27=>279 | 28=>280 | 29=>281 | 30=>282 | 31=>290 | n=>n,fun | 26=>43 | 28=>169 | 24=>100 | 0=>0 | 3=>3 | 37=>225 | 48=>68 | 50=>224 | 4=>4 | 40=>343 | 39=>342 | 45=>192 | 5=>5 | 9=>9 | 51=>361 | 55=>365 | 57=>372 | 58=>373 | 33=>258 | n=>n,fun | n=>n⟩
theorem Lay.sortedA:Go.Proofs.SlLaysZI.n6 Tryz.prog Lay.sortedA_ren:={
 mixed:=by kernel_rfl
 f6:=⟨Tryz.f107.name,by decide,Tryz.func107.trans (congrArg some (by kernel_rfl))⟩
 f8:=⟨Tryz.f166.name,by decide,Tryz.func166.trans (congrArg some (by kernel_rfl))⟩
 f11:=⟨Tryz.f217.name,by decide,Tryz.func217.trans (congrArg some (by kernel_rfl))⟩
 t0:=Tryz.underlying0
 a0:=Tryz.isAgg0
 z0:=Tryz.sizeOf0
 v0:=Tryz.zeroValue0
 t24:=Tryz.underlying100
 a24:=Tryz.isAgg100
 z24:=Tryz.sizeOf100
 v24:=Tryz.zeroValue100
 t26:=Tryz.underlying43
 a26:=Tryz.isAgg43
 z26:=Tryz.sizeOf43
 v26:=Tryz.zeroValue43
 t28:=Tryz.underlying169
 a28:=Tryz.isAgg169
 z28:=Tryz.sizeOf169
 v28:=Tryz.zeroValue169
 i26:=by kernel_rfl }
def Lay.sortA_ren:Go.Shelf.Ren:=⟨fun | 5=>167 | 8=>219 | 7=>218 | 19=>259 | 20=>260 | 10=>250 | 11=>251 | 12=>252 | 13=>253 | 14=>254 | 15=>255 | 16=>256 | 17=>257 | 18=>258 | 30=>277 | 31=>278 | 32=>279 | 33=>280 | 34=>281 | 35=>282 | 40=>290 | n=>n,fun | 23=>100 | 25=>43 | 3=>3 | 32=>225 | 22=>100 | 0=>0 | 44=>68 | 46=>224 | 4=>4 | 36=>343 | 35=>342 | 41=>192 | 5=>5 | 9=>9 | 53=>361 | 57=>365 | 63=>372 | 64=>373 | n=>n,fun | n=>n⟩
theorem Lay.sortA:Go.Proofs.SlLaysM.n5 Tryz.prog Lay.sortA_ren:={
 mixed:=by kernel_rfl
 f5:=⟨Tryz.f167.name,by decide,Tryz.func167.trans (congrArg some (by kernel_rfl))⟩
 f7:=⟨Tryz.f218.name,by decide,Tryz.func218.trans (congrArg some (by kernel_rfl))⟩
 f8:=Tryz.func219.trans (congrArg some (by kernel_rfl))
 f10:=⟨Tryz.f250.name,by decide,Tryz.func250.trans (congrArg some (by kernel_rfl))⟩
 f11:=⟨Tryz.f251.name,by decide,Tryz.func251.trans (congrArg some (by kernel_rfl))⟩
 f12:=⟨Tryz.f252.name,by decide,Tryz.func252.trans (congrArg some (by kernel_rfl))⟩
 f13:=⟨Tryz.f253.name,by decide,Tryz.func253.trans (congrArg some (by kernel_rfl))⟩
 f14:=⟨Tryz.f254.name,by decide,Tryz.func254.trans (congrArg some (by kernel_rfl))⟩
 f15:=⟨Tryz.f255.name,by decide,Tryz.func255.trans (congrArg some (by kernel_rfl))⟩
 f16:=⟨Tryz.f256.name,by decide,Tryz.func256.trans (congrArg some (by kernel_rfl))⟩
 f17:=⟨Tryz.f257.name,by decide,Tryz.func257.trans (congrArg some (by kernel_rfl))⟩
 f18:=⟨Tryz.f258.name,by decide,Tryz.func258.trans (congrArg some (by kernel_rfl))⟩
 f19:=Tryz.func259.trans (congrArg some (by kernel_rfl))
 f20:=Tryz.func260.trans (congrArg some (by kernel_rfl))
 f30:=⟨Tryz.f277.name,by decide,Tryz.func277.trans (congrArg some (by kernel_rfl))⟩
 f31:=Tryz.func278.trans (congrArg some (by kernel_rfl))
 f32:=Tryz.func279.trans (congrArg some (by kernel_rfl))
 f33:=⟨Tryz.f280.name,by decide,Tryz.func280.trans (congrArg some (by kernel_rfl))⟩
 f34:=⟨Tryz.f281.name,by decide,Tryz.func281.trans (congrArg some (by kernel_rfl))⟩
 f35:=⟨Tryz.f282.name,by decide,Tryz.func282.trans (congrArg some (by kernel_rfl))⟩
 f40:=⟨Tryz.f290.name,by decide,Tryz.func290.trans (congrArg some (by kernel_rfl))⟩
 t0:=Tryz.underlying0
 a0:=Tryz.isAgg0
 z0:=Tryz.sizeOf0
 v0:=Tryz.zeroValue0
 t3:=Tryz.underlying3
 a3:=Tryz.isAgg3
 z3:=Tryz.sizeOf3
 v3:=Tryz.zeroValue3
 t4:=Tryz.underlying4
 a4:=Tryz.isAgg4
 z4:=Tryz.sizeOf4
 v4:=Tryz.zeroValue4
 t5:=Tryz.underlying5
 a5:=Tryz.isAgg5
 z5:=Tryz.sizeOf5
 v5:=Tryz.zeroValue5
 t9:=Tryz.underlying9
 a9:=Tryz.isAgg9
 z9:=Tryz.sizeOf9
 v9:=Tryz.zeroValue9
 t22:=Tryz.underlying100
 a22:=Tryz.isAgg100
 z22:=Tryz.sizeOf100
 v22:=Tryz.zeroValue100
 t23:=Tryz.underlying100
 a23:=Tryz.isAgg100
 z23:=Tryz.sizeOf100
 v23:=Tryz.zeroValue100
 t25:=Tryz.underlying43
 a25:=Tryz.isAgg43
 z25:=Tryz.sizeOf43
 v25:=Tryz.zeroValue43
 t32:=Tryz.underlying225
 a32:=Tryz.isAgg225
 z32:=Tryz.sizeOf225
 v32:=Tryz.zeroValue225
 t35:=Tryz.underlying342
 a35:=Tryz.isAgg342
 z35:=Tryz.sizeOf342
 v35:=Tryz.zeroValue342
 t36:=Tryz.underlying343
 a36:=Tryz.isAgg343
 z36:=Tryz.sizeOf343
 v36:=Tryz.zeroValue343
 t41:=Tryz.underlying192
 a41:=Tryz.isAgg192
 z41:=Tryz.sizeOf192
 v41:=Tryz.zeroValue192
 t44:=Tryz.underlying68
 a44:=Tryz.isAgg68
 z44:=Tryz.sizeOf68
 v44:=Tryz.zeroValue68
 t46:=Tryz.underlying224
 a46:=Tryz.isAgg224
 z46:=Tryz.sizeOf224
 v46:=Tryz.zeroValue224
 t53:=Tryz.underlying361
 a53:=Tryz.isAgg361
 z53:=Tryz.sizeOf361
 v53:=Tryz.zeroValue361
 t57:=Tryz.underlying365
 a57:=Tryz.isAgg365
 z57:=Tryz.sizeOf365
 v57:=Tryz.zeroValue365
 t63:=Tryz.underlying372
 a63:=Tryz.isAgg372
 z63:=Tryz.sizeOf372
 v63:=Tryz.zeroValue372
 t64:=Tryz.underlying373
 a64:=Tryz.isAgg373
 z64:=Tryz.sizeOf373
 v64:=Tryz.zeroValue373 }
theorem Lay.sortsA (m:Nat):AnyZI.SortsIn Tryz.prog Lay.sortedA_ren Fence.wide m :=
 ⟨λblk off cap ss W hH hblk hsz=>callsIn_wide.2 (AnyM.slices_Sort_int Lay.sortA blk off cap ss W hH hblk hsz),
  λp cap W=>callsIn_wide.2 (AnyM.slices_Sort_int_none Lay.sortA p cap W)⟩
def anyR:Value→Option (DataW Unit×List MemPlace):=λ_=>some (.lit (.bool true),[])
theorem mapFit {es:Array MapEntry}{clock:Nat}{kvs:List (Int×Value)}(h:MapIs es clock kvs)(hl:kvs.length≤maxLen):WideElems.Fit Tryz.prog 43 anyR es clock:=by
 obtain⟨h1,h2,h3⟩:=h
 have hlen:es.size=kvs.length:=by have:=congrArg List.length h1;simpa using this
 refine⟨by omega,h2,λx hx=>?_⟩
 have hm:(x.key,x.val)∈es.toList.map (λe=>(e.key,e.val)):=List.mem_map.2 ⟨x,hx,rfl⟩
 rw[h1]at hm
 obtain⟨p,hp,hpe⟩:=List.mem_map.1 hm
 simp only[Prod.mk.injEq]at hpe
 refine⟨(.int .i64 p.1,.lit (.bool true)),?_⟩
 simp[WideElems.rd,← hpe.1,keyOf_int_mk Tryz.underlying43 (h3 p hp),anyR]
theorem mapKeys {es:Array MapEntry}{clock:Nat}{kvs:List (Int×Value)}(h:MapIs es clock kvs):(intKeys (DataW.map ((es.toList.map (WideElems.rg Tryz.prog 43 anyR)).foldr DataW.insert []))).Perm (kvs.map (·.1)):=by
 have hp:=WideShapes.sorted_perm (es.toList.map (WideElems.rg Tryz.prog 43 anyR))
 have h4:(es.toList.map (WideElems.rg Tryz.prog 43 anyR)).map (λp=>Go.intOf p.1)=kvs.map (·.1):=by
   obtain⟨h1,_,h3⟩:=h
   have : ∀ (l : List MapEntry) (m : List (Int × Value)), l.map (fun e => (e.key, e.val)) = m.map (fun p => (Value.int .i64 p.1, p.2)) → (∀ p ∈ m, (Lit.int .i64 p.1).wf = true) →
       (l.map (WideElems.rg Tryz.prog 43 anyR)).map (λp=>Go.intOf p.1)=m.map (·.1):=by
     intro l
     induction l with
     | nil=>intro m h _;cases m with
       | nil=>rfl
       | cons=>simp at h
     | cons e l ih =>
       intro m h hw
       cases m with
       | nil=>simp at h
       | cons p m =>
         simp only[List.map_cons,List.cons.injEq,Prod.mk.injEq]at h
         simp only[List.map_cons,ih m h.2 (λq hq=>hw q (List.mem_cons_of_mem _ hq))]
         have hr:WideElems.rg Tryz.prog 43 anyR e=(Lit.int .i64 p.1,(DataW.lit (.bool true):DataW Unit)):=by
           simp only[WideElems.rg,WideElems.rd,h.1.1,keyOf_int_mk Tryz.underlying43 (hw p List.mem_cons_self),anyR,Option.bind_some,Option.map_some,Option.getD_some]
         rw[hr]
         rfl
   exact this _ _ h1 h3
 have:=hp.map (λp:Lit×DataW Unit=>Go.intOf p.1)
 rw[h4]at this
 exact this
section
variable {W w:World}{L:List SP}{m:Nat}{kvs:List (Int×Value)}
theorem maps_keys (hs:St W w L):Calls Tryz.prog 108 #[.map (some m)] w λe w' =>
   ∃ b,e=.returned (.func (.func 168) #[] #[pt b])∧St W w' (blk b 171 [.map (some m)]::L):=by
 have h:=AnyZI.keys_in Lay.keysA Fence.wide 5 trivial rfl (some m) w
 refine (callsIn_wide.1 h).mono λe w' ⟨h1,h2⟩=>?_
 subst h2
 exact⟨_,h1,hs.alloc _⟩
theorem sorted_of_perm {ss ks:List Int}(hp:ss.Perm ks)(hk:ks.Pairwise (· < ·)):ss.mergeSort (λx y=>decide (x≤y))=ks:=by
 have h1:=List.pairwise_mergeSort (le:=λx y:Int=>decide (x≤y)) (λa b c h1 h2=>by simp at *;omega) (λa b=>by simp;omega) ss
 refine List.Perm.eq_of_pairwise (le:=λx y:Int=>decide (x≤y)=true) (λa b _ _ h1 h2=>by simp at *;omega) h1 (hk.imp λh=>by simp;omega) ((List.mergeSort_perm _ _).trans hp)
theorem St.ownsRow {w':World}{e sz:Nat}{v:Value}{n:Nat}{xs:List Value}(hs:St W w L)(hb:Below w.heap.size w w')(hr:w'.ownsRow w.heap.size e sz v n xs) :
   ∃ ad c,v=.slice ad n c∧St W w' (Sl e sz ad n c xs::L):=by
 obtain⟨b0,h,p,q⟩:=hs
 have hB:Below W.heap.size W w':=b0.trans ⟨hb.os,hb.tape,hb.output,hb.size,λk hk=>hb.block k (Nat.lt_of_lt_of_le hk b0.size)⟩
 have hsat:∀ n o,h n=some o→W.heap.size≤n∧w'.heap[n]?=some o:=λn o ho=>by
   obtain⟨h1,h2⟩:=p n o ho
   refine⟨h1,?_⟩
   rw[hb.block n (Array.getElem?_eq_some_iff.1 h2).1];exact h2
 have hs':St W w' L:=⟨hB,h,hsat,q⟩
 obtain⟨hl,hr⟩:=hr
 rcases hr with ⟨rfl,hn⟩ | ⟨g,cap,cur,rfl,hg,hc,hnc,_,hsz,ht⟩
 · subst hn
   refine⟨none,0,rfl,?_⟩
   obtain rfl:xs=[]:=List.eq_nil_of_length_eq_zero (by rw[hl,Nat.zero_mul])
   exact hs'.sl0 _ _ _
 · have hgn : h g = none := by
     cases he:h g with
     | none=>rfl
     | some x =>
       have:=(Array.getElem?_eq_some_iff.1 (p g x he).2).1
       omega
   refine⟨some ⟨g,0,none⟩,cap,rfl,?_⟩
   have h2:St W w' (blk g e ([]++xs++cur.toList.drop (n*sz))::L):=by
     refine⟨hB,λk=>if k=g then some (.cells cur e (0,0)) else h k,λk o ho=>?_,λk=>if k=g then some (.cells cur e (0,0)) else none,h,λk=>?_,λk o ho=>?_,λk o ho=>?_,?_,q⟩
     · by_cases hk:k=g
       · simp[hk]at ho;subst ho;subst hk
         exact⟨Nat.le_trans b0.size hg,hc⟩
       · simp[hk]at ho;exact hsat k o ho
     · by_cases hk:k=g
       · right;rw[hk];exact hgn
       · left;simp[hk]
     · by_cases hk:k=g <;> simp[hk]at ho ⊢;exact ho
     · by_cases hk:k=g
       · rw[hk,hgn]at ho;cases ho
       · simp[hk,ho]
     · have : ([] ++ xs ++ cur.toList.drop (n * sz)).toArray = cur := by
         rw[← ht];simp
       simp only[blk,pts,this,if_true]
   have hlen:xs.length+(cur.toList.drop (n*sz)).length=cap*sz:=by
     have:(cur.toList).length=cap*sz:=by simpa using hsz
     rw[List.length_drop,this,hl]
     have:=Nat.mul_le_mul_right sz hnc
     omega
   have h3:=St.slShut (pre:=[]) (cs:=xs) (n:=n) (c:=cap) (sz:=sz) h2 hl hnc (by rw[Nat.sub_mul];omega)
   simpa using h3
theorem sorted_keys {b:Nat}(hs:St W w (blk b 171 [.map (some m)]::mp m kvs::L))(hk:(kvs.map (·.1)).Pairwise (· < ·))(hl:kvs.length≤1099511627776) :
   Calls Tryz.prog 107 #[.func (.func 168) #[] #[pt b]] w λe w' =>
   ∃ ad c,e=.returned (.slice ad kvs.length c)∧St W w' (Sl 43 1 ad kvs.length c (kvs.map λp=>.int .i64 p.1)::mp m kvs::L):=by
 have hs2:=hs.tail
 obtain⟨es,clock,hm,hs3⟩:=hs2.mpHas
 have hlm:(1099511627776:Nat)≤maxLen:=by unfold maxLen;omega
 have hsz:es.size=kvs.length:=by have:=congrArg List.length hm.1;simpa using this
 have hF:=mapFit hm (Nat.le_trans hl hlm)
 have hown:w.ownsMap Tryz.prog 43 anyR m es.size (.map ((es.toList.map (WideElems.rg Tryz.prog 43 anyR)).foldr DataW.insert [])):=⟨es,clock,hs3.has.2,hF,Nat.le_refl _,rfl⟩
 have hD:Maps.size (DataW.map ((es.toList.map (WideElems.rg Tryz.prog 43 anyR)).foldr DataW.insert []))≤kvs.length:=by rw[← hsz];exact hown.size_le
 have hcell:w.cell? ⟨b,0,none⟩=some (.map (some m)):=hs.cell 0
 have hb:b<w.heap.size:=World.block_lt_of_cell? _ _ hcell
 have hseq:SeqGives Fence.wide 2 Tryz.prog 168 #[pt b] encZ (λss=>ss.Perm (intKeys (DataW.map ((es.toList.map (WideElems.rg Tryz.prog 43 anyR)).foldr DataW.insert [])))) (Maps.size (DataW.map ((es.toList.map (WideElems.rg Tryz.prog 43 anyR)).foldr DataW.insert []))) w :=
   AnyZI.keys_gives (ρ:=Lay.keysA_ren) { Lay.keysA with } Fence.wide _ trivial rfl (by omega) b m _ _ w hb hcell hown
 have cS:=AnyZI.sorted_in Lay.sortedA Fence.wide 5 trivial trivial trivial trivial rfl (by omega) (Lay.sortsA _) (enters_of Tryz.func167 (by kernel_rfl) rfl)
   168 #[pt b] trivial
   (enters_of Tryz.func168 (by kernel_rfl) rfl) _ _ (by omega) (by omega) _ hseq
 refine (callsIn_wide.1 cS).mono λe w' ⟨v,ss,h1,h2,h3,_,h5⟩=>?_
 subst h1
 have hp:=h2.trans (mapKeys hm)
 rw[sorted_of_perm hp hk]at h3
 have hlen:ss.length=kvs.length:=by have:=hp.length_eq;simpa using this
 rw[hlen]at h3
 obtain⟨ad,c,rfl,h6⟩:=hs2.ownsRow h5 h3
 refine⟨ad,c,rfl,?_⟩
 have h7:(kvs.map (·.1)).map encZ=kvs.map λp=>Value.int .i64 p.1:=by simp[encZ,Function.comp_def]
 rw[h7]at h6
 exact h6
end
end
end Go.Proofs.YtdilfdkendjjhaaGreat
