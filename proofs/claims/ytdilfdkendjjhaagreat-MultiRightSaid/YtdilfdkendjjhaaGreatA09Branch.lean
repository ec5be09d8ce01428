/- The walks of package branch. -/
import Derived.Test.YtdilfdkendjjhaaGreatA04Ty
import Derived.Test.YtdilfdkendjjhaaGreatA08Snap2
namespace Go.Proofs.YtdilfdkendjjhaaGreat
open Go.RowKit
set_option linter.unusedVariables false
set_option linter.unusedSimpArgs false
set_option maxRecDepth 10000
set_option synthInstance.maxSize 4000
set_option synthInstance.maxHeartbeats 400000
section
structure Br where
 id:Nat
 frm:Int
 press:List (List UInt8)
 done:Nat
 snap:Nat
structure Tr where
 most:Nat
 l:List Br
 last:Nat
 epoch:Nat
def OkP (p:List (List UInt8)):Prop:=p.length≤65536∧∀ b∈p,b.length≤1099511627776
abbrev brC (x:Br)(ad:Option Addr)(c:Nat):List Value:=[.int .i64 x.id,.int .i64 x.frm,.slice ad x.press.length c,.int .i64 x.done,.int .i64 x.snap]
abbrev Bx:=Br×Option Addr×Nat
abbrev brc (x:Bx):List Value:=brC x.1 x.2.1 x.2.2
def bro (x:Bx):SP:=OwnBB x.2.1 x.1.press.length x.2.2 x.1.press
theorem brc_len (x:Bx):(brc x).length=5:=rfl
structure WT (T:Tr):Prop where
 most:T.most≤8∧T.l.length≤T.most
 last:T.last<1099511627776
 epoch:T.epoch<1099511627776
 ids:(T.l.map (·.id)).Pairwise (· < ·)
 ok:∀ x∈T.l,OkP x.press∧x.done≤x.press.length∧1≤x.id∧x.id≤T.last
def Tree (tq sq:Nat)(T:Tr):SP:=λh=>∃ ad c xs,(xs.map (·.1)=T.l∧WT T) ∧
 sepL [blk tq 122 [pt sq,.int .i64 T.most,.slice ad T.l.length c,.int .i64 T.last,.int .i64 T.epoch],Sl 45 5 ad T.l.length c (rows brc xs),All bro xs] h
section
variable {W w:World}{L L' R:List SP}{tq sq q r n c k:Nat}{ad:Option Addr}{A:Sn}{T:Tr}{x y:Br}{xs:List Bx}{p:List (List UInt8)}
theorem Tree.open (hs:St W w (Tree tq sq T::L)):∃ ad c xs,xs.map (·.1)=T.l∧WT T ∧
   St W w (blk tq 122 [pt sq,.int .i64 T.most,.slice ad T.l.length c,.int .i64 T.last,.int .i64 T.epoch]::Sl 45 5 ad T.l.length c (rows brc xs)::All bro xs::L):=by
 obtain⟨⟨ad,c,xs⟩,⟨h1,h2⟩,h4⟩:=hs.exi (ι:=Option Addr×Nat×List Bx) (p:=λi=>i.2.2.map (·.1)=T.l∧WT T)
   (B:=λi h=>sepL [blk tq 122 [pt sq,.int .i64 T.most,.slice i.1 T.l.length i.2.1,.int .i64 T.last,.int .i64 T.epoch],Sl 45 5 i.1 T.l.length i.2.1 (rows brc i.2.2),All bro i.2.2] h)
   (λh ⟨ad,c,xs,h1,h2⟩=>⟨(ad,c,xs),h1,h2⟩)
 exact⟨ad,c,xs,h1,h2,h4.open λ_ h=>h⟩
theorem Tree.close {most last epoch:Nat}(hs:St W w L)[k:Arr L (blk tq 122 [pt sq,.int .i64 most,.slice ad n c,.int .i64 last,.int .i64 epoch]::Sl 45 5 ad n c (rows brc xs)::All bro xs::L') R]
   (h1:xs.map (·.1)=T.l) (h2:WT T) (e1:T.most=most:=by rfl) (e2:T.l.length=n:=by rfl) (e3:T.last=last:=by rfl) (e4:T.epoch=epoch:=by rfl):St W w (Tree tq sq T::L'):=by
 subst e1 e2 e3 e4
 exact St.shut (M:=[_,_,_]) (hs.sub (M:=blk tq 122 [pt sq,.int .i64 T.most,.slice ad T.l.length c,.int .i64 T.last,.int .i64 T.epoch]::Sl 45 5 ad T.l.length c (rows brc xs)::All bro xs::L')) (λ_ x=>⟨ad,c,xs,⟨h1,h2⟩,x⟩)
theorem Tree.same (ad:Option Addr)(c:Nat)(xs:List Bx)(hs:St W w L)[k:Arr L (blk tq 122 [pt sq,.int .i64 T.most,.slice ad T.l.length c,.int .i64 T.last,.int .i64 T.epoch]::Sl 45 5 ad T.l.length c (rows brc xs)::All bro xs::L') R]
   (h1:xs.map (·.1)=T.l) (h2:WT T):St W w (Tree tq sq T::L') :=
 St.shut (M:=[_,_,_]) (hs.sub (M:=blk tq 122 [pt sq,.int .i64 T.most,.slice ad T.l.length c,.int .i64 T.last,.int .i64 T.epoch]::Sl 45 5 ad T.l.length c (rows brc xs)::All bro xs::L')) (λ_ x=>⟨ad,c,xs,⟨h1,h2⟩,x⟩)
class PickT (L:List SP)(tq:Nat)(sq:outParam Nat)(T:outParam Tr)(R:outParam (List SP)):Prop where perm:L.Perm (Tree tq sq T::R)
instance PickT.head {L tq sq T}:PickT (Tree tq sq T::L) tq sq T L:=⟨List.Perm.refl _⟩
instance (priority:=low) PickT.tail {B L tq sq T R}[h:PickT L tq sq T R]:PickT (B::L) tq sq T (B::R):=⟨(List.Perm.cons B h.perm).trans (List.Perm.swap _ _ _)⟩
theorem St.tree (hs:St W w L)(tq:Nat)[k:PickT L tq sq T R]:St W w (Tree tq sq T::R):=hs.perm k.perm
theorem Tree.wt (hs:St W w (Tree tq sq T::L)):WT T:=by obtain⟨_,_,_,_,h,_⟩:=Tree.open hs;exact h
theorem bx_at (h1:xs.map (·.1)=T.l)(hx:T.l[k]?=some x):∃ ad c,xs[k]?=some (x,ad,c):=by
 rw[← h1,List.getElem?_map]at hx
 obtain⟨⟨y,ad,c⟩,h2,rfl⟩:=Option.map_eq_some_iff.1 hx
 exact⟨ad,c,h2⟩
theorem row_rd {b off:Nat}(hr:Rd w b off (rows brc xs)){ad':Option Addr}{c':Nat}(hx:xs[k]?=some (x,ad',c')):Rd w b (off+k*5) (brC x ad' c'):=by
 obtain⟨hi,he⟩:=List.getElem?_eq_some_iff.1 hx
 have:=hr.part (k*5) 5
 rw[rows_at brc_len xs k hi,he]at this
 exact this
theorem All.rdBB (hs:St W w (All bro xs::L)){ad':Option Addr}{c':Nat}(hx:xs[k]?=some (x,ad',c')):RdBB w ad' x.press.length x.press∧x.press.length≤c':=by
 obtain⟨hi,he⟩:=List.getElem?_eq_some_iff.1 hx
 have h:=hs.allOut hi
 rw[he]at h
 have h2:St W w (OwnBB ad' x.press.length c' x.press::_):=h
 exact⟨OwnBB.rd h2,(OwnBB.le h2).2⟩
theorem tree_new {s:Nat}{m:Int}(hs:St W w L):Calls Tryz.prog 50 #[pt s,.int .i64 m] w λe w'=>∃ tq,e=.returned (pt tq)∧St W w' (Tree tq s ⟨(min (max m 0) 8).toNat,[],0,0⟩::L):=by
 refine EN Tryz.func50 Tryz.ntmps50 rfl rfl λa ha=>?_
 refine BX 8 ha hs λb10 a w ha hs=>?_
 refine RT 1 ha hs ?_
 rw[show min (max m 0) 8=(((min (max m 0) 8).toNat:Nat):Int) from by omega]at hs
 have h:St W w (Sl 45 5 none 0 0 (rows brc [])::All bro []::blk b10 122 [pt s,.int .i64 (((min (max m 0) 8).toNat:Nat):Int),.slice none 0 0,.int .i64 ((0:Nat):Int),.int .i64 ((0:Nat):Int)]::L):=(hs.allNil (f:=bro)).sl0 45 5 none
 exact⟨b10,rfl,Tree.close (T:=⟨(min (max m 0) 8).toNat,[],0,0⟩) (most:=(min (max m 0) 8).toNat) (ad:=none) (c:=0) (n:=0) (last:=0) (epoch:=0) (xs:=[]) h rfl ⟨⟨by simp only;omega,Nat.zero_le _⟩,by simp,by simp,by simp,by simp⟩⟩
def alikeP (a b:List (List UInt8)):Bool:=a.take (min a.length b.length)==b.take (min a.length b.length)
theorem alike_pure {u v:List (List UInt8)}{ad2:Option Addr}{c2:Nat}(ha':RdBB w ad u.length u)(hb':RdBB w ad2 v.length v)(hc1:u.length≤c)(hc2:v.length≤c2)(hb:u.length≤1099511627776) :
   Calls Tryz.prog 152 #[.slice ad u.length c,.slice ad2 v.length c2] w λe w'=>e=.returned (.bool (alikeP u v))∧w'=w.drew:=by
 obtain⟨W,hw0⟩:∃ W,w=W:=⟨w,rfl⟩
 have hs:St W w []:=hw0 ▸ St.start w
 refine EN Tryz.func152 Tryz.ntmps152 rfl rfl λa ha=>?_
 refine RN 8 ha hs λa ha=>?_
 rw[show min (u.length:Int) (v.length:Int)=((min u.length v.length:Nat):Int) from by omega]at ha
 refine RN 2 ha hs λa ha=>?_
 have ha2:RdBB w.drew ad u.length u:=ha'
 have hb2:RdBB w.drew ad2 v.length v:=hb'
 refine DWG 0 (λ_=>True) [] [0,1,2,3,4,5,1006,7] ha hs λa ha=>?_
 replace hs:=hs.drew
 generalize w.drew=w at hs ha2 hb2 ⊢
 have hC:=trivial
 have hH:=Hd.any (λ_=>True)
 refine RH 6 ha hs hH hC λa ha=>?_
 rw[cutAd_zero,cutAd_zero,Nat.sub_zero,Nat.sub_zero,Nat.sub_zero]at ha
 refine CL 0 ha hs (equal_func (p:=u.take (min u.length v.length)) (q:=v.take (min u.length v.length)) (ha2.take (by omega)) (hb2.take (by omega)) (by omega)) λa w ha hx=>?_
 obtain rfl:=hx
 refine RN 1 ha (St.start _) λa ha=>?_
 refine RT 0 ha (St.start _) ?_
 exact⟨rfl,rfl⟩
theorem alike_spec {u v:List (List UInt8)}{ad2:Option Addr}{c2:Nat}(hs:St W w L)(ha':RdBB w ad u.length u)(hb':RdBB w ad2 v.length v)(hc1:u.length≤c)(hc2:v.length≤c2)(hb:u.length≤1099511627776) :
   Calls Tryz.prog 152 #[.slice ad u.length c,.slice ad2 v.length c2] w λe w'=>e=.returned (.bool (alikeP u v))∧St W w' L :=
 (alike_pure ha' hb' hc1 hc2 hb).mono λe w' ⟨h1,h2⟩=>⟨h1,by subst h2;exact hs.drew⟩
theorem clone_spec {m:Nat}{zs:List BBx}(hs:St W w L)(hr:∀ w',St W w' L→RdX w' ad zs)(hm:zs.length=m)(hok:OkP (zs.map (·.2.2))) :
   Calls Tryz.prog 131 #[.slice ad m c] w λe w'=>∃ ad' c',e=.returned (.slice ad' m c')∧St W w' (OwnBB ad' m c' (zs.map (·.2.2))::L):=by
 obtain⟨hok1,hok2⟩:=hok
 rw[List.length_map]at hok1
 refine EN Tryz.func131 Tryz.ntmps131 rfl rfl λa ha=>?_
 refine RN 6 ha hs λa ha=>?_
 replace hs:=OwnBB.nil hs
 refine RN 3 ha hs λa ha=>?_
 refine wp_loop_ghost (λμ a w=>∃ (k:Nat) (ad3:Option Addr) (c3:Nat),(μ=m-k∧k≤m)∧Fr a 19 [(3,.slice ad3 k c3),(6,.slice ad m c),(7,.int .i64 m),(8,.int .i64 k)]∧St W w (OwnBB ad3 k c3 ((zs.map (·.2.2)).take k)::L)) (m) (⟨0,none,0,⟨by simp,by simp⟩,ha.keep [3,6,7,8],hs⟩) ?_
 clear ha hs
 rintro μ a w ⟨k,ad3,c3,⟨rfl,hk⟩,ha,hs⟩
 refine IF 3 ha hs (λhc0 a ha=>?_) λhc0 a ha=>?_
 ·
  refine RN 2 ha hs λa ha=>?_
  obtain⟨b1,o1,rfl,h1⟩:=(hr _ hs.tail).1 (by omega)
  have hx1:zs[k]?=some zs[k]:=List.getElem?_eq_getElem (by omega)
  have hbl:=hok2 zs[k].2.2 (List.mem_map.2 ⟨zs[k],List.getElem_mem _,rfl⟩)
  have hcell:=h1 k _ (by rw[List.getElem?_map,hx1];rfl)
  refine RN 1 ha hs λa ha=>?_
  refine SS ha (ld1 ha (hcell)) λa ha=>?_
  refine CL2 3 ha hs (bytes_clone (bs:=zs[k].2.2) hs (λw' h=>(hr _ h.tail).2 _ (List.getElem_mem _)) hbl) λad4 c4 a w ha hs=>?_
  refine RN 0 ha hs λa ha=>?_
  refine st_buildSlice ha rfl hs Tryz.underlying42 Ty.t22 rfl rfl rfl rfl (by decide) (by decide) λb15 a w ha hs ho=>?_
  clear ho
  obtain⟨ys,hy1,hy2,hs⟩:=OwnBB.open (hs.pick (OwnBB ad3 k c3 ((zs.map (·.2.2)).take k)))
  refine RN 0 ha hs λa ha=>?_
  refine st_append ha rfl hs Tryz.underlying42 Ty.t22 rfl rfl hs.rdAll rfl (by simp[Value.oneCell']) (by decide) (by decide) (by omega) λad16 c16 a w ha hs=>?_
  have h8:=St.allPush (f:=bbo) (l:=ys) (x:=(ad4,c4,zs[k].2.2)) (hs.sub (M:=Sl 5 1 ad4 zs[k].2.2.length c4 (bc zs[k].2.2)::All bbo ys::Sl 22 1 ad16 (k+1) c16 (ys.map bbv++[[.slice ad4 zs[k].2.2.length c4]].flatten)::L))
  have h9:St W w (All bbo (ys++[(ad4,c4,zs[k].2.2)])::Sl 22 1 ad16 (k+1) c16 ((ys++[(ad4,c4,zs[k].2.2)]).map bbv)::L):=by
    rw[List.map_append];exact h8
  have hkl:k<(zs.map (·.2.2)).length:=by rw[List.length_map];omega
  have h10:=OwnBB.close (p:=(zs.map (·.2.2)).take (k+1)) (ad:=ad16) (n:=k+1) (c:=c16) (xs:=ys++[(ad4,c4,zs[k].2.2)]) (L':=L) h9 (by rw[List.map_append,hy1,List.take_succ_eq_append_getElem hkl];simp) (by rw[List.length_take];omega)
  replace hs:=h10
  clear h8 h9 h10
  refine RN 3 ha hs λa ha=>?_
  exact⟨m-(k+1),by omega,k+1,_,_,⟨rfl,by omega⟩,ha.keep [3,6,7,8],hs⟩
 refine RT 3 ha hs ?_
 obtain rfl:k=m:=by omega
 rw[List.take_of_length_le (by rw[List.length_map];omega)]at hs
 exact⟨_,_,rfl,hs⟩
theorem own_branch {zs:List BBx}{ad':Option Addr}{c':Nat}(hs:St W w L)(hr:∀ w',St W w' L→RdX w' ad' zs)(hz:zs.map (·.2.2)=x.press)(hok:OkP x.press) :
   Calls Tryz.prog 58 #[.agg (brC x ad' c').toArray] w λe w'=>∃ ad2 c2,e=.returned (.agg (brC x ad2 c2).toArray)∧St W w' (OwnBB ad2 x.press.length c2 x.press::L):=by
 have hzl:zs.length=x.press.length:=by rw[← hz,List.length_map]
 refine EN Tryz.func58 Tryz.ntmps58 rfl rfl λa ha=>?_
 refine BX 1 ha hs λb1 a w ha hs=>?_
 refine AL 0 ha hs λb2 a w ha hs=>?_
 refine CL2 3 ha hs (clone_spec hs (λw' h=>hr w' h.tail.tail) hzl (by rw[hz];exact hok)) λad2 c2 a w ha hs=>?_
 rw[hz]at hs
 refine ST 1 ha hs (λa w ha hs=>?_) (hlt:=(by simp[brC]))
 refine SA 2 ha hs λa w ha hs=>?_
 refine RT 0 ha hs ?_
 exact⟨ad2,c2,rfl,hs.sub⟩
theorem find1_spec {b:Nat}{id:Int}{ad':Option Addr}{c':Nat}(hs:St W w (blk b 2 [.int .i64 id]::L)) :
   Calls Tryz.prog 234 #[.agg (brC x ad' c').toArray,pt b] w λe w'=>e=.returned (.bool (decide ((x.id:Int)=id)))∧St W w' (blk b 2 [.int .i64 id]::L):=by
 refine EN Tryz.func234 Tryz.ntmps234 rfl rfl λa ha=>?_
 refine BX 1 ha hs λb2 a w ha hs=>?_
 refine RT 7 ha hs ?_
 exact⟨rfl,hs.sub⟩
theorem index_func {b:Nat}{id:Int}{ad':Option Addr}{c':Nat}(hs:St W w (blk b 2 [.int .i64 id]::Sl 45 5 ad' n c' (rows brc xs)::L))(hb:n≤1048576) :
   Calls Tryz.prog 233 #[.slice ad' n c',.func (.func 234) #[] #[pt b]] w λe w' =>
     ∃ r:Int,e=.returned (.int .i64 r)∧((r = -1∧∀ y∈xs,(y.1.id:Int)≠id)∨∃ k y,r=(k:Nat)∧xs[k]?=some y∧(y.1.id:Int)=id)∧St W w' (Sl 45 5 ad' n c' (rows brc xs)::L):=by
 have hxl:xs.length=n:=by
   have:=(hs.tail.sl ad').1
   rw[rows_len brc_len]at this;omega
 refine EN Tryz.func233 Tryz.ntmps233 rfl rfl λa ha=>?_
 refine RN 7 ha hs λa ha=>?_
 refine wp_loop_ghost (λμ a w=>∃ k:Nat,(μ=n-k∧k≤n∧∀ j y,j<k→xs[j]?=some y→(y.1.id:Int)≠id)∧Fr a 19 [(0,.slice ad' n c'),(1,.func (.func 234) #[] #[pt b]),(7,.int .i64 n),(8,.int .i64 k)]∧St W w (blk b 2 [.int .i64 id]::Sl 45 5 ad' n c' (rows brc xs)::L)) (n) (⟨0,⟨by simp,by simp,by omega⟩,ha.keep [0,1,7,8],hs⟩) ?_
 clear ha hs
 rintro μ a w ⟨k,⟨rfl,hk,hno⟩,ha,hs⟩
 refine IF 3 ha hs (λhc0 a ha=>?_) λhc0 a ha=>?_
 ·
  refine RN 5 ha hs λa ha=>?_
  obtain⟨b',off',rfl,hrd⟩:=hs.tail.slRd ad' (by omega)
  obtain⟨⟨y,ya,yc⟩,hy⟩:∃ y,xs[k]?=some y:=⟨_,List.getElem?_eq_getElem (by omega)⟩
  have hrk:=row_rd hrd hy
  refine RN 4 ha hs λa ha=>?_
  refine SS ha (ex_loadN ha Tryz.underlying45 rfl Ty.t45 (hrk)) λa ha=>?_
  refine CL 0 ha hs (find1_spec (x:=y) (ad':=ya) (c':=yc) hs) λa w ha hs=>?_
  refine IF 0 ha hs (λhc1 a ha=>?_) λhc1 a ha=>?_
  ·
   skip
   refine RT 3 ha hs ?_
   exact⟨_,rfl,.inr ⟨k,(y,ya,yc),rfl,hy,hc1⟩,hs.tail⟩
  refine RN 2 ha hs λa ha=>?_
  refine⟨n-(k+1),by omega,k+1,⟨rfl,by omega,λj z hj hz=>?_⟩,ha.keep [0,1,7,8],hs⟩
  by_cases hjk:j=k
  · subst hjk
    rw[hy]at hz;cases hz
    exact hc1
  · exact hno j z (by omega) hz
 refine RT 2 ha hs ?_
 refine⟨-1,rfl,.inl ⟨rfl,λz hz=>?_⟩,hs.tail⟩
 obtain⟨j,hj⟩:=List.mem_iff_getElem?.1 hz
 have hjl:=(List.getElem?_eq_some_iff.1 hj).1
 exact hno j z (by omega) hj
theorem tree_find {id:Int}(hs:St W w (Tree tq sq T::L)) :
   Calls Tryz.prog 190 #[pt tq,.int .i64 id] w λe w' =>
     ∃ r:Int,e=.returned (.int .i64 r)∧((r = -1∧∀ y∈T.l,(y.id:Int)≠id)∨∃ k y,r=(k:Nat)∧T.l[k]?=some y∧(y.id:Int)=id)∧St W w' (Tree tq sq T::L):=by
 refine EN Tryz.func190 Tryz.ntmps190 rfl rfl λa ha=>?_
 refine BX 1 ha hs λb3 a w ha hs=>?_
 refine RN 5 ha hs λa ha=>?_
 replace ha:=ha.isF 6
 refine RN 2 ha hs λa ha=>?_
 obtain⟨ad,c,xs,h1,hw,hs⟩:=Tree.open (hs.tree tq)
 have hT:=hw.most
 refine CL1 5 ha hs (index_func (xs:=xs) (b:=b3) (id:=id) (ad':=ad) (c':=c) (n:=T.l.length) (L:=blk tq 122 [pt sq,.int .i64 T.most,.slice ad T.l.length c,.int .i64 T.last,.int .i64 T.epoch]::All bro xs::L) hs.sub (by omega)) λr a w ha ⟨hr,hs⟩=>?_
 refine RT 1 ha hs ?_
 refine⟨r,rfl,?_,Tree.same ad c xs hs h1 hw⟩
 rcases hr with ⟨h2,h3⟩ | ⟨k,y,h2,h3,h4⟩
 · refine .inl ⟨h2,λy hy=>?_⟩
   rw[← h1]at hy
   obtain⟨z,hz,rfl⟩:=List.mem_map.1 hy
   exact h3 z hz
 · exact .inr ⟨k,y.1,h2,by rw[← h1,List.getElem?_map,h3];rfl,h4⟩
theorem St.brOut (hs:St W w (All bro xs::L)){ad':Option Addr}{c':Nat}(hx:xs[k]?=some (x,ad',c')):∃ zs:List BBx,zs.map (·.2.2)=x.press∧x.press.length≤c' ∧
   St W w (Sl 22 1 ad' x.press.length c' (zs.map bbv)::All bbo zs::All bro (xs.eraseIdx k)::L):=by
 obtain⟨hi,he⟩:=List.getElem?_eq_some_iff.1 hx
 have h:=hs.allOut hi
 rw[he]at h
 have h2:St W w (OwnBB ad' x.press.length c' x.press::All bro (xs.eraseIdx k)::L):=h
 obtain⟨zs,h3,h4,h5⟩:=OwnBB.open h2
 exact⟨zs,h3,(OwnBB.le h2).2,h5⟩
theorem St.brIn {zs:List BBx}{ad':Option Addr}{c':Nat}(hs:St W w L)[kk:Arr L (Sl 22 1 ad' n c' (zs.map bbv)::All bbo zs::All bro (xs.eraseIdx k)::L') R](hx:xs[k]?=some (x,ad',c'))(hz:zs.map (·.2.2)=x.press)(hn:x.press.length=n):St W w (All bro xs::L'):=by
 subst hn
 obtain⟨hi,he⟩:=List.getElem?_eq_some_iff.1 hx
 have h1:=hs.sub (M:=Sl 22 1 ad' x.press.length c' (zs.map bbv)::All bbo zs::All bro (xs.eraseIdx k)::L')
 have h2:=OwnBB.close (L':=All bro (xs.eraseIdx k)::L') (p:=x.press) (ad:=ad') (n:=x.press.length) (c:=c') (xs:=zs) h1 hz rfl
 have h3:St W w (bro (x,ad',c')::All bro (xs.eraseIdx k)::L'):=h2
 have h4:=St.allPut hi h3
 rw[← he,List.set_getElem_self]at h4
 exact h4
theorem tree_get (hs:St W w (Tree tq sq T::L))(hx:T.l[k]?=some x) :
   Calls Tryz.prog 126 #[pt tq,.int .i64 x.id] w λe w'=>∃ ad c,e=.returned (.tuple #[.agg (brC x ad c).toArray,.bool true])∧St W w' (OwnBB ad x.press.length c x.press::Tree tq sq T::L):=by
 refine EN Tryz.func126 Tryz.ntmps126 rfl rfl λa ha=>?_
 refine AL 1 ha hs λb4 a w ha hs=>?_
 refine CL1 4 ha hs (tree_find (id:=(x.id:Int)) (hs.tree tq)) λr a w ha ⟨hr,hs⟩=>?_
 obtain⟨hw,hrk⟩:WT T∧r=(k:Nat):=by
   have hw:=Tree.wt hs
   refine⟨hw,?_⟩
   rcases hr with ⟨_,h3⟩ | ⟨j,y,h2,h3,h4⟩
   · exact absurd rfl (h3 x (List.mem_of_getElem? hx))
   · have hp:=List.pairwise_iff_getElem.1 hw.ids
     obtain⟨hj,rfl⟩:=List.getElem?_eq_some_iff.1 h3
     obtain⟨hk,rfl⟩:=List.getElem?_eq_some_iff.1 hx
     rcases Nat.lt_trichotomy j k with hl | hl | hl
     · have:=hp j k (by simpa using hj) (by simpa using hk) hl
       simp at this;omega
     · rw[h2,hl]
     · have:=hp k j (by simpa using hk) (by simpa using hj) hl
       simp at this;omega
 subst hrk
 have hkl:=(List.getElem?_eq_some_iff.1 hx).1
 have hox:=(hw.ok x (List.mem_of_getElem? hx)).1
 clear hr
 refine RN 5 ha hs λa ha=>?_
 rw[decide_eq_false (by omega)]at ha
 refine RN 2 ha hs λa ha=>?_
 obtain⟨ad,c,xs,h1,hw,hs⟩:=Tree.open (hs.tree tq)
 obtain⟨ax,cx,hxx⟩:=bx_at h1 hx
 obtain⟨b',off',rfl,hrd⟩:=hs.tail.slRd ad (by omega)
 have hrk:=row_rd hrd hxx
 refine RN 6 ha hs λa ha=>?_
 refine SS ha (ex_loadN ha Tryz.underlying45 rfl Ty.t45 (hrk)) λa ha=>?_
 obtain⟨zs,hz1,hz2,hs⟩:=St.brOut (hs.pick (All bro xs)) hxx
 refine CL2 0 ha hs (own_branch (x:=x) (ad':=ax) (c':=cx) hs (λw' h=>St.rdX h) hz1 hox) λad2 c2 a w ha hs=>?_
 refine SA 0 ha hs λa w ha hs=>?_
 refine RT 1 ha hs ?_
 have h5:=St.brIn (L':=OwnBB ad2 x.press.length c2 x.press::blk tq 122 [pt sq,.int .i64 T.most,.slice (some ⟨b',off',none⟩) T.l.length c,.int .i64 T.last,.int .i64 T.epoch]::Sl 45 5 (some ⟨b',off',none⟩) T.l.length c (rows brc xs)::L) hs hxx hz1 rfl
 refine⟨ad2,c2,rfl,?_⟩
 have h6:=Tree.same (tq:=tq) (sq:=sq) (T:=T) (L':=OwnBB ad2 x.press.length c2 x.press::L) (some ⟨b',off',none⟩) c xs h5 h1 hw
 exact h6.perm (List.Perm.swap _ _ _)
theorem tree_get_no {id:Int}(hs:St W w (Tree tq sq T::L))(hn:∀ y∈T.l,(y.id:Int)≠id) :
   Calls Tryz.prog 126 #[pt tq,.int .i64 id] w λe w'=>e=.returned (.tuple #[.agg (brC ⟨0,0,[],0,0⟩ none 0).toArray,.bool false])∧St W w' (Tree tq sq T::L):=by
 refine EN Tryz.func126 Tryz.ntmps126 rfl rfl λa ha=>?_
 refine AL 1 ha hs λb4 a w ha hs=>?_
 refine CL1 4 ha hs (tree_find (id:=id) (hs.tree tq)) λr a w ha ⟨hr,hs⟩=>?_
 obtain rfl:r = -1:=by
   rcases hr with ⟨h,_⟩ | ⟨j,y,_,h3,h4⟩
   · exact h
   · exact absurd h4 (hn y (List.mem_of_getElem? h3))
 clear hr
 refine RN 5 ha hs λa ha=>?_
 replace ha:=ha.isT 11
 refine SA 3 ha hs λa w ha hs=>?_
 refine RT 1 ha hs ?_
 exact⟨rfl,hs.sub⟩
theorem tree_epoch (hs:St W w (Tree tq sq T::L)) :
   Calls Tryz.prog 127 #[pt tq] w λe w'=>e=.returned (.int .i64 T.epoch)∧St W w' (Tree tq sq T::L):=by
 obtain⟨ad,c,xs,h1,hw,hs⟩:=Tree.open hs
 refine EN Tryz.func127 Tryz.ntmps127 rfl rfl λa ha=>?_
 refine RN 6 ha hs λa ha=>?_
 replace ha:=ha.isF 4
 refine RT 7 ha hs ?_
 exact⟨rfl,Tree.same ad c xs hs h1 hw⟩
def OwnBr (ad:Option Addr)(n c:Nat)(l:List Br):SP:=λh=>∃ ys:List Bx,(ys.map (·.1)=l∧l.length=n)∧sepL [Sl 45 5 ad n c (rows brc ys),All bro ys] h
theorem OwnBr.open {l:List Br}(hs:St W w (OwnBr ad n c l::L)):∃ ys:List Bx,ys.map (·.1)=l∧l.length=n∧St W w (Sl 45 5 ad n c (rows brc ys)::All bro ys::L):=by
 obtain⟨xs,⟨h1,h2⟩,h3⟩:=hs.exi (ι:=List Bx) (p:=λxs=>xs.map (·.1)=l∧l.length=n) (B:=λxs h=>sepL [Sl 45 5 ad n c (rows brc xs),All bro xs] h) (λh ⟨xs,h1,h2⟩=>⟨xs,h1,h2⟩)
 exact⟨xs,h1,h2,h3.open λ_ h=>h⟩
theorem OwnBr.close {l:List Br}(ys:List Bx)(hs:St W w L)[k:Arr L (Sl 45 5 ad n c (rows brc ys)::All bro ys::L') R](h1:ys.map (·.1)=l)(h2:l.length=n):St W w (OwnBr ad n c l::L') :=
 St.shut (M:=[_,_]) (hs.sub (M:=Sl 45 5 ad n c (rows brc ys)::All bro ys::L')) (λ_ x=>⟨ys,⟨h1,h2⟩,x⟩)
theorem OwnBr.nil (hs:St W w L):St W w (OwnBr none 0 0 []::L):=by
 have h:St W w (Sl 45 5 none 0 0 (rows brc [])::All bro []::L):=(hs.allNil (f:=bro)).sl0 45 5 none
 exact OwnBr.close [] h rfl rfl
theorem rows_snoc (ys:List Bx)(y:Bx):rows brc ys++[brc y].flatten=rows brc (ys++[y]):=by rw[rows_app];simp[rows]
theorem rows_snocC (ys:List Bx)(x:Br)(ad:Option Addr)(c:Nat):rows brc ys++[brC x ad c].flatten=rows brc (ys++[(x,ad,c)]):=rows_snoc ys (x,ad,c)
theorem tree_all (hs:St W w (Tree tq sq T::L)) :
   Calls Tryz.prog 19 #[pt tq] w λe w'=>∃ ad c,e=.returned (.slice ad T.l.length c)∧St W w' (OwnBr ad T.l.length c T.l::Tree tq sq T::L):=by
 obtain⟨ad,c,xs,h1,hw,hs⟩:=Tree.open hs
 have hxl:xs.length=T.l.length:=by rw[← h1,List.length_map]
 have hT:=hw.most
 refine EN Tryz.func19 Tryz.ntmps19 rfl rfl λa ha=>?_
 refine RN 6 ha hs λa ha=>?_
 replace ha:=ha.isF 7
 refine RN 5 ha hs λa ha=>?_
 replace hs:=OwnBr.nil hs
 refine RN 6 ha hs λa ha=>?_
 refine wp_loop_ghost (λμ a w=>∃ (k:Nat) (ad3:Option Addr) (c3:Nat),(μ=T.l.length-k∧k≤T.l.length)∧Fr a 24 [(3,.slice ad3 k c3),(11,.slice ad T.l.length c),(12,.int .i64 T.l.length),(13,.int .i64 k)]∧St W w (OwnBr ad3 k c3 (T.l.take k)::blk tq 122 [pt sq,.int .i64 T.most,.slice ad T.l.length c,.int .i64 T.last,.int .i64 T.epoch]::Sl 45 5 ad T.l.length c (rows brc xs)::All bro xs::L)) (T.l.length) (⟨0,none,0,⟨by simp,by simp⟩,ha.keep [3,11,12,13],hs⟩) ?_
 clear ha hs
 rintro μ a w ⟨k,ad3,c3,⟨rfl,hk⟩,ha,hs⟩
 refine IF 3 ha hs (λhc1 a ha=>?_) λhc1 a ha=>?_
 ·
  refine RN 2 ha hs λa ha=>?_
  obtain⟨b',off',rfl,hrd⟩:=hs.slRd ad (by omega)
  obtain⟨⟨x,ax,cx⟩,hxx⟩:∃ y,xs[k]?=some y:=⟨_,List.getElem?_eq_getElem (by omega)⟩
  have hrk:=row_rd hrd hxx
  have hTx:T.l[k]?=some x:=by rw[← h1,List.getElem?_map,hxx];rfl
  have hox:=(hw.ok x (List.mem_of_getElem? hTx)).1
  refine RN 1 ha hs λa ha=>?_
  refine SS ha (ex_loadN ha Tryz.underlying45 rfl Ty.t45 (hrk)) λa ha=>?_
  refine AL 0 ha hs λb5 a w ha hs=>?_
  refine SA 0 ha hs λa w ha hs=>?_
  refine RN 2 ha hs λa ha=>?_
  obtain⟨zs,hz1,hz2,hs⟩:=St.brOut (hs.pick (All bro xs)) hxx
  refine CL2 0 ha hs (own_branch (x:=x) (ad':=ax) (c':=cx) hs (λw' h=>St.rdX h) hz1 hox) λad2 c2 a w ha hs=>?_
  refine RN 0 ha hs λa ha=>?_
  refine st_buildSlice ha rfl hs Tryz.underlying38 Ty.t45 rfl rfl rfl rfl (by decide) (by decide) λb20 a w ha hs ho=>?_
  clear ho
  obtain⟨ys,hy1,hy2,hs⟩:=OwnBr.open (hs.pick (OwnBr ad3 k c3 (T.l.take k)))
  refine RN 0 ha hs λa ha=>?_
  refine st_append ha rfl hs Tryz.underlying38 Ty.t45 rfl rfl hs.rdAll rfl (by simp[Value.oneCell',brC]) (by decide) (by decide) (by omega) λad21 c21 a w ha hs=>?_
  have h8:=St.allPush (f:=bro) (l:=ys) (x:=(x,ad2,c2)) (hs.sub (M:=OwnBB ad2 x.press.length c2 x.press::All bro ys::Sl 45 5 ad21 (k+1) c21 (rows brc ys++[brC x ad2 c2].flatten)::Sl 22 1 ax x.press.length cx (zs.map bbv)::All bbo zs::All bro (xs.eraseIdx k)::blk tq 122 [pt sq,.int .i64 T.most,.slice (some ⟨b',off',none⟩) T.l.length c,.int .i64 T.last,.int .i64 T.epoch]::Sl 45 5 (some ⟨b',off',none⟩) T.l.length c (rows brc xs)::L))
  rw[rows_snocC]at h8
  have h9:=OwnBr.close (l:=T.l.take (k+1)) (n:=k+1) (ad:=ad21) (c:=c21) (L':=Sl 22 1 ax x.press.length cx (zs.map bbv)::All bbo zs::All bro (xs.eraseIdx k)::blk tq 122 [pt sq,.int .i64 T.most,.slice (some ⟨b',off',none⟩) T.l.length c,.int .i64 T.last,.int .i64 T.epoch]::Sl 45 5 (some ⟨b',off',none⟩) T.l.length c (rows brc xs)::L) (ys++[(x,ad2,c2)]) h8 (by
    have hkl:k<T.l.length:=by omega
    rw[List.map_append,hy1,List.take_succ_eq_append_getElem hkl]
    rw[List.getElem?_eq_getElem hkl]at hTx
    cases hTx;rfl) (by rw[List.length_take];omega)
  have h10:=St.brIn (L':=OwnBr ad21 (k+1) c21 (T.l.take (k+1))::blk tq 122 [pt sq,.int .i64 T.most,.slice (some ⟨b',off',none⟩) T.l.length c,.int .i64 T.last,.int .i64 T.epoch]::Sl 45 5 (some ⟨b',off',none⟩) T.l.length c (rows brc xs)::L) h9 hxx hz1 rfl
  replace hs:=h10
  clear h8 h9 h10
  refine RN 3 ha hs λa ha=>?_
  exact⟨T.l.length-(k+1),by omega,k+1,_,_,⟨rfl,by omega⟩,ha.keep [3,11,12,13],hs.sub⟩
 refine RT 3 ha hs ?_
 obtain rfl:k=T.l.length:=by omega
 rw[List.take_length]at hs
 refine⟨_,_,rfl,?_⟩
 have h6:=Tree.same (tq:=tq) (sq:=sq) (T:=T) (L':=OwnBr ad3 T.l.length c3 T.l::L) ad c xs hs h1 hw
 exact h6.perm (List.Perm.swap _ _ _)
def Tr.add (T:Tr)(frm:Int)(p:List (List UInt8))(snap:Nat):Tr:={ T with l:=T.l++[⟨T.last+1,frm,p,0,snap⟩],last:=T.last+1 }
def Br.is (y:Br)(frm:Int)(p:List (List UInt8)):Prop:=y.frm=frm∧y.press=p
theorem alike_eq {u v:List (List UInt8)}(h:u.length=v.length):(alikeP u v=true)↔u=v:=by
 rw[alikeP,← h,Nat.min_self,List.take_length,h,List.take_length];simp
theorem add_full {frm sn:Int}{ad2:Option Addr}{m c2:Nat}(hs:St W w (Tree tq sq T::L))(h:T.most≤T.l.length∨m=0) :
   Calls Tryz.prog 185 #[pt tq,.int .i64 frm,.int .i64 sn,.slice ad2 m c2] w λe w'=>e=.returned (.tuple #[.int .i64 0,.bool false])∧St W w' (Tree tq sq T::L):=by
 obtain⟨ad,c,xs,h1,hw,hs⟩:=Tree.open hs
 refine EN Tryz.func185 Tryz.ntmps185 rfl rfl λa ha=>?_
 refine DWO 5 [11] [0,1,2,3,4,5,8,9,10,3006,7,1011,12,13,14,15,16,17,18] ha hs λa w ha hs hH hC=>?_
 refine RH 3 ha hs hH hC λa ha=>?_
 replace ha:=ha.isF 16
 refine RH 12 ha hs hH hC λa ha=>?_
 refine ha.by (s:=28) (λhg14 ha=>?_) (λhg14 ha=>?_)
 ·
  refine RH 4 ha hs hH hC λa ha=>?_
  refine RT 4 ha hs ?_
  exact⟨rfl,Tree.same ad c xs hs h1 hw⟩
 refine RH 4 ha hs hH hC λa ha=>?_
 rw[decide_eq_true (by omega)]at ha
 refine RT 4 ha hs ?_
 exact⟨rfl,Tree.same ad c xs hs h1 hw⟩
theorem add_dup {frm sn:Int}{ad2:Option Addr}{c2 j:Nat}{y:Br}(hs:St W w (Tree tq sq T::L))(hp:∀ w',St W w' L→RdBB w' ad2 p.length p)(hc:p.length≤c2)(hok:OkP p)(hy:T.l[j]?=some y)(his:y.is frm p) :
   Calls Tryz.prog 185 #[pt tq,.int .i64 frm,.int .i64 sn,.slice ad2 p.length c2] w λe w'=>e=.returned (.tuple #[.int .i64 0,.bool false])∧St W w' (Tree tq sq T::L):=by
 obtain⟨ad,c,xs,h1,hw,hs⟩:=Tree.open hs
 have hxl:xs.length=T.l.length:=by rw[← h1,List.length_map]
 have hT:=hw.most
 have hjl:=(List.getElem?_eq_some_iff.1 hy).1
 refine EN Tryz.func185 Tryz.ntmps185 rfl rfl λa ha=>?_
 refine DWO 5 [11] [0,1,2,3,4,5,8,9,10,3006,7,1011,12,13,14,15,16,17,18] ha hs λa w ha hs hH hC=>?_
 refine RH 3 ha hs hH hC λa ha=>?_
 replace ha:=ha.isF 16
 refine RH 12 ha hs hH hC λa ha=>?_
 refine ha.by (s:=28) (λhg14 ha=>?_) (λhg14 ha=>?_)
 ·
  refine RH 4 ha hs hH hC λa ha=>?_
  refine RT 4 ha hs ?_
  exact⟨rfl,Tree.same ad c xs hs h1 hw⟩
 refine RH 4 ha hs hH hC λa ha=>?_
 refine IF 0 ha hs (λhc0 a ha=>?_) λhc0 a ha=>?_
 ·
  refine RT 3 ha hs ?_
  exact⟨rfl,Tree.same ad c xs hs h1 hw⟩
 refine RN 8 ha hs λa ha=>?_
 refine wp_loop_ghost (λμ a w=>∃ k:Nat,(μ=j-k∧k≤j)∧Fr a 101 [(1,.int .i64 frm),(3,.slice ad2 p.length c2),(36,.slice ad T.l.length c),(37,.int .i64 T.l.length),(38,.int .i64 k)]∧St W w (blk tq 122 [pt sq,.int .i64 T.most,.slice ad T.l.length c,.int .i64 T.last,.int .i64 T.epoch]::Sl 45 5 ad T.l.length c (rows brc xs)::All bro xs::L)) (j) (⟨0,⟨by simp,by simp⟩,ha.keep [1,3,36,37,38],hs.sub⟩) ?_
 clear ha hs
 rintro μ a w ⟨k,⟨rfl,hk⟩,ha,hs⟩
 refine RN 3 ha hs λa ha=>?_
 rw[decide_eq_true (by omega)]at ha
 refine RN 3 ha hs λa ha=>?_
 obtain⟨b',off',rfl,hrd⟩:=hs.slRd ad (by omega)
 obtain⟨⟨x,ax,cx⟩,hxx⟩:∃ y,xs[k]?=some y:=⟨_,List.getElem?_eq_getElem (by omega)⟩
 have hrk:=row_rd hrd hxx
 have hTx:T.l[k]?=some x:=by rw[← h1,List.getElem?_map,hxx];rfl
 have hox:=(hw.ok x (List.mem_of_getElem? hTx)).1
 have hkj:k=j→x=y:=λe=>by rw[e,hy]at hTx;cases hTx;rfl
 refine RN 1 ha hs λa ha=>?_
 refine SS ha (ex_loadN ha Tryz.underlying45 rfl Ty.t45 (hrk)) λa ha=>?_
 refine AL 0 ha hs λb11 a w ha hs=>?_
 refine SA 0 ha hs λa w ha hs=>?_
 refine BY 6 ha hs (λhg4 a ha=>?_) λhg4 a ha=>?_
 ·
  refine BY 8 ha hs (λhg12 a ha=>?_) λhg12 a ha=>?_
  ·
   refine RN 3 ha hs λa ha=>?_
   have hrx:=All.rdBB (hs.pick (All bro xs)) hxx
   refine CL 0 ha hs (alike_spec (u:=x.press) (v:=p) hs hrx.1 (hp _ hs.sub) hrx.2 hc (by have:=hox.1;omega)) λa w ha hs=>?_
   refine IF 1 ha hs (λhc2 a ha=>?_) λhc2 a ha=>?_
   ·
    refine RT 3 ha hs ?_
    exact⟨rfl,Tree.same (some ⟨b',off',none⟩) c xs hs h1 hw⟩
   have hne : k ≠ j := fun e => by
       have hxp:x.press=p:=by rw[hkj e];exact his.2
       rw[(alike_eq (by rw[hxp])).2 hxp]at hc2
       cases hc2
   refine RN 2 ha hs λa ha=>?_
   exact⟨j-(k+1),by omega,k+1,⟨rfl,by omega⟩,ha.keep [1,3,36,37,38],hs.sub⟩
  have hne:k≠j:=λe=>hg12 (by rw[hkj e,his.2])
  refine RN 3 ha hs λa ha=>?_
  have hrx:=All.rdBB (hs.pick (All bro xs)) hxx
  refine RN 5 ha hs λa ha=>?_
  exact⟨j-(k+1),by omega,k+1,⟨rfl,by omega⟩,ha.keep [1,3,36,37,38],hs.sub⟩
 have hne:k≠j:=λe=>hg4 (by rw[hkj e];exact his.1)
 refine RN 11 ha hs λa ha=>?_
 have hrx:=All.rdBB (hs.pick (All bro xs)) hxx
 refine RN 5 ha hs λa ha=>?_
 exact⟨j-(k+1),by omega,k+1,⟨rfl,by omega⟩,ha.keep [1,3,36,37,38],hs.sub⟩
theorem WT.add {frm:Int}{sn:Nat}(h:WT T)(h1:T.l.length<T.most)(h2:T.last+1<1099511627776)(hok:OkP p):WT (T.add frm p sn):=by
 obtain⟨a1,a2,a3,a4,a5⟩:=h
 refine⟨⟨a1.1,by simp[Tr.add];omega⟩,h2,a3,?_,λx hx=>?_⟩
 · simp only[Tr.add,List.map_append,List.map_cons,List.map_nil]
   refine List.pairwise_append.2 ⟨a4,by simp,λu hu v hv=>?_⟩
   obtain⟨x,hx,rfl⟩:=List.mem_map.1 hu
   have:=(a5 x hx).2.2.2
   simp at hv;omega
 · simp only[Tr.add]at hx ⊢
   rcases List.mem_append.1 hx with hx | hx
   · obtain⟨b1,b2,b3,b4⟩:=a5 x hx
     exact⟨b1,b2,b3,by omega⟩
   · simp at hx;subst hx
     exact⟨hok,Nat.zero_le _,by simp,Nat.le_refl _⟩
theorem add_ok {frm:Int}{ad2:Option Addr}{c2 i:Nat}{zs:List BBx}{px:Pic}(hs:St W w (Tree tq sq T::Store sq r A::L))(hr:∀ w',St W w' L→RdX w' ad2 zs)(hz:zs.map (·.2.2)=p)(hc:p.length≤c2)(hok:OkP p)
   (hx:A.pics[i]?=some px) (hb:A.n+1<1099511627776) (hl:T.last+1<1099511627776) (hno:∀ y∈T.l,¬ y.is frm p) (hm:T.l.length<T.most) (h0:0<p.length) :
   Calls Tryz.prog 185 #[pt tq,.int .i64 frm,.int .i64 px.id,.slice ad2 p.length c2] w λe w'=>e=.returned (.tuple #[.int .i64 ((T.last+1:Nat):Int),.bool true])∧St W w' (Tree tq sq (T.add frm p (A.last+1))::Store sq r (A.add px.g px.p)::L):=by
 obtain⟨ad,c,xs,h1,hw,hs⟩:=Tree.open hs
 have hxl:xs.length=T.l.length:=by rw[← h1,List.length_map]
 have hT:=hw.most
 have hp:∀ w',St W w' L→RdBB w' ad2 p.length p:=λw' h=>by
   have:=(hr w' h).bb
   rw[hz]at this
   rwa [show zs.length=p.length from by rw[← hz,List.length_map]]at this
 refine EN Tryz.func185 Tryz.ntmps185 rfl rfl λa ha=>?_
 refine DWO 5 [11] [0,1,2,3,4,5,8,9,10,3006,7,1011,12,13,14,15,16,17,18] ha hs λa w ha hs hH hC=>?_
 refine RH 3 ha hs hH hC λa ha=>?_
 replace ha:=ha.isF 16
 refine RH 12 ha hs hH hC λa ha=>?_
 rw[decide_eq_false (by omega)]at ha
 refine RH 4 ha hs hH hC λa ha=>?_
 rw[decide_eq_false (by omega)]at ha
 refine RN 9 ha hs λa ha=>?_
 refine wp_loop_ghost (λμ a w=>∃ k:Nat,(μ=T.l.length-k∧k≤T.l.length)∧Fr a 101 [(0,pt tq),(1,.int .i64 frm),(2,.int .i64 px.id),(3,.slice ad2 p.length c2),(36,.slice ad T.l.length c),(37,.int .i64 T.l.length),(38,.int .i64 k)]∧St W w (blk tq 122 [pt sq,.int .i64 T.most,.slice ad T.l.length c,.int .i64 T.last,.int .i64 T.epoch]::Sl 45 5 ad T.l.length c (rows brc xs)::All bro xs::Store sq r A::L)) (T.l.length) (⟨0,⟨by simp,by simp⟩,ha.keep [0,1,2,3,36,37,38],hs.sub⟩) ?_
 clear ha hs
 rintro μ a w ⟨k,⟨rfl,hk⟩,ha,hs⟩
 refine IF 3 ha hs (λhc1 a ha=>?_) λhc1 a ha=>?_
 ·
  refine RN 2 ha hs λa ha=>?_
  obtain⟨b',off',rfl,hrd⟩:=hs.slRd ad (by omega)
  obtain⟨⟨x,ax,cx⟩,hxx⟩:∃ y,xs[k]?=some y:=⟨_,List.getElem?_eq_getElem (by omega)⟩
  have hrk:=row_rd hrd hxx
  have hTx:T.l[k]?=some x:=by rw[← h1,List.getElem?_map,hxx];rfl
  have hxm:=List.mem_of_getElem? hTx
  have hox:=(hw.ok x hxm).1
  have hxno:=hno x hxm
  refine RN 1 ha hs λa ha=>?_
  refine SS ha (ex_loadN ha Tryz.underlying45 rfl Ty.t45 (hrk)) λa ha=>?_
  refine AL 0 ha hs λb11 a w ha hs=>?_
  refine SA 0 ha hs λa w ha hs=>?_
  refine BY 6 ha hs (λhg4 a ha=>?_) λhg4 a ha=>?_
  ·
   refine BY 8 ha hs (λhg12 a ha=>?_) λhg12 a ha=>?_
   ·
    refine RN 3 ha hs λa ha=>?_
    have hrx:=All.rdBB (hs.pick (All bro xs)) hxx
    refine CL 0 ha hs (alike_spec (u:=x.press) (v:=p) hs hrx.1 (hp _ hs.sub) hrx.2 hc (by have:=hox.1;omega)) λa w ha hs=>?_
    refine IF 1 ha hs (λhc2 a ha=>?_) λhc2 a ha=>?_
    ·
     (try simp only at hg12);exact absurd ⟨by omega,(alike_eq (by omega)).1 hc2⟩ hxno
    refine RN 2 ha hs λa ha=>?_
    exact⟨T.l.length-(k+1),by omega,k+1,⟨rfl,by omega⟩,ha.keep [0,1,2,3,36,37,38],hs.sub⟩
   refine RN 3 ha hs λa ha=>?_
   have hrx:=All.rdBB (hs.pick (All bro xs)) hxx
   refine RN 5 ha hs λa ha=>?_
   exact⟨T.l.length-(k+1),by omega,k+1,⟨rfl,by omega⟩,ha.keep [0,1,2,3,36,37,38],hs.sub⟩
  refine RN 11 ha hs λa ha=>?_
  have hrx:=All.rdBB (hs.pick (All bro xs)) hxx
  refine RN 5 ha hs λa ha=>?_
  exact⟨T.l.length-(k+1),by omega,k+1,⟨rfl,by omega⟩,ha.keep [0,1,2,3,36,37,38],hs.sub⟩
 refine CL 6 ha hs (snap_fork (hs.pick (Store sq r A)) hx hb) λa w ha hs=>?_
 refine RN 9 ha hs λa ha=>?_
 replace ha:=ha.isF 71
 refine ST 9 ha hs (λa w ha hs=>?_)
 rw[show ((T.last:Int)+1)=((T.last+1:Nat):Int) from rfl]at hs
 refine DWC 1 (λw0 w'=>w'.cell? ⟨tq,2,none⟩=some (.slice ad T.l.length c)∧w'.cell? ⟨tq,3,none⟩=some (.int .i64 ((T.last+1:Nat):Int))) [8,11,13,14] [0,1,2,3,5,6,7,9,10,12,3004,3008,1011,1013,1014,1015,16,17,1018] ha hs λa w ha hs hH=>?_
 have hC:=hH.at w ⟨hs.rd1 rfl,hs.rd1 rfl⟩
 refine RH 10 ha hs hH hC λa ha=>?_
 refine QH ha (λw hc=>ld1 ha (hc.1)) hC λa ha=>?_
 refine QH ha (λw hc=>ld1 ha (hc.2)) hC λa ha=>?_
 refine RH 0 ha hs hH hC λa ha=>?_
 refine CL2 0 ha hs (clone_spec hs (λw' h=>hr w' h.sub) (by rw[← hz,List.length_map]) (by rw[hz];exact hok)) λad4 c4 a w ha hs=>?_
 replace hC:=hH.at w ⟨hs.rd1 rfl,hs.rd1 rfl⟩
 refine RH 1 ha hs hH hC λa ha=>?_
 refine st_buildSlice ha rfl hs Tryz.underlying38 Ty.t45 rfl rfl rfl rfl (by decide) (by decide) λb93 a w ha hs ho=>?_
 clear ho
 replace hC:=hH.at w ⟨hs.rd1 rfl,hs.rd1 rfl⟩
 refine RH 0 ha hs hH hC λa ha=>?_
 refine st_append ha rfl hs Tryz.underlying38 Ty.t45 rfl rfl hs.rdAll rfl (by simp[Value.oneCell']) (by decide) (by decide) (by omega) λad94 c94 a w ha hs=>?_
 refine ST 2 ha hs (λa w ha hs=>?_)
 refine RT 7 ha hs ?_
 refine⟨rfl,?_⟩
 rw[hz]at hs
 have h8:=St.allPush (f:=bro) (l:=xs) (x:=(⟨T.last+1,frm,p,0,A.last+1⟩,ad4,c4)) (hs.sub (M:=OwnBB ad4 p.length c4 p::All bro xs::blk tq 122 [pt sq,.int .i64 T.most,.slice ad94 (T.l.length+1) c94,.int .i64 ((T.last+1:Nat):Int),.int .i64 T.epoch]::Sl 45 5 ad94 (T.l.length+1) c94 (rows brc xs++[[.int .i64 ((T.last+1:Nat):Int),.int .i64 frm,.slice ad4 p.length c4,.int .i64 0,.int .i64 ((A.last+1:Nat):Int)]].flatten)::Store sq r (A.add px.g px.p)::L))
 have h9:St W w (All bro (xs++[(⟨T.last+1,frm,p,0,A.last+1⟩,ad4,c4)])::blk tq 122 [pt sq,.int .i64 T.most,.slice ad94 (T.l.length+1) c94,.int .i64 ((T.last+1:Nat):Int),.int .i64 T.epoch]::Sl 45 5 ad94 (T.l.length+1) c94 (rows brc (xs++[(⟨T.last+1,frm,p,0,A.last+1⟩,ad4,c4)]))::Store sq r (A.add px.g px.p)::L):=by
   rw[← rows_snocC];exact h8
 exact Tree.close (T:=T.add frm p (A.last+1)) (ad:=ad94) (c:=c94) (xs:=xs++[(⟨T.last+1,frm,p,0,A.last+1⟩,ad4,c4)]) (n:=T.l.length+1) (most:=T.most) (last:=T.last+1) (epoch:=T.epoch) h9 (by simp[Tr.add,h1]) (hw.add hm hl hok) rfl (by simp[Tr.add]) rfl rfl
def Tr.pub (T:Tr)(k:Nat)(x:Br)(done snap:Nat):Tr:={ T with l:=T.l.set k { x with done:=done,snap:=snap } }
theorem WT.pub {d sn:Nat}(h:WT T)(hx:T.l[k]?=some x)(hd:d≤x.press.length):WT (T.pub k x d sn):=by
 obtain⟨a1,a2,a3,a4,a5⟩:=h
 obtain⟨hi,rfl⟩:=List.getElem?_eq_some_iff.1 hx
 refine⟨⟨a1.1,by simp[Tr.pub];exact a1.2⟩,a2,a3,?_,λy hy=>?_⟩
 · have : (T.l.set k { T.l[k] with done := d, snap := sn }).map (·.id) = T.l.map (·.id) := by
     apply List.ext_getElem?
     intro j
     simp only[List.getElem?_map,List.getElem?_set]
     by_cases hj:k=j
     · subst hj;simp[hi]
     · rw[if_neg hj]
   simp only[Tr.pub];rw[this];exact a4
 · simp only[Tr.pub]at hy ⊢
   rcases List.mem_or_eq_of_mem_set hy with hy | rfl
   · exact a5 y hy
   · obtain⟨b1,b2,b3,b4⟩:=a5 _ (List.getElem_mem hi)
     exact⟨b1,hd,b3,b4⟩
theorem WT.unique (hw:WT T){j:Nat}{y:Br}(hx:T.l[k]?=some x)(hy:T.l[j]?=some y)(he:y.id=x.id):j=k:=by
 have hp:=List.pairwise_iff_getElem.1 hw.ids
 obtain⟨hj,rfl⟩:=List.getElem?_eq_some_iff.1 hy
 obtain⟨hk,rfl⟩:=List.getElem?_eq_some_iff.1 hx
 rcases Nat.lt_trichotomy j k with hl | hl | hl
 · have:=hp j k (by simpa using hj) (by simpa using hk) hl
   simp at this;omega
 · exact hl
 · have:=hp k j (by simpa using hk) (by simpa using hj) hl
   simp at this;omega
theorem find_at (hs:St W w (Tree tq sq T::L))(hx:T.l[k]?=some x) :
   Calls Tryz.prog 190 #[pt tq,.int .i64 x.id] w λe w'=>e=.returned (.int .i64 k)∧St W w' (Tree tq sq T::L):=by
 refine (tree_find (id:=(x.id:Int)) hs).mono λe w' ⟨r,h1,h2,h3⟩=>⟨?_,h3⟩
 rcases h2 with ⟨_,h4⟩ | ⟨j,y,h4,h5,h6⟩
 · exact absurd rfl (h4 x (List.mem_of_getElem? hx))
 · rw[h1,h4,(Tree.wt h3).unique hx h5 (by omega)]
theorem publish_no {i:Nat}{px:Pic}{d sn:Int}(hs:St W w (Tree tq sq T::Store sq r A::L))(hx:T.l[k]?=some x)(hno:d≤x.done∨(x.press.length:Int)<d∨∀ y∈A.pics,(y.id:Int)≠sn) :
   Calls Tryz.prog 193 #[pt tq,.int .i64 x.id,.int .i64 d,.int .i64 sn] w λe w'=>e=.returned (.bool false)∧St W w' (Tree tq sq T::Store sq r A::L):=by
 have hkl:=(List.getElem?_eq_some_iff.1 hx).1
 refine EN Tryz.func193 Tryz.ntmps193 rfl rfl λa ha=>?_
 refine CL 5 ha hs (find_at hs hx) λa w ha hs=>?_
 refine RN 3 ha hs λa ha=>?_
 obtain⟨ad,c,xs,h1,hw,hs⟩:=Tree.open (hs.tree tq)
 obtain⟨ax,cx,hxx⟩:=bx_at h1 hx
 obtain⟨b',off',rfl,hrd⟩:=hs.tail.slRd ad (by omega)
 have hrk:=row_rd hrd hxx
 have hdc:=hrk 3 _ rfl
 have hpc:=hrk 2 _ rfl
 refine RN 3 ha hs λa ha=>?_
 rw[decide_eq_false (by omega)]at ha
 refine RN 8 ha hs λa ha=>?_
 refine st_set ha (wgT ha rfl (s:=15)) (ld1 ha (hdc)) rfl λa ha=>?_
 refine BY 3 ha hs (λhg14 a ha=>?_) λhg14 a ha=>?_
 ·
  skip
  refine RT 24 ha hs ?_
  exact⟨rfl,Tree.same (L':=Store sq r A::L) (some ⟨b',off',none⟩) c xs hs h1 hw⟩
 refine RN 8 ha hs λa ha=>?_
 refine st_set ha (wgT ha rfl (s:=27)) (ld1 ha (hpc)) rfl λa ha=>?_
 refine BY 4 ha hs (λhg27 a ha=>?_) λhg27 a ha=>?_
 ·
  refine RT 11 ha hs ?_
  exact⟨rfl,Tree.same (L':=Store sq r A::L) (some ⟨b',off',none⟩) c xs hs h1 hw⟩
 refine CL 5 ha hs (snap_refs_no (hs.pick (Store sq r A)) (by rcases hno with h | h | h;omega;omega;exact h)) λa w ha hs=>?_
 refine RN 2 ha hs λa ha=>?_
 replace ha:=ha.isT 48
 refine RT 3 ha hs ?_
 exact⟨rfl,Tree.same (L':=Store sq r A::L) (some ⟨b',off',none⟩) c xs hs h1 hw⟩
end
end
end Go.Proofs.YtdilfdkendjjhaaGreat
