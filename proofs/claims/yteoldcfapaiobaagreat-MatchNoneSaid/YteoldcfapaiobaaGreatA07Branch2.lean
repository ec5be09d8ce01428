/- The walks of package branch, further. -/
import Derived.Test.YteoldcfapaiobaaGreatA06Snap2
import Derived.Test.YteoldcfapaiobaaGreatA02Row
import Derived.Test.YteoldcfapaiobaaGreatA04Ty
namespace Go.Proofs.YteoldcfapaiobaaGreat
open Go.RowKit
set_option linter.unusedVariables false
set_option linter.unusedSimpArgs false
set_option maxRecDepth 10000
set_option synthInstance.maxSize 4000
set_option synthInstance.maxHeartbeats 400000
section
def Sn.dropId (A:Sn)(id:Nat):Sn:=match A.pics.findIdx? (λx=>x.id==id) with
 | some i=>match A.pics[i]? with
   | some x=>A.drop i x
   | none=>A
 | none=>A
section
variable {W w:World}{L R:List SP}{tq sq q r n c k:Nat}{ad:Option Addr}{A:Sn}{T:Tr}{x y:Br}{xs:List Bx}{p:List (List UInt8)}
theorem dropId_none {id:Nat}(h:∀ y∈A.pics,y.id≠id):A.dropId id=A:=by
 have:A.pics.findIdx? (λx=>x.id==id)=none:=by rw[List.findIdx?_eq_none_iff];intro y hy;simpa using h y hy
 rw[Sn.dropId,this]
theorem dropId_some {i:Nat}{px:Pic}(hw:WF A)(hx:A.pics[i]?=some px):A.dropId px.id=A.drop i px:=by
 obtain⟨hi,he⟩:=List.getElem?_eq_some_iff.1 hx
 have:A.pics.findIdx? (λx=>x.id==px.id)=some i:=by
   rw[List.findIdx?_eq_some_iff_getElem]
   refine⟨hi,by simp[he],λj hj=>?_⟩
   have hjl:j<A.pics.length:=by omega
   simp only[Bool.not_eq_true,beq_eq_false_iff_ne,ne_eq]
   intro e
   have:=hw.ids (List.getElem?_eq_getElem hjl) hx e
   omega
 rw[Sn.dropId,this]
 simp only[hx]
theorem snap_dropId {id:Nat}(hs:St W w (Store q r A::L)) :
   Calls Tryz.prog 185 #[pt q,.int .i64 id] w λe w'=>∃ v,e=.returned (.bool v)∧St W w' (Store q r (A.dropId id)::L):=by
 by_cases h:∃ px∈A.pics,px.id=id
 · obtain⟨px,h1,rfl⟩:=h
   obtain⟨i,hi⟩:=List.mem_iff_getElem?.1 h1
   have hw:=(Store.open hs)
   obtain⟨_,_,_,_,_,hw,_,_⟩:=hw
   refine (snap_drop hs hi).mono λe w' ⟨h2,h3⟩=>⟨_,h2,?_⟩
   rw[dropId_some hw hi];exact h3
 · have hn:∀ y∈A.pics,y.id≠id:=λy hy e=>h ⟨y,hy,e⟩
   refine (snap_drop_no (X:=(id:Int)) hs (λy hy e=>hn y hy (by omega))).mono λe w' ⟨h2,h3⟩=>⟨_,h2,?_⟩
   rw[dropId_none hn];exact h3
theorem set_mid {p q r:List Value}{i:Nat}{v:Value}(h:i<q.length):(p++q++r).set (p.length+i) v=p++q.set i v++r:=by
 rw[List.append_assoc,List.set_append_right _ _ (by omega),show p.length+i-p.length=i from by omega,List.set_append_left _ _ h,List.append_assoc]
theorem publish_ok {i d:Nat}{px:Pic}(hs:St W w (Tree tq sq T::Store sq r A::L))(hx:T.l[k]?=some x)(hd:x.done<d)(hd2:d≤x.press.length)(hp:A.pics[i]?=some px) :
   Calls Tryz.prog 186 #[pt tq,.int .i64 x.id,.int .i64 d,.int .i64 px.id] w λe w'=>e=.returned (.bool true)∧St W w' (Tree tq sq (T.pub k x d px.id)::Store sq r (A.dropId x.snap)::L):=by
 have hkl:=(List.getElem?_eq_some_iff.1 hx).1
 have hpr:1≤px.refs:=by
   obtain⟨_,_,_,_,_,hw,_,_⟩:=Store.open (hs.pick (Store sq r A))
   exact (hw.pic px (List.mem_of_getElem? hp)).2.2.1
 refine EN Tryz.func186 Tryz.ntmps186 rfl rfl λa ha=>?_
 refine CL 5 ha hs (find_at hs hx) λa w ha hs=>?_
 refine RN 3 ha hs λa ha=>?_
 obtain⟨ad,c,xs,h1,hw,hs⟩:=Tree.open (hs.tree tq)
 obtain⟨ax,cx,hxx⟩:=bx_at h1 hx
 obtain⟨b',off',rfl,hrd⟩:=hs.tail.slRd ad (by omega)
 have hrk:=row_rd hrd hxx
 have hdc:=hrk 3 _ rfl
 have hpc:=hrk 2 _ rfl
 refine RN 3 ha hs λa ha=>?_
 rw[decide_eq_false (by omega)]at ha
 refine RN 8 ha hs λa ha=>?_
 refine st_set ha (wgT ha rfl (s:=15)) (ld1 ha (hdc)) rfl λa ha=>?_
 refine RN 3 ha hs λa ha=>?_
 rw[decide_eq_false (by omega)]at ha
 refine RN 8 ha hs λa ha=>?_
 refine st_set ha (wgT ha rfl (s:=27)) (ld1 ha (hpc)) rfl λa ha=>?_
 refine RN 4 ha hs λa ha=>?_
 rw[decide_eq_false (by omega)]at ha
 refine CL 5 ha hs (snap_refs (hs.pick (Store sq r A)) hp) λa w ha hs=>?_
 refine RN 2 ha hs λa ha=>?_
 rw[decide_eq_false (by omega)]at ha
 refine RN 2 ha hs λa ha=>?_
 have hrd2:=hs.slRdAt (n:=T.l.length) b' off' (by omega)
 have hsc:w.drew.cell? ⟨b',off'+k*5+4,none⟩=some (.int .i64 x.snap):=row_rd hrd2 hxx 4 _ rfl
 refine DWG 0 (Old w.drew) [7,9,10,11] [0,1,2,4,5,6,8,3003,1007,1009,1010,1011,1012] ha hs λa ha=>?_
 replace hs:=hs.drew
 have hH:=Hd.old hs
 have hC:=Old.refl w.drew
 generalize w.drew=w at hs hH hC hsc ⊢
 refine RH 11 ha hs hH hC λa ha=>?_
 refine SS ha (ld1 ha (hsc)) λa ha=>?_
 refine RH 0 ha hs hH hC λa ha=>?_
 refine CL1 0 ha hs (snap_dropId (id:=x.snap) (hs.pick (Store sq r A))) λ_ a w ha hs=>?_
 refine RN 1 ha hs λa ha=>?_
 obtain⟨bb,pre,post,⟨h3,h4,h5,h6⟩,hs0⟩:=(hs.pick (Sl 238 5 (some ⟨b',off',none⟩) T.l.length c (rows brc xs))).slOpen (by have:=(hs.sl (some ⟨b',off',none⟩)).2;omega)
 cases h5
 replace hs:=hs0
 clear hs0
 have hxl:xs.length=T.l.length:=by rw[← h1,List.length_map]
 have hkx:k<xs.length:=by omega
 have hxe:xs[k]=(x,ax,cx):=(List.getElem?_eq_some_iff.1 hxx).2
 have hrl:(rows brc xs).length=xs.length*5:=rows_len brc_len xs
 refine DWO 0 [8] [0,1,2,4,5,6,7,9,10,11,3003,1008,12,13,1014,15,16,1017] ha hs λa w ha hs hH hC=>?_
 refine RH 14 ha hs hH hC λa ha=>?_
 refine ST 0 ha hs (λa w ha hs=>?_) (hlt:=(by simp only[List.length_append];omega))
 rw[show pre.length+k*5+3=pre.length+(k*5+3) from by omega,set_mid (by omega),rows_set1 brc_len xs ({ x with done:=d },ax,cx) hkx (by decide) (by rw[hxe];rfl)]at hs
 refine ST 2 ha hs (λa w ha hs=>?_) (hlt:=(by simp only[List.length_append,rows_len brc_len,List.length_set];omega))
 rw[show pre.length+k*5+4=pre.length+(k*5+4) from by omega,set_mid (by simp only[rows_len brc_len,List.length_set];omega),rows_set1 brc_len _ ({ x with done:=d,snap:=px.id },ax,cx) (by rw[List.length_set];exact hkx) (by decide) (by rw[List.getElem_set_self];rfl),List.set_set]at hs
 refine RT 2 ha hs ?_
 refine⟨rfl,?_⟩
 have h7:=St.slShut (n:=T.l.length) (c:=c) (sz:=5) (cs:=rows brc (xs.set k ({ x with done:=d,snap:=px.id },ax,cx))) (hs.bring b') (by rw[rows_len brc_len,List.length_set,hxl]) h4 h6
 have h8:=(h7.pick (All bro xs)).allOut hkx
 rw[hxe]at h8
 have h9:St W w (bro ({ x with done:=d,snap:=px.id },ax,cx)::All bro (xs.eraseIdx k)::_):=h8
 have h10:=St.allPut hkx h9
 exact Tree.close (T:=T.pub k x d px.id) (ad:=some ⟨b',pre.length,none⟩) (c:=c) (xs:=xs.set k ({ x with done:=d,snap:=px.id },ax,cx)) (n:=T.l.length) (most:=T.most) (last:=T.last) (epoch:=T.epoch) h10 (by rw[List.map_set,h1];rfl) (hw.pub hx hd2) rfl (by simp[Tr.pub]) rfl rfl
def bestStep (frm:Int)(p:List (List UInt8))(b:Br)(x:Br):Br:=if x.frm=frm∧b.done<x.done∧x.done≤p.length∧alikeP (x.press.take x.done) p=true then x else b
def br0:Br:=⟨0,0,[],0,0⟩
def Tr.best (T:Tr)(frm:Int)(p:List (List UInt8)):Br:=T.l.foldl (bestStep frm p) br0
theorem best_succ {l:List Br}{frm:Int}(h:l[k]?=some x):(l.take (k+1)).foldl (bestStep frm p) br0=bestStep frm p ((l.take k).foldl (bestStep frm p) br0) x:=by
 obtain⟨hk,rfl⟩:=List.getElem?_eq_some_iff.1 h
 rw[List.take_succ_eq_append_getElem hk,List.foldl_append];rfl
theorem tree_best {frm:Int}{ad2:Option Addr}{c2:Nat}(hs:St W w (Tree tq sq T::L))(hp:∀ w',St W w' L→RdBB w' ad2 p.length p)(hc:p.length≤c2)(hok:OkP p) :
   Calls Tryz.prog 279 #[pt tq,.int .i64 frm,.slice ad2 p.length c2] w λe w'=>∃ ad c,e=.returned (.tuple #[.agg (brC (T.best frm p) ad c).toArray,.bool (decide (0<(T.best frm p).done))])∧St W w' (Tree tq sq T::L):=by
 have hw:=Tree.wt hs
 have hT:=hw.most
 refine EN Tryz.func279 Tryz.ntmps279 rfl rfl λa ha=>?_
 refine AL 1 ha hs λb6 a w ha hs=>?_
 change St W w (blk b6 238 (brC br0 none 0)::_) at hs
 refine AL 3 ha hs λb8 a w ha hs=>?_
 refine SA 0 ha hs λa w ha hs=>?_
 change St W w (blk b8 238 (brC ((T.l.take 0).foldl (bestStep frm p) br0) none 0)::_) at hs
 refine CL2 3 ha hs (tree_all (hs.tree tq)) λad c a w ha hs=>?_
 obtain⟨xs,h1,h2,hs⟩:=OwnBr.open hs
 have hxl:xs.length=T.l.length:=by rw[← h1,List.length_map]
 refine RN 2 ha hs λa ha=>?_
 refine wp_loop_ghost (λμ a w=>∃ (k:Nat) (ab:Option Addr) (cb:Nat),(μ=T.l.length-k∧k≤T.l.length)∧Fr a 52 [(1,.int .i64 frm),(2,.slice ad2 p.length c2),(6,pt b6),(8,pt b8),(13,.slice ad T.l.length c),(14,.int .i64 T.l.length),(15,.int .i64 k)]∧St W w (blk b8 238 (brC ((T.l.take k).foldl (bestStep frm p) br0) ab cb)::Sl 238 5 ad T.l.length c (rows brc xs)::All bro xs::Tree tq sq T::blk b6 238 (brC br0 none 0)::L)) (T.l.length) (⟨0,none,0,⟨by simp,by simp⟩,ha.keep [1,2,6,8,13,14,15],hs.sub⟩) ?_
 clear ha hs
 rintro μ a w ⟨k,ab,cb,⟨rfl,hk⟩,ha,hs⟩
 refine IF 3 ha hs (λhc0 a ha=>?_) λhc0 a ha=>?_
 ·
  refine RN 2 ha hs λa ha=>?_
  obtain⟨b',off',rfl,hrd⟩:=hs.slRd ad (by omega)
  obtain⟨⟨x,ax,cx⟩,hxx⟩:∃ y,xs[k]?=some y:=⟨_,List.getElem?_eq_getElem (by omega)⟩
  have hrk:=row_rd hrd hxx
  have hTx:T.l[k]?=some x:=by rw[← h1,List.getElem?_map,hxx];rfl
  have hox:=hw.ok x (List.mem_of_getElem? hTx)
  have hbs:=best_succ (frm:=frm) (p:=p) hTx
  obtain⟨B,hB⟩:∃ B,(T.l.take k).foldl (bestStep frm p) br0=B:=⟨_,rfl⟩
  rw[hB]at hs hbs
  refine RN 1 ha hs λa ha=>?_
  refine SS ha (ex_loadN ha Tryz.underlying238 rfl Ty.t238 (hrk)) λa ha=>?_
  refine AL 0 ha hs λb10 a w ha hs=>?_
  refine SA 0 ha hs λa w ha hs=>?_
  refine BY 6 ha hs (λhg4 a ha=>?_) λhg4 a ha=>?_
  ·
   refine BY 7 ha hs (λhg11 a ha=>?_) λhg11 a ha=>?_
   ·
    refine BY 7 ha hs (λhg18 a ha=>?_) λhg18 a ha=>?_
    ·
     refine RN 4 ha hs λa ha=>?_
     have hrx:=All.rdBB (hs.pick (All bro xs)) hxx
     have hl5:=hox.2.1
     refine RN 1 ha hs λa ha=>?_
     rw[cutAd_zero,Nat.sub_zero,Nat.sub_zero]at ha
     rw[show Value.slice ax x.done cx=Value.slice ax (x.press.take x.done).length cx from by rw[List.length_take,Nat.min_eq_left hl5]]at ha
     refine CL 1 ha hs (alike_spec (u:=x.press.take x.done) (v:=p) (ad:=ax) (c:=cx) hs (by
       have:=hrx.1.take hl5
       rwa [show (x.press.take x.done).length=x.done from by rw[List.length_take];omega]) (hp _ hs.sub) (by rw[List.length_take];omega) hc (by rw[List.length_take];have:=hox.1.1;omega)) λa w ha hs=>?_
     refine IF 1 ha hs (λhc1 a ha=>?_) λhc1 a ha=>?_
     ·
      have hbs2:bestStep frm p B x=x:=if_pos ⟨by omega,by omega,by omega,hc1⟩
      refine SA 1 ha hs λa w ha hs=>?_
      refine RN 2 ha hs λa ha=>?_
      exact⟨T.l.length-(k+1),by omega,k+1,_,_,⟨rfl,by omega⟩,ha.keep [1,2,6,8,13,14,15],by rw[hbs,hbs2];exact hs.sub (M:=blk b8 238 (brC x ax cx)::Sl 238 5 (some ⟨b',off',none⟩) T.l.length c (rows brc xs)::All bro xs::Tree tq sq T::blk b6 238 (brC br0 none 0)::L)⟩
     have hbs2:bestStep frm p B x=B:=if_neg (λh=>by rw[h.2.2.2]at hc1;cases hc1)
     refine RN 2 ha hs λa ha=>?_
     exact⟨T.l.length-(k+1),by omega,k+1,_,_,⟨rfl,by omega⟩,ha.keep [1,2,6,8,13,14,15],by rw[hbs,hbs2];exact hs.sub (M:=blk b8 238 (brC B ab cb)::Sl 238 5 (some ⟨b',off',none⟩) T.l.length c (rows brc xs)::All bro xs::Tree tq sq T::blk b6 238 (brC br0 none 0)::L)⟩
    have hbs2:bestStep frm p B x=B:=if_neg (by omega)
    refine RN 4 ha hs λa ha=>?_
    have hrx:=All.rdBB (hs.pick (All bro xs)) hxx
    have hl5:=hox.2.1
    refine RN 7 ha hs λa ha=>?_
    exact⟨T.l.length-(k+1),by omega,k+1,_,_,⟨rfl,by omega⟩,ha.keep [1,2,6,8,13,14,15],by rw[hbs,hbs2];exact hs.sub (M:=blk b8 238 (brC B ab cb)::Sl 238 5 (some ⟨b',off',none⟩) T.l.length c (rows brc xs)::All bro xs::Tree tq sq T::blk b6 238 (brC br0 none 0)::L)⟩
   have hbs2:bestStep frm p B x=B:=if_neg (by omega)
   refine RN 11 ha hs λa ha=>?_
   have hrx:=All.rdBB (hs.pick (All bro xs)) hxx
   have hl5:=hox.2.1
   refine RN 7 ha hs λa ha=>?_
   exact⟨T.l.length-(k+1),by omega,k+1,_,_,⟨rfl,by omega⟩,ha.keep [1,2,6,8,13,14,15],by rw[hbs,hbs2];exact hs.sub (M:=blk b8 238 (brC B ab cb)::Sl 238 5 (some ⟨b',off',none⟩) T.l.length c (rows brc xs)::All bro xs::Tree tq sq T::blk b6 238 (brC br0 none 0)::L)⟩
  have hbs2:bestStep frm p B x=B:=if_neg (by omega)
  refine RN 18 ha hs λa ha=>?_
  have hrx:=All.rdBB (hs.pick (All bro xs)) hxx
  have hl5:=hox.2.1
  refine RN 7 ha hs λa ha=>?_
  exact⟨T.l.length-(k+1),by omega,k+1,_,_,⟨rfl,by omega⟩,ha.keep [1,2,6,8,13,14,15],by rw[hbs,hbs2];exact hs.sub (M:=blk b8 238 (brC B ab cb)::Sl 238 5 (some ⟨b',off',none⟩) T.l.length c (rows brc xs)::All bro xs::Tree tq sq T::blk b6 238 (brC br0 none 0)::L)⟩
 refine RN 1 ha hs λa ha=>?_
 obtain rfl:k=T.l.length:=by omega
 rw[List.take_length]at hs
 rw[show T.l.foldl (bestStep frm p) br0=T.best frm p from rfl]at hs
 refine DWC 0 (λw0 w'=>Rd w' b8 0 (brC (T.best frm p) ab cb)) [2,3,4] [1,3000,3002,3003,1004,5] ha hs λa w ha hs hH=>?_
 have hC:=hH.at w hs.rdAll
 refine RH 1 ha hs hH hC λa ha=>?_
 refine QH ha (λw hc=>ex_loadN ha Tryz.underlying238 rfl Ty.t238 (hc)) hC λa ha=>?_
 refine QH ha (λw hc=>ld1 ha (hc 3 _ rfl)) hC λa ha=>?_
 refine RH 1 ha hs hH hC λa ha=>?_
 refine SA 0 ha hs λa w ha hs=>?_
 replace hC:=hH.at w hs.rdAll
 refine RH 1 ha hs hH hC λa ha=>?_
 refine RT 0 ha hs ?_
 refine⟨ab,cb,?_,hs.sub⟩
 rw[show decide ((0:Int)<((T.best frm p).done:Int))=decide (0<(T.best frm p).done) from by rw[decide_eq_decide];omega]
def Tr.cut (T:Tr)(wh:Br→Bool):Tr:={ T with l:=T.l.filter (λx=>!wh x),epoch:=T.epoch+if (T.l.filter (λx=>!wh x)).length<T.l.length then 1 else 0 }
def Sn.dropAll (A:Sn)(l:List Br):Sn:=l.foldl (λA x=>A.dropId x.snap) A
theorem dropAll_succ {A:Sn}{l:List Br}{wh:Br→Bool}(h:l[k]?=some x):A.dropAll ((l.take (k+1)).filter wh)=if wh x=true then (A.dropAll ((l.take k).filter wh)).dropId x.snap else A.dropAll ((l.take k).filter wh):=by
 obtain⟨hk,rfl⟩:=List.getElem?_eq_some_iff.1 h
 rw[List.take_succ_eq_append_getElem hk,List.filter_append]
 by_cases hw:wh l[k]=true
 · rw[if_pos hw,Sn.dropAll,List.foldl_append];simp[hw,Sn.dropAll]
 · rw[if_neg hw];simp[hw]
theorem filter_succ {α:Type}{l:List α}{f:α→Bool}{z:α}(h:l[k]?=some z):(l.take (k+1)).filter f=(l.take k).filter f++if f z=true then [z] else []:=by
 obtain⟨hk,rfl⟩:=List.getElem?_eq_some_iff.1 h
 rw[List.take_succ_eq_append_getElem hk,List.filter_append]
 by_cases hw:f l[k]=true <;> simp[hw]
theorem map_filter_fst (xs:List Bx)(f:Br→Bool):(xs.filter (λz=>f z.1)).map (·.1)=(xs.map (·.1)).filter f:=by
 induction xs with
 | nil=>rfl
 | cons z xs ih =>
   by_cases h:f z.1=true <;> simp[h]at ih ⊢ <;> exact ih
theorem WT.cut (h:WT T)(he:T.epoch+1<1099511627776)(wh:Br→Bool):WT (T.cut wh):=by
 obtain⟨a1,a2,a3,a4,a5⟩:=h
 refine⟨⟨a1.1,?_⟩,a2,?_,?_,λy hy=>?_⟩
 · simp only[Tr.cut];exact Nat.le_trans (List.length_filter_le _ _) a1.2
 · simp only[Tr.cut];split <;> omega
 · simp only[Tr.cut]
   exact a4.sublist (List.Sublist.map _ List.filter_sublist)
 · simp only[Tr.cut]at hy ⊢
   exact a5 y (List.mem_filter.1 hy).1
class Tl (M L:List SP):Prop where h:∃ K,M.Perm (K++L)
instance Tl.self {L:List SP}:Tl L L:=⟨[],List.Perm.refl _⟩
instance (priority:=low) Tl.cons {A:SP}{M L:List SP}[t:Tl M L]:Tl (A::M) L:=⟨let ⟨K,h⟩:=t.h;⟨A::K,h.cons A⟩⟩
theorem St.tl {M:List SP}(hs:St W w M)(t:Tl M L):St W w L:=let ⟨_,h⟩:=t.h;(hs.perm h).drop
def RdZ (W:World)(N:List SP)(ad:Option Addr)(P:List (List UInt8)):Prop:=∃ zs:List BBx,zs.map (·.2.2)=P∧∀ w',St W w' N→RdX w' ad zs
set_option maxHeartbeats 1000000 in
theorem tree_drop {wh:Br→Bool}{f:Nat}{us:List Value}(hs:St W w (Tree tq sq T::Store sq r A::L))(he:T.epoch+1<1099511627776)(hcl:callable Tryz.prog f=true)
   (hf:∀ (M:List SP) (w':World) (x:Br) (ad':Option Addr) (c':Nat),x∈T.l→St W w' M→Tl M L→RdZ W M ad' x.press→x.press.length≤c'→OkP x.press →
     Calls Tryz.prog f (List.toArray (.agg (brC x ad' c').toArray::us)) w' λe w''=>e=.returned (.bool (wh x))∧St W w'' M) :
   Calls Tryz.prog 303 #[pt tq,.func (.func f) #[] (List.toArray us)] w λe w'=>e=.returned (.int .i64 ((T.l.length-(T.l.filter (λx=>!wh x)).length:Nat):Int)) ∧
     St W w' (Tree tq sq (T.cut wh)::Store sq r (A.dropAll (T.l.filter wh))::L):=by
 obtain⟨ad,c,xs,h1,hw,hs⟩:=Tree.open hs
 have hxl:xs.length=T.l.length:=by rw[← h1,List.length_map]
 have hT:=hw.most
 have hfl:=List.length_filter_le (λx=>!wh x) T.l
 refine EN Tryz.func303 Tryz.ntmps303 rfl rfl λa ha=>?_
 refine RN 6 ha hs λa ha=>?_
 replace ha:=ha.isF 10
 refine RN 10 ha hs λa ha=>?_
 replace hs:St W w (Sl 238 5 none 0 0 (rows brc ((xs.take 0).filter (λz:Bx=>!wh z.1)))::All bro ((xs.take 0).filter (λz:Bx=>!wh z.1))::blk tq 236 [pt sq,.int .i64 T.most,.slice ad T.l.length c,.int .i64 T.last,.int .i64 T.epoch]::Sl 238 5 ad T.l.length c (rows brc xs)::All bro (xs.drop 0)::Store sq r (A.dropAll ((T.l.take 0).filter wh))::L):=(hs.allNil (f:=bro)).sl0 238 5 none
 refine RN 8 ha hs λa ha=>?_
 refine wp_loop_ghost (λμ a w=>∃ (k m:Nat) (ad6:Option Addr) (c6:Nat),(μ=T.l.length-k∧k≤T.l.length∧m=((xs.take k).filter (λz=>!wh z.1)).length)∧Fr a 59 [(0,pt tq),(1,.func (.func f) #[] (List.toArray us)),(5,.int .i64 T.l.length),(6,.slice ad6 m c6),(19,.slice ad T.l.length c),(20,.int .i64 T.l.length),(21,.int .i64 k)]∧St W w (Sl 238 5 ad6 m c6 (rows brc ((xs.take k).filter (λz=>!wh z.1)))::All bro ((xs.take k).filter (λz=>!wh z.1))::blk tq 236 [pt sq,.int .i64 T.most,.slice ad T.l.length c,.int .i64 T.last,.int .i64 T.epoch]::Sl 238 5 ad T.l.length c (rows brc xs)::All bro (xs.drop k)::Store sq r (A.dropAll ((T.l.take k).filter wh))::L)) (T.l.length) (⟨0,0,none,0,⟨by simp,by simp,by simp⟩,ha.keep [0,1,5,6,19,20,21],hs.sub⟩) ?_
 clear ha hs
 rintro μ a w ⟨k,m,ad6,c6,⟨rfl,hk,hm⟩,ha,hs⟩
 refine IF 3 ha hs (λhc1 a ha=>?_) λhc1 a ha=>?_
 ·
  refine RN 2 ha hs λa ha=>?_
  obtain ⟨b', off', hade, hrd⟩ := hs.slRd (n := T.l.length) (cs := rows brc xs) (R := Sl 238 5 ad6 m c6 (rows brc ((xs.take k).filter (fun z => !wh z.1))) :: All bro ((xs.take k).filter (fun z => !wh z.1)) :: blk tq 236 [.pointer (some ⟨sq, 0, none⟩), .int .i64 T.most, .slice ad T.l.length c, .int .i64 T.last, .int .i64 T.epoch] :: All bro (xs.drop k) :: Store sq r (A.dropAll ((T.l.take k).filter wh)) :: L) (k := ⟨by
      refine List.Perm.trans ?_ (List.perm_middle (l₁:=[_,_,_]));exact List.Perm.refl _⟩) ad (by omega)
  subst hade
  have hkx:k<xs.length:=by omega
  obtain⟨⟨x,ax,cx⟩,hxx⟩:∃ y,xs[k]?=some y:=⟨_,List.getElem?_eq_getElem hkx⟩
  have hxe:xs[k]=(x,ax,cx):=(List.getElem?_eq_some_iff.1 hxx).2
  have hrk:=row_rd hrd hxx
  have hTx:T.l[k]?=some x:=by rw[← h1,List.getElem?_map,hxx];rfl
  have hox:=(hw.ok x (List.mem_of_getElem? hTx)).1
  have hda:=dropAll_succ (A:=A) (wh:=wh) hTx
  have hfs:=filter_succ (f:=λz:Bx=>!wh z.1) hxx
  replace hs:=(hs.pick (All bro (xs.drop k)))
  rw[List.drop_eq_getElem_cons hkx,hxe]at hs
  replace hs:=hs.allOut (i:=0) (by simp)
  change St W w (OwnBB ax x.press.length cx x.press::All bro (xs.drop (k+1))::_) at hs
  have hol:=(OwnBB.le hs).2
  refine RN 1 ha hs λa ha=>?_
  refine SS ha (ex_loadN ha Tryz.underlying238 rfl Ty.t238 (hrk)) λa ha=>?_
  refine AL 0 ha hs λb8 a w ha hs=>?_
  refine SA 0 ha hs λa w ha hs=>?_
  refine RN 4 ha hs λa ha=>?_
  obtain⟨zs,hz1,hz2,hs⟩:=OwnBB.open (hs.pick (OwnBB ax x.press.length cx x.press))
  refine CL 0 ha hs (hf _ _ x ax cx (List.mem_of_getElem? hTx) hs inferInstance ⟨zs,hz1,λw'' h=>St.rdX (h.sub (M:=Sl 22 1 ax x.press.length cx (zs.map bbv)::All bbo zs::[]))⟩ hol hox) (hf:=hcl) λa w ha hs=>?_
  replace hs:St W w (OwnBB ax x.press.length cx x.press::_):=St.shut (M:=[_,_]) hs (λ_ x=>⟨zs,⟨hz1,hz2⟩,x⟩)
  refine IF 0 ha hs (λhc2 a ha=>?_) λhc2 a ha=>?_
  ·
   rw[if_pos hc2]at hda
   rw[show (!wh (x,ax,cx).1)=false from by simp[hc2]]at hfs
   rw[if_neg (by decide),List.append_nil]at hfs
   refine DWO 1 [5] [0,1,2,4,3003,1005,1006] ha hs λa w ha hs hH hC=>?_
   refine RH 6 ha hs hH hC λa ha=>?_
   refine CL1 0 ha hs (snap_dropId (id:=x.snap) (hs.pick (Store sq r (A.dropAll ((T.l.take k).filter wh))))) λ_ a w ha hs=>?_
   rw[← hda]at hs
   refine RN 2 ha hs λa ha=>?_
   rw[← hfs]at hm hs
   exact⟨T.l.length-(k+1),by omega,k+1,_,_,_,⟨rfl,by omega,hm⟩,ha.keep [0,1,5,6,19,20,21],hs.sub⟩
  rw[if_neg (by rw[hc2];decide)]at hda
  rw[show (!wh (x,ax,cx).1)=true from by simp[hc2]]at hfs
  rw[if_pos rfl]at hfs
  refine RN 2 ha hs λa ha=>?_
  refine st_buildSlice ha rfl hs Tryz.underlying168 Ty.t238 rfl rfl rfl rfl (by decide) (by decide) λb37 a w ha hs ho=>?_
  clear ho
  obtain⟨Y,hY⟩:∃ Y,(xs.take k).filter (λz=>!wh z.1)=Y:=⟨_,rfl⟩
  rw[hY]at hs hfs hm
  refine RN 0 ha hs λa ha=>?_
  refine st_append ha rfl hs Tryz.underlying168 Ty.t238 rfl rfl hs.rdAll rfl (by simp[Value.oneCell',brC]) (by decide) (by decide) (by have:=List.length_filter_le (λz:Bx=>!wh z.1) (xs.take k);rw[hY,List.length_take]at this;omega) λad38 c38 a w ha hs=>?_
  have h8:=St.allPush (f:=bro) (l:=Y) (x:=(x,ax,cx)) (hs.sub (M:=OwnBB ax x.press.length cx x.press::All bro Y::Sl 238 5 ad38 (m+1) c38 (rows brc Y++[brC x ax cx].flatten)::blk tq 236 [pt sq,.int .i64 T.most,.slice (some ⟨b',off',none⟩) T.l.length c,.int .i64 T.last,.int .i64 T.epoch]::Sl 238 5 (some ⟨b',off',none⟩) T.l.length c (rows brc xs)::All bro (xs.drop (k+1))::Store sq r (A.dropAll ((T.l.take k).filter wh))::L))
  rw[rows_snocC,← hfs,← hda]at h8
  replace hs:=h8
  clear h8
  refine RN 3 ha hs λa ha=>?_
  exact⟨T.l.length-(k+1),by omega,k+1,_,_,_,⟨rfl,by omega,by rw[hfs,List.length_append,← hm];rfl⟩,ha.keep [0,1,5,6,19,20,21],hs.sub⟩
 refine RN 1 ha hs λa ha=>?_
 obtain rfl:k=T.l.length:=by omega
 rw[List.take_length,List.take_of_length_le (by omega)]at hs
 rw[List.take_of_length_le (by omega)]at hm
 have hmf:=map_filter_fst xs (λx=>!wh x)
 rw[h1]at hmf
 have hmm:m=(T.l.filter (λx=>!wh x)).length:=by rw[hm,← hmf,List.length_map]
 subst hmm
 refine ST 4 ha hs (λa w ha hs=>?_)
 refine IF 6 ha hs (λhc3 a ha=>?_) λhc3 a ha=>?_
 ·
  have hlt:(T.l.filter (λx=>!wh x)).length<T.l.length:=by omega
  refine ST 7 ha hs (λa w ha hs=>?_)
  rw[show ((T.epoch:Int)+1)=((T.epoch+1:Nat):Int) from rfl]at hs
  refine RT 6 ha hs ?_
  refine⟨by rw[show ((T.l.length-(T.l.filter (λx=>!wh x)).length:Nat):Int)=(T.l.length:Int)-((T.l.filter (λx=>!wh x)).length:Int) from by omega],?_⟩
  exact Tree.close (T:=T.cut wh) (ad:=ad6) (c:=c6) (xs:=xs.filter (λz=>!wh z.1)) (n:=(T.l.filter (λx=>!wh x)).length) (most:=T.most) (last:=T.last) (epoch:=T.epoch+1) hs hmf (hw.cut he wh) rfl rfl rfl (by simp only[Tr.cut];rw[if_pos hlt])
 have hlt:¬ (T.l.filter (λx=>!wh x)).length<T.l.length:=by omega
 refine RT 6 ha hs ?_
 refine⟨by rw[show ((T.l.length-(T.l.filter (λx=>!wh x)).length:Nat):Int)=(T.l.length:Int)-((T.l.filter (λx=>!wh x)).length:Int) from by omega],?_⟩
 exact Tree.close (T:=T.cut wh) (ad:=ad6) (c:=c6) (xs:=xs.filter (λz=>!wh z.1)) (n:=(T.l.filter (λx=>!wh x)).length) (most:=T.most) (last:=T.last) (epoch:=T.epoch) hs hmf (hw.cut he wh) rfl rfl rfl (by simp only[Tr.cut];rw[if_neg hlt];rfl)
theorem tree_clear (hs:St W w (Tree tq sq T::Store sq r A::L))(he:T.epoch+1<1099511627776) :
   Calls Tryz.prog 320 #[pt tq] w λe w'=>e=.returned (.int .i64 T.l.length)∧St W w' (Tree tq sq (T.cut λ_=>true)::Store sq r (A.dropAll T.l)::L):=by
 have hF : ∀ (M : List SP) (w' : World) (x : Br) (ad' : Option Addr) (c' : Nat), x ∈ T.l → St W w' M → Tl M L → RdZ W M ad' x.press → x.press.length ≤ c' → OkP x.press →
     Calls Tryz.prog 334 (List.toArray [.agg (brC x ad' c').toArray]) w' λe w''=>e=.returned (.bool true)∧St W w'' M:=by
   intro L w x ad' c' _ hs _ _ _ _
   refine EN Tryz.func334 Tryz.ntmps334 rfl rfl λa ha=>?_
   refine BX 1 ha hs λb1 a w ha hs=>?_
   refine RT 3 ha hs ?_
   exact⟨rfl,hs.sub⟩
 refine EN Tryz.func320 Tryz.ntmps320 rfl rfl λa ha=>?_
 refine CL 4 ha hs (tree_drop (wh:=λ_=>true) (us:=[]) hs he (by kernel_rfl) hF) λa w ha hs=>?_
 refine RT 1 ha hs ?_
 have e1:T.l.filter (λx=>!(λ_:Br=>true) x)=[]:=by simp
 have e2:T.l.filter (λ_=>true)=T.l:=by simp
 rw[e2]at hs
 exact⟨by rw[e1];rfl,hs⟩
end
end
section
theorem decode_pos (s:ByteArray)(i:Nat):1≤(Utf8.decode s i).2∧(Utf8.decode s i).2≤4:=by
 simp only[Utf8.decode]
 repeat' split
 all_goals simp
def wideN (r:Nat):Nat:=if r<0x80 then 1 else if r<0x800 then 2 else if r<0x10000 then 3 else 4
theorem getB (s:ByteArray)(i:Nat):(s.get! i).toNat<256:=(s.get! i).toNat_lt
theorem decode_wide (s:ByteArray)(i:Nat):wideN (Utf8.decode s i).1=(Utf8.decode s i).2∨Utf8.decode s i=(0xFFFD,1):=by
 have h0:=getB s (i+0);have h1:=getB s (i+1);have h2:=getB s (i+2);have h3:=getB s (i+3)
 simp only[Utf8.decode,Utf8.runeError]
 repeat' split
 all_goals first | (right;rfl) | (left;simp_all [wideN];done) | (left;simp_all [wideN];(repeat' split) <;> omega)
theorem decode_in (s:ByteArray)(i:Nat)(h:i<s.size):i+(Utf8.decode s i).2≤s.size:=by
 simp only[Utf8.decode,Utf8.runeError]
 repeat' split
 all_goals simp_all
 all_goals omega
theorem decode_lt (s:ByteArray)(i:Nat):(Utf8.decode s i).1<1114112:=by
 have h0:=getB s (i+0);have h1:=getB s (i+1);have h2:=getB s (i+2);have h3:=getB s (i+3)
 simp only[Utf8.decode,Utf8.runeError]
 repeat' split
 all_goals simp_all [Utf8.valid]
 all_goals omega
def runesAt (s:ByteArray)(pos:Nat):List (Nat×Nat):=if h:pos<s.size then Utf8.decode s pos::runesAt s (pos+(Utf8.decode s pos).2) else []
termination_by s.size-pos
decreasing_by have:=(decode_pos s pos).1;omega
theorem runesAt_in {s:ByteArray}{pos:Nat}(h:pos<s.size):runesAt s pos=Utf8.decode s pos::runesAt s (adv s pos):=by
 rw[runesAt,dif_pos h,adv,if_pos h]
theorem runesAt_out {s:ByteArray}{pos:Nat}(h:¬ pos<s.size):runesAt s pos=[]:=by
 rw[runesAt,dif_neg h]
theorem adv_le {s:ByteArray}{pos:Nat}(h:pos≤s.size):adv s pos≤s.size:=by
 by_cases hp:pos<s.size
 · rw[adv,if_pos hp];exact decode_in s pos hp
 · rw[adv,if_neg hp];exact h
def ctlB (x:Nat×Nat):Bool:=decide (32≤x.1)&&decide (x.1≠127)
def goodB (x:Nat×Nat):Bool:=!decide (x=(0xFFFD,1))
def tOk (s:ByteArray):Bool:=decide (1≤(runesAt s 0).length)&&decide ((runesAt s 0).length≤20)&&(runesAt s 0).all ctlB&&(runesAt s 0).all goodB
def runeI (s:ByteArray)(n:Int):Int:=if 0≤n then (((runesAt s 0)[n.toNat]?).map (λx=>(x.1:Int))).getD 0 else 0
structure OpR where
 code:Int
 a:Int
 b:Int
 c:Int
structure Pr where
 title:ByteArray
 ops:List OpR
abbrev opR (o:OpR):List Value:=[.int .i64 o.code,.int .i64 o.a,.int .i64 o.b,.int .i64 o.c]
theorem opR_len (o:OpR):(opR o).length=4:=rfl
theorem opR_one (o:OpR):∀ v∈opR o,v.oneCell'=true:=by
 intro v hv
 simp[opR]at hv
 rcases hv with rfl | rfl | rfl | rfl <;> rfl
def cellP (x:Int):Prop:=0≤x∧x<32
def i32P (x:Int):Prop := -2147483648≤x∧x≤2147483647
def okOp (n:Int)(o:OpR):Prop :=
 (o.code=0∧o.a=0∧o.b=0∧o.c=0)∨(o.code=1∧cellP o.a∧o.c=0)∨(o.code=9∧0≤o.a∧o.a≤n∧o.b=0∧o.c=0)∨(o.code=15∧cellP o.a∧o.b=0∧o.c=0) ∨
 (o.code=10∧cellP o.a∧0≤o.b∧o.b≤n∧o.c=0)∨((o.code=2∨(11≤o.code∧o.code≤14))∧cellP o.a∧cellP o.b∧o.c=0)∨(3≤o.code∧o.code≤8∧cellP o.a∧cellP o.b∧cellP o.c)
def i32O (o:OpR):Prop:=i32P o.code∧i32P o.a∧i32P o.b∧i32P o.c
def formOk (p:Pr):Prop:=tOk p.title=true∧1≤p.ops.length∧p.ops.length≤64∧∀ o∈p.ops,i32O o
def prOk (p:Pr):Prop:=formOk p∧∀ o∈p.ops,okOp p.ops.length o
def w32 (x:Int):Int:=IntKind.i32.wrap x
def mod32 (x:Int):Nat:=(x.emod 32).toNat
theorem mod32_lt (x:Int):mod32 x<32:=by
 have h1:=Int.emod_nonneg x (show (32:Int)≠0 by decide)
 have h2:=Int.emod_lt_of_pos x (show (0:Int)<32 by decide)
 show (x%32).toNat<32
 omega
def pressI (b:List UInt8)(x:Int):Int:=if 0≤x∧x<b.length then ((b.getD x.toNat 0).toNat:Int) else 0
def sumI (k a b:Int):Int:=if k=3 then w32 (a+b) else if k=4 then w32 (a-b) else if k=5 then w32 (a*b) else if k=6 then (if b=0 then 0 else w32 (a.tdiv b)) else if k=7 then (if a<b then 1 else 0) else if a=b then 1 else 0
def valI (p:Pr)(fr:Int)(b:List UInt8)(g:Nat→Int)(o:OpR):Int :=
 if o.code=1 then w32 o.b else if o.code=2 then g o.b.toNat else if o.code=11 then pressI b (g o.b.toNat) else if o.code=12 then g (mod32 (g o.b.toNat)) else if o.code=14 then runeI p.title (g o.b.toNat) else if o.code=15 then w32 fr else sumI o.code (g o.b.toNat) (g o.c.toNat)
def oneI (p:Pr)(fr:Int)(b:List UInt8)(g:Nat→Int)(at':Nat)(o:OpR):(Nat→Int)×Nat×Bool :=
 if o.code=0 then (g,at'+1,false) else if o.code=9 then (g,o.a.toNat,true) else if o.code=10 then (g,if g o.a.toNat=0 then o.b.toNat else at'+1,true) else if o.code=13 then (upd g (mod32 (g o.a.toNat)) (g o.b.toNat),at'+1,true)
 else (upd g o.a.toNat (valI p fr b g o),at'+1,true)
def runI (p:Pr)(fr:Int)(b:List UInt8):Nat→(Nat→Int)→Nat→(Nat→Int)
 | 0,g,_=>g
 | n+1,g,at'=>match p.ops[at']? with
   | none=>g
   | some o=>let r:=oneI p fr b g at' o
     if r.2.2 then runI p fr b n r.1 r.2.1 else r.1
def frameI (p:Pr)(fr:Int)(b:List UInt8)(g:Nat→Int):Nat→Int:=runI p fr b 200 g 0
def foldI (p:Pr)(fr:Int):(Nat→Int)→List (List UInt8)→(Nat→Int)
 | g,[]=>g
 | g,b::l=>foldI p (fr+1) (frameI p fr b g) l
theorem foldI_snoc (p:Pr)(b:List UInt8):∀ (l:List (List UInt8)) (fr:Int) (g:Nat→Int),foldI p fr g (l++[b])=frameI p (fr+l.length) b (foldI p fr g l)
 | [],fr,g=>by simp[foldI]
 | x::l,fr,g=>by
   rw[List.cons_append,foldI,foldI_snoc p b l,foldI,List.length_cons]
   congr 1;omega
def gOk (g:Nat→Int):Prop:=∀ c,c<32→i32P (g c)
theorem wrap32' {i:Int}(h1:-2147483648≤i)(h2:i≤2147483647):IntKind.i32.wrap i=i:=IntWalk.i32_in _ ⟨h1,h2⟩
theorem w32_in (x:Int):i32P (w32 x):=by
 simp only[w32,i32P,IntKind.wrap]
 split <;> simp_all [IntKind.signed,IntKind.bits] <;> omega
def Ro (W:World)(e sz:Nat)(ad:Option Addr)(n c:Nat)(cs:List Value):SP:=λh =>
 (cs.length=n*sz∧n≤c∧(0<n→∃ b off,ad=some ⟨b,off,none⟩∧b<W.heap.size∧Rd W b off cs))∨Sl e sz ad n c cs h
class PickRo (L:List SP)(W:World)(ad:Option Addr)(n c e sz:outParam Nat)(cs:outParam (List Value))(R:outParam (List SP)):Prop where perm:L.Perm (Ro W e sz ad n c cs::R)
instance PickRo.head {L W ad n c e sz cs}:PickRo (Ro W e sz ad n c cs::L) W ad n c e sz cs L:=⟨List.Perm.refl _⟩
instance (priority:=low) PickRo.tail {A L W ad n c e sz cs R}[h:PickRo L W ad n c e sz cs R]:PickRo (A::L) W ad n c e sz cs (A::R) :=
 ⟨(List.Perm.cons A h.perm).trans (List.Perm.swap _ _ _)⟩
section
variable {W w:World}{L R:List SP}{e sz n c:Nat}{ad:Option Addr}{cs:List Value}
theorem St.roRd (s:St W w L)(ad:Option Addr)[k:PickRo L W ad n c e sz cs R](h0:0<n):∃ b off,ad=some ⟨b,off,none⟩∧Rd w b off cs:=by
 have s':=s.perm k.perm
 obtain⟨bl,h,p,h1,h2,d,a,kk,x,q⟩:=s'
 rcases x with ⟨x1,x2,x3⟩ | x
 · obtain⟨b,off,rfl,hb,hr⟩:=x3 h0
   exact⟨b,off,rfl,λj v hj=>(s.old (a:=⟨b,off+j,none⟩) hb).trans (hr j v hj)⟩
 · have s2:St W w (Sl e sz ad n c cs::R):=⟨bl,h,p,h1,h2,d,a,kk,x,q⟩
   exact s2.slRd ad h0
theorem St.roSl (s:St W w (Sl e sz ad n c cs::L)):St W w (Ro W e sz ad n c cs::L):=s.imp λ_ ⟨h1,h2,d,a,b,x,q⟩=>⟨h1,h2,d,a,b,.inr x,q⟩
end
theorem op_rd {w:World}{b off k:Nat}{ops:List OpR}{o:OpR}(hr:Rd w b off (rows opR ops))(ho:ops[k]?=some o):Rd w b (off+k*4) (opR o):=by
 obtain⟨hi,he⟩:=List.getElem?_eq_some_iff.1 ho
 have:=hr.part (k*4) 4
 rw[rows_at opR_len ops k hi,he]at this
 exact this
end
section
def jc (l:List (Int×Int)):List Value:=l.flatMap λj=>[.int .i64 j.1,.int .i64 j.2]
theorem jc_len (l:List (Int×Int)):(jc l).length=l.length*2:=by
 induction l with
 | nil=>rfl
 | cons x l ih=>simp only[jc,List.flatMap_cons,List.length_append,List.length_cons,List.length_nil] at *;omega
theorem jc_app (l m:List (Int×Int)):jc (l++m)=jc l++jc m:=by simp[jc]
theorem jc_drop (l:List (Int×Int))(i:Nat):(jc l).drop (i*2)=jc (l.drop i):=by
 induction i generalizing l with
 | zero=>simp
 | succ i ih =>
   cases l with
   | nil=>simp[jc]
   | cons x l =>
     have:(i+1)*2=i*2+2:=by omega
     rw[this]
     simp only[jc,List.flatMap_cons,List.drop_succ_cons] at *
     rw[← ih l];simp
theorem jc_take (l:List (Int×Int))(i:Nat):(jc l).take (i*2)=jc (l.take i):=by
 induction i generalizing l with
 | zero=>simp[jc]
 | succ i ih =>
   cases l with
   | nil=>simp[jc]
   | cons x l =>
     have:(i+1)*2=i*2+2:=by omega
     rw[this]
     simp only[jc,List.flatMap_cons,List.take_succ_cons] at *
     rw[← ih l];simp
theorem jc_at (l:List (Int×Int))(i:Nat)(h:i<l.length):((jc l).drop (i*2)).take 2=[.int .i64 l[i].1,.int .i64 l[i].2]:=by
 rw[jc_drop,List.drop_eq_getElem_cons h];simp only[jc,List.flatMap_cons,List.cons_append,List.nil_append,List.take_succ_cons,List.take_zero]
def fi (p:Int×Int→Bool)(l:List (Int×Int)):Int:=if l.findIdx p<l.length then (l.findIdx p:Int) else -1
theorem fi_any (p:Int×Int→Bool)(l:List (Int×Int)):decide (0≤fi p l)=l.any p:=by
 unfold fi
 split <;> rename_i h
 · have:=List.findIdx_lt_length.1 h
   simp only[List.any_eq_true.2 this]
   simp
 · rw[List.findIdx_lt_length]at h
   have:l.any p=false:=by rw[← Bool.not_eq_true,List.any_eq_true];exact h
   simp[this]
theorem fi_hit (p:Int×Int→Bool)(l:List (Int×Int))(i:Nat)(hi:i<l.length)(h0:∀ j,(h:j<i)→p (l[j]'(by omega))=false)(h1:p l[i]=true):fi p l=i:=by
 have:l.findIdx p=i:=(List.findIdx_eq hi).2 ⟨h1,λj hj=>h0 j hj⟩
 simp[fi,this,hi]
theorem fi_miss (p:Int×Int→Bool)(l:List (Int×Int))(h0:∀ j,(h:j<l.length)→p l[j]=false):fi p l = -1:=by
 have:¬ l.findIdx p<l.length:=by
   rw[List.findIdx_lt_length];rintro⟨x,hx,hp⟩
   obtain⟨j,hj,rfl⟩:=List.mem_iff_getElem.1 hx
   rw[h0 j hj]at hp;cases hp
 simp[fi,this]
theorem upto_succ {q:Nat→Prop}{i:Nat}(h:∀ j,j<i→q j)(h1:q i):∀ j,j<i+1→q j:=λj hj=>by
 rcases Nat.lt_or_ge j i with h' | h'
 · exact h j h'
 · obtain rfl:j=i:=by omega
   exact h1
def Asks (W:World)(L:List SP)(f:Nat)(us:List Value)(p:Int×Int→Bool):Prop :=
 ∀ w (x:Int×Int),St W w L→Calls Tryz.prog f ([Value.agg #[.int .i64 x.1,.int .i64 x.2]]++us).toArray w λe w'=>e=.returned (.bool (p x))∧St W w' L
theorem len_some {W w:World}{L R:List SP}{a e:Nat}{s:Option Addr}{n c:Nat}(hs:St W w L) [Blk L a e [.slice s n c] R] :
   Calls Tryz.prog 207 #[pt a] w λe w'=>e=.returned (.int .i64 n)∧St W w' L:=by
 refine EN Tryz.func207 Tryz.ntmps207 rfl rfl λa ha=>?_
 refine RN 6 ha hs λa ha=>?_
 replace ha:=ha.isF 4
 refine RT 8 ha hs ?_
 exact⟨rfl,hs⟩
theorem put1 {W:World}{L R:List SP}{b e:Nat}{x1 x2:Int} [Blk L b e [.int .i64 x1,.int .i64 x2] R] :
   Asks W L 210 [pt b] (λy=>decide (y.1=x1)):=by
 rintro w ⟨y1,y2⟩ hs
 refine EN Tryz.func210 Tryz.ntmps210 rfl rfl λa ha=>?_
 refine BX 1 ha hs λb2 a w ha hs=>?_
 refine RT 8 ha hs ?_
 exact⟨rfl,hs.tail⟩
theorem indexFunc {W w:World}{L R:List SP}{ad:Option Addr}{c f:Nat}{us:List Value}{l:List (Int×Int)}{p:Int×Int→Bool}(hs:St W w L)[pk:PickSl L ad l.length c 245 2 (jc l) R]
   (hc:callable Tryz.prog f=true) (hf:Asks W L f us p) (hl:l.length≤140737488355328) :
   Calls Tryz.prog 232 #[.slice ad l.length c,.func (.func f) #[] us.toArray] w λe w'=>e=.returned (.int .i64 (fi p l))∧St W w' L:=by
 refine EN Tryz.func232 Tryz.ntmps232 rfl rfl λa ha=>?_
 refine RN 7 ha hs λa ha=>?_
 refine wp_loop_ghost (λμ a w=>∃ i:Nat,(μ=l.length-i∧i≤l.length∧(∀ j,j<i→∀ h:j<l.length,p l[j]=false))∧Fr a 19 [(0,.slice ad l.length c),(1,.func (.func f) #[] us.toArray),(4,.int .i64 0),(7,.int .i64 l.length),(8,.int .i64 i)]∧St W w L) (l.length) (⟨0,⟨by simp,by simp,λj h=>by omega⟩,ha.keep [0,1,4,7,8],hs⟩) ?_
 clear ha hs
 rintro μ a w ⟨i,⟨rfl,hi,hp⟩,ha,hs⟩
 refine IF 3 ha hs (λhc0 a ha=>?_) λhc0 a ha=>?_
 ·
  obtain⟨b,off,rfl,hrd⟩:=hs.slRd ad (by omega)
  have hil:i<l.length:=by omega
  have hr:=hrd.part (i*2) 2
  rw[jc_at l i hil]at hr
  refine RN 9 ha hs λa ha=>?_
  refine SS ha (ex_loadN ha Tryz.underlying245 rfl Ty.t245 (hr)) λa ha=>?_
  refine CL 0 ha hs (hf _ l[i] hs) (hf:=hc) λa w ha hs=>?_
  refine IF 0 ha hs (λhc1 a ha=>?_) λhc1 a ha=>?_
  ·
   refine RT 3 ha hs ?_
   exact⟨by rw[fi_hit p l i hil (λj hj=>hp j hj (by omega)) hc1],hs⟩
  refine RN 2 ha hs λa ha=>?_
  exact⟨l.length-(i+1),by omega,i+1,⟨rfl,by omega,upto_succ hp (λ_=>hc1)⟩,ha.keep [0,1,4,7,8],hs⟩
 refine RT 2 ha hs ?_
 exact⟨by rw[fi_miss p l (λj hj=>hp j (by omega) hj)],hs⟩
theorem containsFunc {W w:World}{L R:List SP}{ad:Option Addr}{c f:Nat}{us:List Value}{l:List (Int×Int)}{p:Int×Int→Bool}(hs:St W w L)[pk:PickSl L ad l.length c 245 2 (jc l) R]
   (hc:callable Tryz.prog f=true) (hf:Asks W L f us p) (hl:l.length≤140737488355328) :
   Calls Tryz.prog 209 #[.slice ad l.length c,.func (.func f) #[] us.toArray] w λe w'=>e=.returned (.bool (l.any p))∧St W w' L:=by
 refine EN Tryz.func209 Tryz.ntmps209 rfl rfl λa ha=>?_
 refine CL 5 ha hs (indexFunc hs hc hf hl) λa w ha hs=>?_
 refine RT 2 ha hs ?_
 exact⟨by rw[fi_any],hs⟩
def Jobs (q:Nat)(l:List (Int×Int)):SP:=λh=>∃ i:Option Addr×Nat,sepL [blk q 243 [.slice i.1 l.length i.2],Sl 245 2 i.1 l.length i.2 (jc l)] h
theorem Jobs.open {W w:World}{L:List SP}{q:Nat}{l:List (Int×Int)}(hs:St W w (Jobs q l::L)) :
   ∃ ad c,St W w (blk q 243 [.slice ad l.length c]::Sl 245 2 ad l.length c (jc l)::L):=by
 obtain⟨i,_,h⟩:=hs.exi (p:=λ_=>True) (B:=λi:Option Addr×Nat=>sepL [blk q 243 [.slice i.1 l.length i.2],Sl 245 2 i.1 l.length i.2 (jc l)]) (λ_ ⟨i,h⟩=>⟨i,trivial,h⟩)
 exact⟨i.1,i.2,h.open (λ_ x=>x)⟩
theorem Jobs.shut {W w:World}{L R R2:List SP}{q n c:Nat}{ad:Option Addr}{cs:List Value}{l:List (Int×Int)}(hs:St W w L)[k:Blk L q 243 [.slice ad n c] R][k2:PickSl R ad n c 245 2 cs R2]
   (hn:n=l.length) (hc:cs=jc l):St W w (Jobs q l::R2):=by
 subst hn;subst hc
 have h1:=(hs.perm k.perm).perm (List.Perm.cons _ k2.perm)
 exact St.shut (M:=[_,_]) h1 λ_ x=>⟨(ad,c),x⟩
theorem new_spec {W w:World}{L:List SP}(hs:St W w L) :
   Calls Tryz.prog 90 #[] w λe w'=>∃ q,e=.returned (pt q)∧St W w' (Jobs q []::L):=by
 refine EN Tryz.func90 Tryz.ntmps90 rfl rfl λa ha=>?_
 refine BX 4 ha hs λb2 a w ha hs=>?_
 refine RT 1 ha hs ?_
 exact⟨_,rfl,by
   have h1:=(hs.sl0 245 2 none)
   exact (Jobs.shut (q:=b2) (l:=[]) h1 rfl rfl).sub⟩
def mayPut (l:List (Int×Int))(b:Int):Bool:=decide (l.length<16)&&!l.any (λy=>decide (y.1=b))
theorem put_spec {W w:World}{L:List SP}{q:Nat}{l:List (Int×Int)}{b e:Int}(hs:St W w (Jobs q l::L))(hl:l.length≤16) :
   Calls Tryz.prog 182 #[pt q,.agg #[.int .i64 b,.int .i64 e]] w λr w' =>
     r=.returned (.bool (mayPut l b))∧St W w' (Jobs q (if mayPut l b then l++[(b,e)] else l)::L):=by
 obtain⟨ad,c,hs⟩:=Jobs.open hs
 refine EN Tryz.func182 Tryz.ntmps182 rfl rfl λa ha=>?_
 refine BX 1 ha hs λb3 a w ha hs=>?_
 refine RN 6 ha hs λa ha=>?_
 replace ha:=ha.isF 7
 refine BY 8 ha hs (λhg10 a ha=>?_) λhg10 a ha=>?_
 ·
  have hm:mayPut l b=false:=by simp only[mayPut,Bool.and_eq_false_iff,decide_eq_false_iff_not];left;omega
  refine RT 10 ha hs ?_
  exact⟨by rw[hm],by rw[hm,if_neg (by decide)];exact (Jobs.shut (q:=q) (ad:=ad) (l:=l) hs rfl rfl).sub⟩
 refine CL 5 ha hs (containsFunc hs (by kernel_rfl) put1 (by omega)) λa w ha hs=>?_
 refine IF 1 ha hs (λhc0 a ha=>?_) λhc0 a ha=>?_
 ·
  have hm:mayPut l b=false:=by simp only[mayPut,hc0,Bool.not_true,Bool.and_false]
  refine RT 2 ha hs ?_
  exact⟨by rw[hm],by rw[hm,if_neg (by decide)];exact (Jobs.shut (q:=q) (ad:=ad) (l:=l) hs rfl rfl).sub⟩
 have hm:mayPut l b=true:=by simp only[mayPut,hc0,Bool.not_false,Bool.and_true,decide_eq_true_eq];omega
 refine DWO 1 [5,6] [0,1,2,3,3004,1005,1006,1007,8,9,1010] ha hs λa w ha hs hH hC=>?_
 refine RH 6 ha hs hH hC λa ha=>?_
 refine st_buildSlice ha rfl hs Tryz.underlying241 Ty.t245 rfl rfl rfl rfl (by decide) (by decide) λb29 a w ha hs ho=>?_
 replace hC:=hC.trans ho
 clear ho
 refine RH 0 ha hs hH hC λa ha=>?_
 refine st_append ha rfl hs Tryz.underlying241 Ty.t245 rfl rfl hs.rdAll rfl (by simp[Value.oneCell']) (by decide) (by decide) (by omega) λad30 c30 a w ha hs=>?_
 refine ST 2 ha hs (λa w ha hs=>?_)
 refine RT 2 ha hs ?_
 exact⟨by rw[hm],by rw[hm,if_pos rfl];exact (Jobs.shut (q:=q) (l:=l++[(b,e)]) hs (by simp) (by simp[jc_app,jc])).sub⟩
theorem take_none {W w:World}{L:List SP}{q:Nat}(hs:St W w (Jobs q []::L)) :
   Calls Tryz.prog 180 #[pt q] w λr w' =>
     r=.returned (.tuple #[.agg #[.int .i64 0,.int .i64 0],.bool false])∧St W w' (Jobs q []::L):=by
 obtain⟨ad,c,hs⟩:=Jobs.open hs
 refine EN Tryz.func180 Tryz.ntmps180 rfl rfl λa ha=>?_
 refine AL 1 ha hs λb2 a w ha hs=>?_
 refine CL 4 ha hs (len_some (a:=q) hs) λa w ha hs=>?_
 refine IF 1 ha hs (λhc0 a ha=>?_) λhc0 a ha=>?_
 ·
  skip
  refine SA 2 ha hs λa w ha hs=>?_
  refine RT 1 ha hs ?_
  exact⟨rfl,(Jobs.shut (q:=q) (ad:=ad) (l:=[]) hs rfl rfl).sub⟩
 exact absurd rfl hc0
theorem take_some {W w:World}{L:List SP}{q:Nat}{x:Int×Int}{l:List (Int×Int)}(hs:St W w (Jobs q (x::l)::L)) :
   Calls Tryz.prog 180 #[pt q] w λr w' =>
     r=.returned (.tuple #[.agg #[.int .i64 x.1,.int .i64 x.2],.bool true])∧St W w' (Jobs q l::L):=by
 obtain⟨ad,c,hs⟩:=Jobs.open hs
 have hcl:=(hs.sl ad).2
 refine EN Tryz.func180 Tryz.ntmps180 rfl rfl λa ha=>?_
 refine AL 1 ha hs λb2 a w ha hs=>?_
 refine CL 4 ha hs (len_some (a:=q) hs) λa w ha hs=>?_
 refine IF 1 ha hs (λhc0 a ha=>?_) λhc0 a ha=>?_
 ·
  simp at hc0;omega
 refine RN 1 ha hs λa ha=>?_
 obtain⟨b,off,rfl,hrd⟩:=hs.slRd ad (by simp)
 have hr:=hrd.part 0 2
 rw[show 0=0*2 from rfl,jc_at (x::l) 0 (by simp)]at hr
 refine SX 4 ha hs (by simp) λa ha=>?_
 refine RN 0 ha hs λa ha=>?_
 refine SS ha (ex_loadN ha Tryz.underlying245 rfl Ty.t245 (hr)) λa ha=>?_
 refine AL 0 ha hs λb4 a w ha hs=>?_
 refine SA 0 ha hs λa w ha hs=>?_
 refine SX 6 ha hs (by simp) λa ha=>?_
 replace hs:=hs.cutSl (some ⟨b,off,none⟩) 1 (x::l).length (by simp) (Nat.le_refl _)
 refine ST 2 ha hs (λa w ha hs=>?_)
 refine SA 2 ha hs λa w ha hs=>?_
 refine RT 1 ha hs ?_
 exact⟨rfl,(Jobs.shut (q:=q) (l:=l) hs (by simp) (by simp[jc];rw[List.take_of_length_le];exact Nat.le_of_eq (jc_len l))).sub⟩
def kept (p:Int×Int→Bool)(l:List (Int×Int)):List (Int×Int):=l.filter λx=>!p x
theorem kept_snoc (p:Int×Int→Bool)(l:List (Int×Int))(j:Nat)(h:j<l.length):kept p (l.take (j+1))=kept p (l.take j)++(if p l[j] then [] else [l[j]]):=by
 rw[List.take_succ_eq_append_getElem h,kept,List.filter_append]
 cases hp:p l[j] <;> simp[kept,hp]
theorem fi_neg (p:Int×Int→Bool)(l:List (Int×Int))(h:fi p l = -1):kept p l=l:=by
 unfold fi at h
 split at h
 · omega
 · rename_i h1
   rw[List.findIdx_lt_length]at h1
   exact List.filter_eq_self.2 λx hx=>by
     cases hp:p x with
     | false=>rfl
     | true=>exact absurd ⟨x,hx,hp⟩ h1
theorem fi_pos (p:Int×Int→Bool)(l:List (Int×Int))(h:¬ fi p l = -1):∃ k:Nat,fi p l=(k:Int)∧k<l.length∧kept p (l.take (k+1))=l.take k:=by
 unfold fi at h ⊢
 split at h
 · rename_i h1
   refine⟨l.findIdx p,by rw[if_pos h1],h1,?_⟩
   rw[kept_snoc p l _ h1,List.findIdx_getElem (w:=h1),if_pos rfl,List.append_nil]
   refine List.filter_eq_self.2 λx hx=>?_
   obtain⟨j,hj,rfl⟩:=List.mem_iff_getElem.1 hx
   simp only[List.length_take]at hj
   have:=List.not_of_lt_findIdx (p:=p) (xs:=l) (i:=j) (by omega)
   simp at this ⊢;exact this
 · exact absurd rfl h
theorem jc_mid {pre post:List Value}(l:List (Int×Int))(i:Nat)(h:i<l.length):((pre++jc l++post).drop (pre.length+i*2)).take 2=[.int .i64 l[i].1,.int .i64 l[i].2]:=by
 rw[List.append_assoc,← List.drop_drop,List.drop_left,List.drop_append_of_le_length (by rw[jc_len];omega),List.take_append_of_le_length (by simp[jc_len];omega)]
 exact jc_at l i h
theorem jc_spl {pre post:List Value}(l:List (Int×Int))(i:Nat)(x:Int×Int)(h:i<l.length) :
   splice (pre++jc l++post) (pre.length+i*2) [.int .i64 x.1,.int .i64 x.2]=pre++jc (l.set i x)++post:=by
 have e0:l.set i x=l.take i++x::l.drop (i+1):=by rw[List.set_eq_take_append_cons_drop,if_pos h]
 have e1:(pre++jc l++post).take (pre.length+i*2)=pre++jc (l.take i):=by
   rw[List.append_assoc,List.take_append,List.take_of_length_le (by omega),show pre.length+i*2-pre.length=i*2 from by omega,List.take_append_of_le_length (by rw[jc_len];omega),jc_take]
 have e2:(pre++jc l++post).drop (pre.length+i*2+2)=jc (l.drop (i+1))++post:=by
   rw[List.append_assoc,Nat.add_assoc,← List.drop_drop,List.drop_left,show i*2+2=(i+1)*2 from by omega,List.drop_append_of_le_length (by rw[jc_len];omega),jc_drop]
 rw[splice,e1]
 show _++_++(pre++jc l++post).drop (pre.length+i*2+2)=_
 rw[e2,e0,jc_app]
 simp[jc]
structure Dl (p:Int×Int→Bool)(l l':List (Int×Int))(i j:Nat):Prop where
 len:l'.length=l.length
 le:j≤l.length
 lt:i<j
 cnt:i=(kept p (l.take j)).length
 fst:l'.take i=kept p (l.take j)
 snd:l'.drop j=l.drop j
theorem Dl.get {p l l' i j}(d:Dl p l l' i j)(h:j<l.length):l'[j]'(by have:=d.len;omega)=l[j]:=by
 have h1:=d.snd
 rw[List.drop_eq_getElem_cons (by have:=d.len;omega),List.drop_eq_getElem_cons h]at h1
 exact (List.cons.inj h1).1
theorem Dl.keep {p l l' i j}(d:Dl p l l' i j)(h:j<l.length)(hp:p l[j]=false):Dl p l (l'.set i l[j]) (i+1) (j+1):=by
 have hi:i<l'.length:=by have:=d.len;have:=d.lt;omega
 have hk:=kept_snoc p l j h
 rw[hp]at hk
 refine⟨by simp[d.len],by omega,by have:=d.lt;omega,?_,?_,?_⟩
 · rw[hk];simp[← d.cnt]
 · rw[hk,← d.fst,List.set_eq_take_append_cons_drop,if_pos hi,List.take_append,List.take_of_length_le (by simp;omega)]
   have:(l'.take i).length=i:=by simp;omega
   simp[this]
 · have h1:=d.snd
   rw[List.drop_set_of_lt (by have:=d.lt;omega)]
   have:=congrArg (List.drop 1) h1
   simpa [List.drop_drop] using this
theorem Dl.skip {p l l' i j}(d:Dl p l l' i j)(h:j<l.length)(hp:p l[j]=true):Dl p l l' i (j+1):=by
 have hk:=kept_snoc p l j h
 rw[hp]at hk
 simp only[if_true,List.append_nil]at hk
 refine⟨d.len,by omega,by have:=d.lt;omega,by rw[hk];exact d.cnt,by rw[hk];exact d.fst,?_⟩
 have:=congrArg (List.drop 1) d.snd
 simpa [List.drop_drop] using this
theorem deleteFunc {W w:World}{L:List SP}{ad:Option Addr}{c f:Nat}{us:List Value}{l:List (Int×Int)}{p:Int×Int→Bool}(hs:St W w (Sl 245 2 ad l.length c (jc l)::L))
   (hc:callable Tryz.prog f=true) (hf:∀ A,Asks W (A::L) f us p) (hf2:∀ A B,Asks W (A::B::L) f us p) (hl:l.length≤140737488355328) :
   Calls Tryz.prog 321 #[.slice ad l.length c,.func (.func f) #[] us.toArray] w λe w' =>
     ∃ ad' c',e=.returned (.slice ad' (kept p l).length c')∧St W w' (Sl 245 2 ad' (kept p l).length c' (jc (kept p l))::L):=by
 refine EN Tryz.func321 Tryz.ntmps321 rfl rfl λa ha=>?_
 refine CL 5 ha hs (indexFunc (p:=p) hs hc (hf _) hl) λa w ha hs=>?_
 refine IF 5 ha hs (λhc0 a ha=>?_) λhc0 a ha=>?_
 ·
  refine RT 3 ha hs ?_
  exact⟨ad,c,by rw[fi_neg p l hc0],by rw[fi_neg p l hc0];exact hs⟩
 obtain⟨k,hk,hkl,hkk⟩:=fi_pos p l hc0
 rw[hk]at ha
 have hcl:=(hs.sl ad).2
 have hA:=ha
 obtain⟨b,pre,post,⟨a1,a2,rfl,a4⟩,hQ⟩:=hs.slOpen (by omega)
 have ha:=hA
 have hs:=hQ
 refine RN 5 ha hs λa ha=>?_
 refine wp_loop_ghost (λμ a w=>∃ i j:Nat,∃ l':List (Int×Int),(μ=l.length-j∧Dl p l l' i j)∧Fr a 42 [(0,.slice (some ⟨b,pre.length,none⟩) l.length c),(1,.func (.func f) #[] us.toArray),(4,.slice none 0 0),(5,.int .i64 i),(6,.int .i64 j)]∧St W w (blk b 245 (pre++jc l'++post)::L)) (l.length-(k+1)) (⟨k,k+1,l,⟨rfl,rfl,by omega,by omega,by rw[hkk];simp;omega,by rw[hkk],rfl⟩,ha.keep [0,1,4,5,6],hs⟩) ?_
 clear ha hs
 rintro μ a w ⟨i,j,l',⟨rfl,hd⟩,ha,hs⟩
 have hd1:=hd.len
 have hd2:=hd.le
 have hd3:=hd.lt
 refine IF 6 ha hs (λhc1 a ha=>?_) λhc1 a ha=>?_
 ·
  have hjl:j<l.length:=by omega
  have hget:=hd.get hjl
  have hr:Rd w b (pre.length+j*2) [.int .i64 l[j].1,.int .i64 l[j].2]:=by
    intro q v hq
    rw[hs.cell]
    have:=jc_mid (pre:=pre) (post:=post) l' j (by omega)
    rw[hget]at this
    rw[← this]at hq
    rw[List.getElem?_take]at hq
    split at hq
    · rw[List.getElem?_drop]at hq;exact hq
    · cases hq
  refine RN 5 ha hs λa ha=>?_
  refine SS ha (ex_loadN ha Tryz.underlying245 rfl Ty.t245 (hr)) λa ha=>?_
  refine AL 0 ha hs λb7 a w ha hs=>?_
  refine SA 0 ha hs λa w ha hs=>?_
  refine CL 3 ha hs (hf2 _ _ _ l[j] hs) (hf:=hc) λa w ha hs=>?_
  refine IF 1 ha hs (λhc2 a ha=>?_) λhc2 a ha=>?_
  ·
   refine RN 5 ha hs λa ha=>?_
   refine st_storeN ha rfl hs Ty.t245 (by simp[Value.oneCell']) (by simp[jc_len];omega) λa w ha hs=>?_
   rw[jc_spl l' i l[j] (by omega)]at hs
   refine RN 6 ha hs λa ha=>?_
   exact⟨l.length-(j+1),by omega,i+1,j+1,_,⟨rfl,hd.keep hjl hc2⟩,ha.keep [0,1,4,5,6],hs.sub⟩
  refine RN 3 ha hs λa ha=>?_
  exact⟨l.length-(j+1),by omega,i,j+1,l',⟨rfl,hd.skip hjl hc2⟩,ha.keep [0,1,4,5,6],hs.sub⟩
 obtain rfl:j=l.length:=by omega
 have hcnt:=hd.cnt
 have hfst:=hd.fst
 rw[List.take_length]at hcnt hfst
 refine RN 4 ha hs λa ha=>?_
 rw[cutAd_some (by omega)]at ha
 have hle:pre.length+i*2+(l.length-i)*2≤(pre++jc l'++post).length:=by simp only[List.length_append,jc_len,hd1];omega
 refine st_clear ha rfl hs Tryz.underlying241 Ty.t245 rfl rfl hle λa w ha hs=>?_
 refine RN 4 ha hs λa ha=>?_
 rw[cutAd_some (by omega)]at ha
 refine RT 1 ha hs ?_
 refine⟨some ⟨b,pre.length+0*2,none⟩,c,by rw[hcnt];rfl,?_⟩
 generalize hz:(Builtin.zeroCells (Value.cells (.agg #[.int .i64 0,.int .i64 0])) (l.length-i)).toList=zs at hs
 have hzl:zs.length=(l.length-i)*2:=by rw[← hz];exact zero_size 0 (by':=0) rfl _
 have he:splice (pre++jc l'++post) (pre.length+i*2) zs=pre++jc (kept p l)++(zs++post):=by
   have e1:(pre++jc l'++post).take (pre.length+i*2)=pre++jc (kept p l):=by
     rw[List.append_assoc,List.take_append,List.take_of_length_le (by omega),show pre.length+i*2-pre.length=i*2 from by omega,List.take_append_of_le_length (by rw[jc_len];omega),jc_take,hfst]
   have e2:(pre++jc l'++post).drop (pre.length+i*2+zs.length)=post:=by
     rw[hzl,List.drop_append,List.drop_of_length_le (by simp only[List.length_append,jc_len];omega),List.nil_append]
     simp only[List.length_append,jc_len,hd1]
     have:pre.length+i*2+(l.length-i)*2-(pre.length+l.length*2)=0:=by omega
     rw[this,List.drop_zero]
   rw[splice,e1,e2];simp
 rw[he]at hs
 exact St.slShut hs (jc_len _) (by omega) (by rw[← hcnt,List.length_append,hzl];omega)
theorem canc1 {W:World}{L R:List SP}{b t:Nat}{x:Int} [Blk L b t [.int .i64 x] R] :
   Asks W L 322 [pt b] (λy=>decide (y.2<x)):=by
 rintro w ⟨y1,y2⟩ hs
 refine EN Tryz.func322 Tryz.ntmps322 rfl rfl λa ha=>?_
 refine BX 1 ha hs λb2 a w ha hs=>?_
 refine RT 7 ha hs ?_
 exact⟨rfl,hs.tail⟩
theorem cancel_spec {W w:World}{L:List SP}{q:Nat}{l:List (Int×Int)}{e:Int}(hs:St W w (Jobs q l::L))(hl:l.length≤16) :
   Calls Tryz.prog 307 #[pt q,.int .i64 e] w λr w' =>
     r=.returned (.int .i64 ((l.length:Int)-(kept (λy=>decide (y.2<e)) l).length))∧St W w' (Jobs q (kept (λy=>decide (y.2<e)) l)::L):=by
 obtain⟨ad,c,hs⟩:=Jobs.open hs
 have hk:(kept (λy=>decide (y.2<e)) l).length≤l.length:=List.length_filter_le _ _
 refine EN Tryz.func307 Tryz.ntmps307 rfl rfl λa ha=>?_
 refine BX 1 ha hs λb3 a w ha hs=>?_
 refine CL 3 ha hs (len_some (a:=q) hs) λa w ha hs=>?_
 refine RN 5 ha hs λa ha=>?_
 replace ha:=ha.isT 9
 refine CL2 7 ha hs (deleteFunc (hs.pick (Sl 245 2 ad l.length c (jc l))) (by kernel_rfl) (p:=λy=>decide (y.2<e)) (λA=>canc1) (λA B=>canc1) (by omega)) λad' c' a w ha hs=>?_
 refine ST 2 ha hs (λa w ha hs=>?_)
 refine CL 3 ha hs (len_some (a:=q) hs) λa w ha hs=>?_
 refine RT 2 ha hs ?_
 exact⟨rfl,(Jobs.shut (q:=q) (ad:=ad') (l:=kept (λy=>decide (y.2<e)) l) hs rfl rfl).sub⟩
theorem take_any {W w:World}{L:List SP}{q:Nat}{l:List (Int×Int)}(hs:St W w (Jobs q l::L)) :
   Calls Tryz.prog 180 #[pt q] w λr w' =>
     r=.returned (.tuple #[.agg #[.int .i64 (l.headD (0,0)).1,.int .i64 (l.headD (0,0)).2],.bool (!l.isEmpty)])∧St W w' (Jobs q l.tail::L):=by
 cases l with
 | nil=>exact take_none hs
 | cons x l=>exact take_some hs
class PickJ (L:List SP)(q:Nat)(l:outParam (List (Int×Int)))(R:outParam (List SP)):Prop where perm:L.Perm (Jobs q l::R)
instance PickJ.head {L q l}:PickJ (Jobs q l::L) q l L:=⟨List.Perm.refl _⟩
instance (priority:=low) PickJ.tail {A L q l R}[h:PickJ L q l R]:PickJ (A::L) q l (A::R):=⟨(List.Perm.cons A h.perm).trans (List.Perm.swap _ _ _)⟩
theorem St.jobs {W w:World}{L R:List SP}{l:List (Int×Int)}(hs:St W w L)(q:Nat)[k:PickJ L q l R]:St W w (Jobs q l::R):=hs.perm k.perm
theorem dne {x:Int}:decide (x≠x)=false:=by simp
end
end Go.Proofs.YteoldcfapaiobaaGreat
