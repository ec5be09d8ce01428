/- Package multi: what is played ahead. -/
import Derived.Test.YteoldcfapaiobaaGreatA17Sort
import Derived.Test.YteoldcfapaiobaaGreatA14Core
import Derived.Test.YteoldcfapaiobaaGreatA03Run
import Derived.Test.YteoldcfapaiobaaGreatA09Chk2
import Derived.Test.YteoldcfapaiobaaGreatA04Ty
import Derived.Test.YteoldcfapaiobaaGreatA16PlainS
import Derived.ProofKit
import Derived.Deep.Slices
import Derived.Deep.Strs
import Derived.Test.YteoldcfapaiobaaGreatA10Wk
import Derived.Test.YteoldcfapaiobaaGreatA13CoQ
namespace Go.Proofs.YteoldcfapaiobaaGreat
open Go.RowKit
set_option linter.unusedVariables false
set_option linter.unusedSimpArgs false
set_option maxRecDepth 10000
set_option synthInstance.maxSize 4000
set_option synthInstance.maxHeartbeats 400000
section
section
variable {W w:World}{Z:List SP}{n c i tq sq r nk base front:Nat}{ad:Option Addr}{M:MuB}{B:PlB}{y:UInt8}{x:Br}{p:Pr}{s:Pl}{T:Tr}
theorem mu_may (hs:St W w (blk M.mb 177 (muC p M nk base front)::PlainS W M.B p s::Z))(hw:WF' p s)(hx:RdZ W (blk M.mb 177 (muC p M nk base front)::PlainS W M.B p s::Z) ad x.press)
   (hf:x.frm=(front:Int)) (hj:∀ j∈x.press,j.length=s.k.n) (hb:front+x.press.length≤100000) :
   Calls Tryz.prog 288 #[pt M.mb,.agg (brC x ad c).toArray] w λe w'=>e=.returned (.bool (knP s.k.ls front x.press))∧St W w' (blk M.mb 177 (muC p M nk base front)::PlainS W M.B p s::Z):=by
 obtain⟨zs,hz,hx⟩:=hx
 have hne:=hw.wc.lne
 have hls:=hw.wc.ls
 have hn8:=hw.wc.n
 have hzl:zs.length=x.press.length:=by rw[← hz,List.length_map]
 refine EN Tryz.func288 Tryz.ntmps288 rfl rfl λa ha=>?_
 refine BX 1 ha hs λb3 a w ha hs=>?_
 refine CL 6 ha hs (plain_core (hs.pick (PlainS W M.B p s))) λa w ha hs=>?_
 replace hs:=PlainS.open hs
 refine CL 0 ha hs (core_queue (hs.pick (CoreS M.B.core s.k))) λa w ha hs=>?_
 refine RN 1 ha hs λa ha=>?_
 obtain⟨D,hs,hD⟩:=CoreS.qu hs
 have hxD:∀ w',St W w' (Qu M.B.core.qb M.B.core.lbs s.k.ls::D::blk M.B.pb 192 (plC p M.B s.g)::RoP W p M.B.adO M.B.cO::Sl 5 1 M.B.adT M.B.gs.table.length M.B.cT (bc M.B.gs.table)::blk M.mb 177 (muC p M nk base front)::Z)→RdX w' ad zs :=
   λw' h=>hx w' ((PlainS.fold (hD _ _ h) M.B p s).sub)
 refine RN 6 ha hs λa ha=>?_
 refine wp_loop_ghost (λμ a w=>∃ (i:Nat),(μ=x.press.length-i∧i≤x.press.length∧(∀ j,j<i→knB s.k.ls (front+j) (x.press.getD j [])=true))∧Fr a 59 [(0,pt M.mb),(3,pt b3),(5,pt M.B.core.qb),(19,.slice ad x.press.length c),(20,.int .i64 x.press.length),(21,.int .i64 i)]∧St W w (Qu M.B.core.qb M.B.core.lbs s.k.ls::D::blk b3 238 (brC x ad c)::blk M.B.pb 192 (plC p M.B s.g)::RoP W p M.B.adO M.B.cO::Sl 5 1 M.B.adT M.B.gs.table.length M.B.cT (bc M.B.gs.table)::blk M.mb 177 (muC p M nk base front)::Z)) (x.press.length) (⟨0,⟨rfl,by omega,λj h=>absurd h (by omega)⟩,ha.keep [0,3,5,19,20,21],hs.sub⟩) ?_
 clear ha hs
 rintro μ a w ⟨i,⟨rfl,hi,hkn⟩,ha,hs⟩
 refine IF 3 ha hs (λhc0 a ha=>?_) λhc0 a ha=>?_
 ·
  have hil:i<zs.length:=by omega
  obtain⟨bx,ox,z,hade,hzi,hcell,hrz⟩:=(hxD _ hs.sub).at hil
  have hzp:x.press.getD i []=z.2.2:=by rw[List.getD_eq_getElem?_getD,← hz,List.getElem?_map,hzi];rfl
  have hzn:z.2.2.length=s.k.n:=hj _ (by rw[← hz];exact List.mem_map.2 ⟨z,List.mem_of_getElem? hzi,rfl⟩)
  refine RN 3 ha hs λa ha=>?_
  rw[hade]at ha
  refine RN 1 ha hs λa ha=>?_
  refine SS ha (ld1 ha (hcell)) λa ha=>?_
  rw[← hade]at ha
  rw[bbv]at ha
  refine RN 6 ha hs λa ha=>?_
  refine wp_loop_ghost (λμ a w=>∃ (v:Nat),(μ=z.2.2.length-v∧v≤z.2.2.length∧(∀ q,q<v→front+i<(s.k.ls.getD q []).length→(s.k.ls.getD q []).getD (front+i) 0=z.2.2.getD q 0))∧Fr a 59 [(0,pt M.mb),(3,pt b3),(5,pt M.B.core.qb),(6,.int .i64 i),(19,.slice ad x.press.length c),(20,.int .i64 x.press.length),(21,.int .i64 i),(26,.slice z.1 z.2.2.length z.2.1),(27,.int .i64 z.2.2.length),(28,.int .i64 v)]∧St W w (Qu M.B.core.qb M.B.core.lbs s.k.ls::D::blk b3 238 (brC x ad c)::blk M.B.pb 192 (plC p M.B s.g)::RoP W p M.B.adO M.B.cO::Sl 5 1 M.B.adT M.B.gs.table.length M.B.cT (bc M.B.gs.table)::blk M.mb 177 (muC p M nk base front)::Z)) (z.2.2.length) (⟨0,⟨rfl,by omega,λj h=>absurd h (by omega)⟩,ha.keep [0,3,5,6,19,20,21,26,27,28],hs⟩) ?_
  clear ha hs
  rintro μ a w ⟨v,⟨rfl,hv,hkv⟩,ha,hs⟩
  refine IF 3 ha hs (λhc1 a ha=>?_) λhc1 a ha=>?_
  ·
   have hvl:v<z.2.2.length:=by omega
   have hvs:v<s.k.ls.length:=by omega
   obtain⟨bz,oz,hz1,hrv⟩:=((hxD _ hs.sub).2 z (List.mem_of_getElem? hzi)).get (by omega)
   refine RN 3 ha hs λa ha=>?_
   rw[hz1]at ha
   refine RN 1 ha hs λa ha=>?_
   refine SS ha (ld1 ha (hrv v _ (bc_atD hvl))) λa ha=>?_
   rw[← hz1]at ha
   refine DWC 3 (λw0 w'=>Rd w' b3 0 (brC x ad c)) [2] [0,1,3,5,3004,6,1002,1007,8,9,10,11,12] ha hs λa w ha hs hH=>?_
   have hC:=hH.at w (hs.rdAll (b:=b3))
   refine RH 4 ha hs hH hC λa ha=>?_
   refine QH ha (λw hc=>ld1 ha (hc 1 _ rfl)) hC λa ha=>?_
   refine RH 1 ha hs hH hC λa ha=>?_
   rw[hf,show ((front:Nat):Int)+(i:Int)=((front+i:Nat):Int) from rfl]at ha
   refine CL 0 ha hs (queue_line (hs.pick (Qu M.B.core.qb M.B.core.lbs s.k.ls)) hvs) λa w ha hs=>?_
   replace hC:=hH.at w (hs.rdAll (b:=b3))
   refine RH 0 ha hs hH hC λa ha=>?_
   refine CL 0 ha hs (q_at hs hvs) λa w ha hs=>?_
   refine RN 5 ha hs λa ha=>?_
   refine BY 3 ha hs (λhg1 a ha=>?_) λhg1 a ha=>?_
   ·
    refine IF 4 ha hs (λhc2 a ha=>?_) λhc2 a ha=>?_
    ·
     refine RT 2 ha hs ?_
     exact⟨by rw[knP_no (i:=i) (by omega) (by rw[hzp];exact knB_no hvl hg1 (λe=>hc2 (by rw[e])))],((PlainS.fold (hD _ _ hs) M.B p s).sub)⟩
    refine RN 2 ha hs λa ha=>?_
    refine⟨z.2.2.length-(v+1),by omega,v+1,⟨rfl,by omega,λq hq h1=>?_⟩,ha.keep [0,3,5,6,19,20,21,26,27,28],hs.sub⟩
    rcases (by omega:q<v∨q=v) with h | rfl
    · exact hkv q h h1
    · exact UInt8.toNat.inj (by omega)
   refine RN 7 ha hs λa ha=>?_
   refine⟨z.2.2.length-(v+1),by omega,v+1,⟨rfl,by omega,λq hq h1=>?_⟩,ha.keep [0,3,5,6,19,20,21,26,27,28],hs.sub⟩
   rcases (by omega:q<v∨q=v) with h | rfl
   · exact hkv q h h1
   · omega
  refine RN 2 ha hs λa ha=>?_
  refine⟨x.press.length-(i+1),by omega,i+1,⟨rfl,by omega,λj hj=>?_⟩,ha.keep [0,3,5,19,20,21],hs.sub⟩
  rcases (by omega:j<i∨j=i) with h | rfl
  · exact hkn j h
  · rw[hzp];exact knB_yes λq hq=>hkv q (by omega)
 refine DWO 1 [5] [0,2,3,4,3001,1005,6,7] ha hs λa w ha hs hH hC=>?_
 refine RH 8 ha hs hH hC λa ha=>?_
 refine RT 0 ha hs ?_
 exact⟨by rw[hf,decide_eq_true rfl,knP_yes λj hj=>hkn j (by omega)],((PlainS.fold (hD _ _ hs) M.B p s).sub)⟩
theorem mu_has {P:List (List UInt8)}(hs:St W w (blk M.mb 177 (muC p M nk base front)::Tree M.tq M.sq T::Z))(hx:RdZ W Z ad P)(hPl:P.length≤65536) :
   Calls Tryz.prog 305 #[pt M.mb,.slice ad P.length c] w λe w'=>∃ r:Bool,e=.returned (.bool r)∧(r=true→T.l≠[])∧St W w' (blk M.mb 177 (muC p M nk base front)::Tree M.tq M.sq T::Z):=by
 obtain⟨zs,hz,hx⟩:=hx
 have hzl:zs.length=P.length:=by rw[← hz,List.length_map]
 have hwt:=Tree.wt (hs.tree M.tq)
 have hTm:=hwt.most
 refine EN Tryz.func305 Tryz.ntmps305 rfl rfl λa ha=>?_
 refine CL2 8 ha hs (tree_all (hs.tree M.tq)) λadt ct a w ha hs=>?_
 obtain⟨xs,h1,h2,hs⟩:=OwnBr.open hs
 have hxl:xs.length=T.l.length:=by rw[← h1,List.length_map]
 refine RN 2 ha hs λa ha=>?_
 refine wp_loop_ghost (λμ a w=>∃ (i:Nat),(μ=T.l.length-i∧i≤T.l.length)∧Fr a 61 [(0,pt M.mb),(1,.slice ad P.length c),(14,.slice adt T.l.length ct),(15,.int .i64 T.l.length),(16,.int .i64 i)]∧St W w (Sl 238 5 adt T.l.length ct (rows brc xs)::All bro xs::Tree M.tq M.sq T::blk M.mb 177 (muC p M nk base front)::Z)) (T.l.length) (⟨0,⟨rfl,by omega⟩,ha.keep [0,1,14,15,16],hs.sub⟩) ?_
 clear ha hs
 rintro μ a w ⟨i,⟨hμ,hi⟩,ha,hs⟩
 refine IF 3 ha hs (λhc0 a ha=>?_) λhc0 a ha=>?_
 ·
  obtain⟨b',off',rfl,hrd⟩:=hs.slRd adt (by omega)
  obtain⟨⟨x,ax,cx⟩,hxx⟩:∃ y,xs[i]?=some y:=⟨_,List.getElem?_eq_getElem (by omega)⟩
  have hrk:=row_rd hrd hxx
  have hTx:T.l[i]?=some x:=by rw[← h1,List.getElem?_map,hxx];rfl
  have hox:=hwt.ok x (List.mem_of_getElem? hTx)
  have hxP:=hox.1.1
  have hTne:T.l≠[]:=λe=>by rw[e]at hTx;cases hTx
  refine RN 3 ha hs λa ha=>?_
  refine SS ha (ex_loadN ha Tryz.underlying238 rfl Ty.t238 (hrk)) λa ha=>?_
  refine AL 0 ha hs λb6 a w ha hs=>?_
  refine SA 0 ha hs λa w ha hs=>?_
  refine RN 6 ha hs λa ha=>?_
  refine wp_seq_cut (M:=λa w=>∃ q:Bool,(q=false→x.press.length≤P.length)∧Fr a 61 [(0,pt M.mb),(1,.slice ad P.length c),(6,pt b6),(7,.int .i64 x.press.length),(14,.slice (some ⟨b',off',none⟩) T.l.length ct),(15,.int .i64 T.l.length),(16,.int .i64 i),(38,.bool q)]∧St W w (blk b6 238 (brC x ax cx)::Sl 238 5 (some ⟨b',off',none⟩) T.l.length ct (rows brc xs)::All bro xs::Tree M.tq M.sq T::blk M.mb 177 (muC p M nk base front)::Z)) ?_ ?_
  ·
   refine BY 5 ha hs (λhg4 a ha=>?_) λhg4 a ha=>?_
   ·
    refine RN 11 ha hs λa ha=>?_
    exact⟨_,(λh=>by first | omega | cases h),ha.keep [0,1,6,7,14,15,16,38],hs.sub⟩
   refine BY 5 ha hs (λhg9 a ha=>?_) λhg9 a ha=>?_
   ·
    refine RN 6 ha hs λa ha=>?_
    exact⟨_,(λh=>by first | omega | cases h),ha.keep [0,1,6,7,14,15,16,38],hs.sub⟩
   refine RN 6 ha hs λa ha=>?_
   exact⟨_,(λh=>by first | omega | cases h),ha.keep [0,1,6,7,14,15,16,38],hs.sub⟩
  clear ha;(try clear hs)
  rintro a w ⟨q,hq,ha,hs⟩
  refine IF 0 ha hs (λhc1 a ha=>?_) λhc1 a ha=>?_
  ·
   refine RN 2 ha hs λa ha=>?_
   exact⟨T.l.length-(i+1),by omega,i+1,⟨rfl,by omega⟩,ha.keep [0,1,14,15,16],hs.sub⟩
  have hnl:=hq hc1
  refine RN 6 ha hs λa ha=>?_
  refine wp_loop_ghost (λμ a w=>∃ (v:Nat) (sm:Bool),(μ=x.press.length-v∧v≤x.press.length)∧Fr a 61 [(0,pt M.mb),(1,.slice ad P.length c),(6,pt b6),(7,.int .i64 x.press.length),(8,.bool sm),(14,.slice (some ⟨b',off',none⟩) T.l.length ct),(15,.int .i64 T.l.length),(16,.int .i64 i),(39,.int .i64 x.press.length),(40,.int .i64 v)]∧St W w (blk b6 238 (brC x ax cx)::Sl 238 5 (some ⟨b',off',none⟩) T.l.length ct (rows brc xs)::All bro xs::Tree M.tq M.sq T::blk M.mb 177 (muC p M nk base front)::Z)) (x.press.length) (⟨0,true,⟨rfl,by omega⟩,ha.keep [0,1,6,7,8,14,15,16,39,40],hs⟩) ?_
  clear ha hs
  rintro μ a w ⟨v,sm,⟨rfl,hv⟩,ha,hs⟩
  refine IF 3 ha hs (λhc2 a ha=>?_) λhc2 a ha=>?_
  ·
   have hvl:v<x.press.length:=by omega
   refine RN 4 ha hs λa ha=>?_
   obtain⟨b9,o9,hax,f9⟩:=(All.rdBB (hs.drew.pick (All bro xs)) hxx).1.2 (by omega)
   obtain⟨a8,c8,hc8,hr8⟩:=f9 v x.press[v] (List.getElem?_eq_getElem hvl)
   obtain⟨b7,o7,z,hade,hzi,hcell,hrz⟩:=(hx _ hs.drew.sub).at (i:=v) (by omega)
   clear f9
   refine DWG 0 (λw'=>(Rd w' b6 0 (brC x ax cx)∧w'.cell? ⟨b9,o9+v,none⟩=some (.slice a8 x.press[v].length c8)∧RdB w' a8 x.press[v].length x.press[v])∧(w'.cell? ⟨b7,o7+v,none⟩=some (bbv z)∧RdB w' z.1 z.2.2.length z.2.2)) [11,12] [0,1,2,4,8,9,10,3003,5,3006,3007,1011,1012,13,14,15] ha hs λa ha=>?_
   replace hs:=hs.drew
   generalize w.drew=w at hs hc8 hr8 hcell hrz ⊢
   have hC:(Rd w b6 0 (brC x ax cx)∧w.cell? ⟨b9,o9+v,none⟩=some (.slice a8 x.press[v].length c8)∧RdB w a8 x.press[v].length x.press[v])∧(w.cell? ⟨b7,o7+v,none⟩=some (bbv z)∧RdB w z.1 z.2.2.length z.2.2):=⟨⟨hs.rdAll (b:=b6),hc8,hr8⟩,hcell,hrz⟩
   have hH:=Hd.any (λw'=>(Rd w' b6 0 (brC x ax cx)∧w'.cell? ⟨b9,o9+v,none⟩=some (.slice a8 x.press[v].length c8)∧RdB w' a8 x.press[v].length x.press[v])∧(w'.cell? ⟨b7,o7+v,none⟩=some (bbv z)∧RdB w' z.1 z.2.2.length z.2.2))
   refine RH 2 ha hs hH hC λa ha=>?_
   refine ha.by (s:=44) (λhg1 ha=>?_) (λhg1 ha=>?_)
   ·
    refine RH 4 ha hs hH hC λa ha=>?_
    rw[hade]at ha
    refine RH 1 ha hs hH hC λa ha=>?_
    rw[← hade]at ha
    refine QH ha (λw hc=>ld1 ha (hc.1.1 2 _ rfl)) hC λa ha=>?_
    rw[hax]at ha
    refine RH 1 ha hs hH hC λa ha=>?_
    refine QH ha (λw hc=>ld1 ha (hc.1.2.1)) hC λa ha=>?_
    refine QH ha (λw hc=>ex_toString ha Tryz.underlying22 Tryz.underlying5 Tryz.underlying9 (hc.1.2.2)) hC λa ha=>?_
    refine RH 0 ha hs hH hC λa ha=>?_
    refine st_set ha (wgT ha rfl (s:=44)) (ld1 ha (hC.2.1)) rfl λa ha=>?_
    rw[bbv]at ha
    refine RH 0 ha hs hH hC λa ha=>?_
    refine st_set ha (wgT ha rfl (s:=44)) (ex_toString ha Tryz.underlying22 Tryz.underlying5 Tryz.underlying9 (hC.2.2)) rfl λa ha=>?_
    refine RH 0 ha hs hH hC λa ha=>?_
    refine QP ha (λw=>ex_eqlS ha) λa ha=>?_
    refine RH 2 ha hs hH hC λa ha=>?_
    refine RN 2 ha hs λa ha=>?_
    exact⟨x.press.length-(v+1),by omega,v+1,_,⟨rfl,by omega⟩,ha.keep [0,1,6,7,8,14,15,16,39,40],hs.sub⟩
   refine RH 14 ha hs hH hC λa ha=>?_
   refine RN 2 ha hs λa ha=>?_
   exact⟨x.press.length-(v+1),by omega,v+1,_,⟨rfl,by omega⟩,ha.keep [0,1,6,7,8,14,15,16,39,40],hs.sub⟩
  refine IF 2 ha hs (λhc3 a ha=>?_) λhc3 a ha=>?_
  ·
   refine RT 2 ha hs ?_
   exact⟨_,rfl,λ_=>hTne,hs.sub⟩
  refine RN 2 ha hs λa ha=>?_
  exact⟨T.l.length-(i+1),by omega,i+1,⟨rfl,by omega⟩,ha.keep [0,1,14,15,16],hs.sub⟩
 refine RT 2 ha hs ?_
 exact⟨_,rfl,(λh=>by cases h),hs.sub⟩
end
end
section
def BrI (k:Ks)(T:Tr):Prop:=∀ y∈T.l,(∀ j∈y.press,j.length=k.n)∧knP k.ls (frontK k) y.press=true
def jobsN (T:Tr)(J:Js)(i:Nat):Js:=(T.l.take i).foldl (λJ y=>if y.done<y.press.length then putJ J y.id T.epoch else J) J
def jobsT (T:Tr)(J:Js):Js:=jobsN T (kept (λj=>decide (j.2<T.epoch)) J) T.l.length
theorem jobsN_succ {T:Tr}{J:Js}{i:Nat}{x:Br}(h:T.l[i]?=some x):jobsN T J (i+1)=if x.done<x.press.length then putJ (jobsN T J i) x.id T.epoch else jobsN T J i:=by
 obtain⟨hi,rfl⟩:=List.getElem?_eq_some_iff.1 h
 rw[jobsN,List.take_succ_eq_append_getElem hi,List.foldl_append];rfl
theorem jobsN_len {T:Tr}{J:Js}(h:J.length≤16)(i:Nat):(jobsN T J i).length≤16:=by
 unfold jobsN
 generalize T.l.take i=l
 induction l generalizing J with
 | nil=>exact h
 | cons y l ih =>
   rw[List.foldl_cons]
   apply ih
   split
   · exact putJ_len h
   · exact h
theorem kept_len {J:Js}(f:Int×Int→Bool)(h:J.length≤16):(kept f J).length≤16:=Nat.le_trans (List.length_filter_le _ _) h
theorem aheadX_ok {ls X:List (List UInt8)}{fr to:Nat}(h:FitX to ls X):(∀ j∈aheadX X fr to,j.length=ls.length)∧knP ls fr (aheadX X fr to)=true:=by
 refine⟨λj hj=>?_,knP_yes λi hi=>knB_yes λq hq h1=>?_⟩
 · rw[aheadX,List.mem_map]at hj
   obtain⟨i,_,rfl⟩:=hj
   rw[jointL_len,h.len]
 · rw[aheadX_len]at hi
   have he:(aheadX X fr to).getD i []=jointL X (fr+i):=by
     rw[aheadX,List.getD_eq_getElem?_getD,List.getElem?_map,List.getElem?_range hi];rfl
   rw[he,jointL_len]at hq
   rw[he]
   obtain⟨l,hl⟩:∃ l,ls[q]?=some l:=⟨_,List.getElem?_eq_getElem (by rw[← h.len];exact hq)⟩
   obtain⟨x,hx⟩:∃ x,X[q]?=some x:=⟨_,List.getElem?_eq_getElem hq⟩
   obtain⟨⟨t,rfl⟩,_⟩:=h.fit q l x hl hx
   have e1:ls.getD q []=l:=by rw[List.getD_eq_getElem?_getD,hl];rfl
   rw[e1]at h1 ⊢
   rw[jointL,List.getD_eq_getElem?_getD,List.getD_eq_getElem?_getD,List.getElem?_map,hx]
   show _=((l++t).getD (fr+i) 0)
   rw[List.getD_eq_getElem?_getD,List.getElem?_append_left h1]
structure Ahd (p:Pr)(s:Pl)(t:Nat→Nat)(base:Nat)(A0:Sn)(T0:Tr)(r:Nat)(ws:List Wk)(A:Sn)(T:Tr):Prop where
 inv:Inv p (frontK s.k:Int) s.g t base A T ws
 brs:BrI s.k T
 room:A.room=A0.room
 n:A.n≤A0.n+r
 last:T.last≤T0.last+r
 most:T.most=T0.most
 ep:T.epoch=T0.epoch
 add:∃ l,T.l=T0.l++l∧∀ y∈l,y.done=0∧y.press≠[]∧y.press.length=headK s.k-frontK s.k
 has:0<r→frontK s.k<headK s.k→T.l≠[]
section
variable {p:Pr}{s:Pl}{t:Nat→Nat}{base r i:Nat}{A0 A:Sn}{T0 T:Tr}{ws:List Wk}{P:List (List UInt8)}{px:Pic}
theorem Ahd.skip (h:Ahd p s t base A0 T0 r ws A T)(hT:frontK s.k<headK s.k→T.l≠[]):Ahd p s t base A0 T0 (r+1) ws A T :=
 ⟨h.inv,h.brs,h.room,Nat.le_succ_of_le h.n,Nat.le_succ_of_le h.last,h.most,h.ep,h.add,λ_=>hT⟩
theorem Ahd.push (h:Ahd p s t base A0 T0 r ws A T)(hA:WF A)(hT:WT T)(hi:A.pics[i]?=some px)(hb:px.id=base)(h0:P≠[])(hPl:P.length=headK s.k-frontK s.k)(hj:∀ j∈P,j.length=s.k.n)(hk:knP s.k.ls (frontK s.k) P=true) :
   Ahd p s t base A0 T0 (r+1) ws (A.add px.g px.p) (T.add (frontK s.k:Int) P (A.last+1)):=by
 refine⟨h.inv.addBr hA hT hi hb,λy hy=>?_,h.room,?_,?_,h.most,h.ep,?_,λ_ _ e=>?_⟩
 · rcases List.mem_append.1 hy with hy | hy
   · exact h.brs y hy
   · rw[List.mem_singleton.1 hy];exact⟨hj,hk⟩
 · have:=h.n;simp only[Sn.add];omega
 · have:=h.last;simp only[Tr.add];omega
 · obtain⟨l,h1,h2⟩:=h.add
   refine⟨l++[⟨T.last+1,(frontK s.k:Int),P,0,A.last+1⟩],by simp only[Tr.add];rw[h1,List.append_assoc],λy hy=>?_⟩
   rcases List.mem_append.1 hy with hy | hy
   · exact h2 y hy
   · rw[List.mem_singleton.1 hy];exact⟨rfl,h0,hPl⟩
 · simp[Tr.add]at e
end
section
variable {W w:World}{L Z:List SP}{n i tq sq r base front:Nat}{M:MuB}{B:PlB}{y:UInt8}{x:Br}{p:Pr}{s:Pl}{m:Mu}{A:Sn}{T:Tr}{g0:Nat→Int}{t:Nat→Nat}{px:Pic}
theorem add_any {frm:Int}{ad2:Option Addr}{c2 id:Nat}{zs:List BBx}{P:List (List UInt8)}(hs:St W w (Tree tq sq T::Store sq r A::L))(hr:∀ w',St W w' L→RdX w' ad2 zs)(hz:zs.map (·.2.2)=P)(hc:P.length≤c2)(hok:OkP P)(h0:P≠[])
   (hx:A.pics[i]?=some px) (hid:px.id=id) (hb:A.n+1<1099511627776) (hl:T.last+1<1099511627776) :
   Calls Tryz.prog 306 #[pt tq,.int .i64 frm,.int .i64 id,.slice ad2 P.length c2] w λe w'=>∃ (z:Nat) (ok:Bool),e=.returned (.tuple #[.int .i64 z,.bool ok]) ∧
     (((T.most=0∨T.l≠[])∧St W w' (Tree tq sq T::Store sq r A::L))∨St W w' (Tree tq sq (T.add frm P (A.last+1))::Store sq r (A.add px.g px.p)::L)):=by
 by_cases hm:T.l.length<T.most
 · refine (add_try hs hr hz hc hok hx hid hb hl hm).mono λe w' ⟨z,ok,h1,h2⟩=>⟨z,ok,h1,?_⟩
   rcases h2 with ⟨_,h3,h4⟩ | ⟨_,_,_,_,h4⟩
   · refine .inl ⟨.inr λe=>?_,h4⟩
     rcases h3 with h3 | ⟨y,hy,_⟩
     · exact h0 h3
     · rw[e]at hy;cases hy
   · exact .inr h4
 · refine (add_full hs (.inl (by omega))).mono λe w' ⟨h1,hs⟩=>⟨0,false,h1,.inl ⟨?_,hs⟩⟩
   rcases Nat.eq_zero_or_pos T.most with h | h
   · exact .inl h
   · exact .inr λe=>by rw[e]at hm;simp at hm;omega
theorem mu_try (hs:St W w (MuS W M p m::L))(hw:WF' p m.s)(hI:Inv p (frontK m.s.k:Int) m.s.g t m.base m.A m.T (m.ks.map (·.1)))(hfr:m.front=frontK m.s.k)(hgs:mayGs M.B.gs)(hB:BrI m.s.k m.T)(hJ:m.J.length≤16)
   (hbm:m.s.k.branches=(m.T.most:Int)) (hn:m.A.n+10<1099511627776) (hl:m.T.last+10<1099511627776) :
   Calls Tryz.prog 289 #[pt M.mb] w λe w'=>∃ (A':Sn) (T':Tr),e=.returned (.tuple #[])∧Ahd p m.s t m.base m.A m.T m.T.most (m.ks.map (·.1)) A' T'∧St W w' (MuS W M p { m with A:=A',T:=T',J:=jobsT T' m.J }::L):=by
 have hne:=hw.wc.lne
 have hls:=hw.wc.ls
 have hn8:=hw.wc.n
 have hl8:m.s.k.ls.length≤8:=by rw[hls];exact hn8.2
 have hhd:=hw.wc.headt
 have hft:frontL m.s.k.ls≤headK m.s.k:=hw.wc.frontt
 obtain⟨mb,B,sq,r,tq,jq,adw,cw,adO,cO⟩:=M
 obtain⟨s,A,T,J,ks,base,front⟩:=m
 simp only at hw hI hfr hgs hB hJ hbm hn hl hne hls hn8 hl8 hhd hft
 subst hfr
 have hTm:=(Tree.wt ((MuS.open hs).tree tq)).most.1
 replace hs:=MuS.open hs
 dsimp only at hs hTm
 refine EN Tryz.func289 Tryz.ntmps289 rfl rfl λa ha=>?_
 refine CL 6 ha hs (plain_core (hs.pick (PlainS W B p s))) λa w ha hs=>?_
 replace hs:=PlainS.open hs
 refine CL 0 ha hs (core_conf (hs.pick (CoreS B.core s.k))) λa w ha hs=>?_
 refine RN 0 ha hs λa ha=>?_
 refine SS ha (ex_field1 ha Tryz.underlying28 rfl Tryz.underlying3 rfl rfl) λa ha=>?_
 rw[show (ksCf s.k).branches=(T.most:Int) from hbm]at ha
 refine RN 1 ha hs λa ha=>?_
 replace hs:=PlainS.fold hs B p s
 refine wp_loop_ghost (λμ a w=>∃ (i:Nat) (A1:Sn) (T1:Tr),(μ=T.most-i∧i≤T.most∧Ahd p s t base A T i (ks.map (·.1)) A1 T1)∧Fr a 98 [(0,pt mb),(12,.int .i64 T.most),(13,.int .i64 i)]∧St W w (blk mb 177 (muC p ⟨mb,B,sq,r,tq,jq,adw,cw,adO,cO⟩ ks.length base (frontK s.k))::PlainS W B p s::RoP W p adO cO::Sl 179 1 adw ks.length cw (ptrs ks)::All (ownK p adO cO tq jq sq) ks::Tree tq sq T1::Store sq r A1::Jobs jq J::L)) (T.most) (⟨0,A,T,⟨rfl,by omega,⟨hI,hB,rfl,Nat.le_refl _,Nat.le_refl _,rfl,rfl,⟨[],by simp,λy hy=>by cases hy⟩,λh=>absurd h (by omega)⟩⟩,ha.keep [0,12,13],hs.sub⟩) ?_
 clear ha hs
 rintro μ a w ⟨i,A1,T1,⟨rfl,hi,hah⟩,ha,hs⟩
 refine IF 3 ha hs (λhc0 a ha=>?_) λhc0 a ha=>?_
 ·
  have hiT:i<T.most:=by omega
  have hAn:=hah.n
  have hTl:=hah.last
  have hA1:=(Store.facts (hs.store sq)).1
  have hT1:=Tree.wt (hs.tree tq)
  obtain⟨ib,px,hpx,hpid⟩:=hah.inv.pic (List.mem_cons_self ..)
  refine DWC 5 (λw0 w'=>Rd w' mb 0 (muC p ⟨mb,B,sq,r,tq,jq,adw,cw,adO,cO⟩ ks.length base (frontK s.k))) [4,5,9,10,15] [0,1,2,6,7,8,11,12,13,14,3003,3009,3015,1004,1005,1010,1016,1017,1018,19] ha hs λa w ha hs hH=>?_
  have hC:=hH.at w (hs.rdAll (b:=mb))
  refine RH 10 ha hs hH hC λa ha=>?_
  refine QH ha (λw hc=>ld1 ha (hc 0 _ rfl)) hC λa ha=>?_
  refine QH ha (λw hc=>ld1 ha (hc 0 _ rfl)) hC λa ha=>?_
  refine QH ha (λw hc=>ld1 ha (hc 0 _ rfl)) hC λa ha=>?_
  refine RH 0 ha hs hH hC λa ha=>?_
  refine CL 0 ha hs (plain_core (hs.pick (PlainS W B p s))) λa w ha hs=>?_
  replace hC:=hH.at w (hs.rdAll (b:=mb))
  replace hs:=PlainS.open hs
  refine RH 0 ha hs hH hC λa ha=>?_
  refine CL 0 ha hs (core_queue (hs.pick (CoreS B.core s.k))) λa w ha hs=>?_
  replace hC:=hH.at w (hs.rdAll (b:=mb))
  replace hs:=PlainS.fold hs B p s
  refine RH 0 ha hs hH hC λa ha=>?_
  refine CL 0 ha hs (plain_by (hs.pick (PlainS W B p s))) λa w ha hs=>?_
  replace hC:=hH.at w (hs.rdAll (b:=mb))
  refine RH 0 ha hs hH hC λa ha=>?_
  refine CL 0 ha hs (plain_core (hs.pick (PlainS W B p s))) λa w ha hs=>?_
  replace hs:=PlainS.open hs
  refine CL 0 ha hs (core_head (hs.pick (CoreS B.core s.k)) hw.wc) λa w ha hs=>?_
  obtain⟨D,hs,hD⟩:=CoreS.qu hs
  refine CL3 0 ha hs (guess_ahead (r:=i) (to:=headK s.k) (.inr rankS) (by omega) hs hgs hne hl8 hw.wc.ln hhd (λw' hw'=>(hw'.pick (Sl 5 1 B.adT B.gs.table.length B.cT (bc B.gs.table))).rdB B.adT _ rfl rfl)) λadh ch X a w ha ⟨⟨hFX,_⟩,hs⟩=>?_
  replace hs:St W w (Qu B.core.qb B.core.lbs s.k.ls::D::OwnBB adh (headK s.k-frontL s.k.ls) ch (aheadX X (frontL s.k.ls) (headK s.k))::_):=hs.sub (M:=Qu B.core.qb B.core.lbs s.k.ls::D::OwnBB adh (headK s.k-frontL s.k.ls) ch (aheadX X (frontL s.k.ls) (headK s.k))::blk B.pb 192 (plC p B s.g)::RoP W p B.adO B.cO::Sl 5 1 B.adT B.gs.table.length B.cT (bc B.gs.table)::blk mb 177 (muC p ⟨mb,B,sq,r,tq,jq,adw,cw,adO,cO⟩ ks.length base (frontK s.k))::RoP W p adO cO::Sl 179 1 adw ks.length cw (ptrs ks)::All (ownK p adO cO tq jq sq) ks::Tree tq sq T1::Store sq r A1::Jobs jq J::L)
  replace hs:=PlainS.fold (hD _ _ hs) B p s
  have hPl:=aheadX_len X (frontL s.k.ls) (headK s.k)
  obtain⟨hPj,hPk⟩:=aheadX_ok (fr:=frontL s.k.ls) hFX
  generalize hPe:aheadX X (frontL s.k.ls) (headK s.k)=P at hs hPl hPj hPk
  rw[← hPl]at ha hs
  obtain⟨zs,hz1,hz2,hs⟩:=OwnBB.open (hs.pick (OwnBB adh P.length ch P))
  have hPc:=(hs.sl adh).2
  replace hs:=hs.sub (M:=blk mb 177 (muC p ⟨mb,B,sq,r,tq,jq,adw,cw,adO,cO⟩ ks.length base (frontK s.k))::Tree tq sq T1::Sl 22 1 adh P.length ch (zs.map bbv)::All bbo zs::PlainS W B p s::RoP W p adO cO::Sl 179 1 adw ks.length cw (ptrs ks)::All (ownK p adO cO tq jq sq) ks::Store sq r A1::Jobs jq J::L)
  refine RN 1 ha hs λa ha=>?_
  refine BY 6 ha hs (λhg3 a ha=>?_) λhg3 a ha=>?_
  ·
   have hz0:¬ frontK s.k<headK s.k:=by rw[frontK];omega
   refine RN 7 ha hs λa ha=>?_
   exact⟨T.most-(i+1),by omega,i+1,A1,T1,⟨rfl,by omega,hah.skip λh=>absurd h hz0⟩,ha.keep [0,12,13],hs.sub⟩
  have hP0:P≠[]:=λe=>by rw[e]at hg3;exact hg3 rfl
  refine CL1 2 ha hs (mu_has (M:=⟨mb,B,sq,r,tq,jq,adw,cw,adO,cO⟩) (T:=T1) (P:=P) hs ⟨zs,hz1,λw' h=>St.rdX (h.sub (M:=Sl 22 1 adh P.length ch (zs.map bbv)::All bbo zs::[]))⟩ (by omega)) λq a w ha ⟨hq,hs⟩=>?_
  refine IF 1 ha hs (λhc1 a ha=>?_) λhc1 a ha=>?_
  ·
   refine RN 2 ha hs λa ha=>?_
   exact⟨T.most-(i+1),by omega,i+1,A1,T1,⟨rfl,by omega,hah.skip λ_=>hq hc1⟩,ha.keep [0,12,13],hs.sub⟩
  refine DWO 0 [7,11] [0,1,2,4,5,6,8,9,10,12,3003,3007,1011,1013] ha hs λa w ha hs hH hC=>?_
  refine RH 13 ha hs hH hC λa ha=>?_
  refine CL2 0 ha hs (add_any (i:=ib) (px:=px) (id:=base) (P:=P) (zs:=zs) ((hs.store sq).tree tq) (λw' h=>St.rdX (h.sub (M:=Sl 22 1 adh P.length ch (zs.map bbv)::All bbo zs::[]))) hz1 hPc ⟨by omega,λb hb=>by have:=hPj b hb;omega⟩ hP0 hpx hpid (by omega) (by omega)) λz ok a w ha hadd=>?_
  obtain⟨A2,T2,hah2,hs⟩:∃ (A2:Sn) (T2:Tr),Ahd p s t base A T (i+1) (ks.map (·.1)) A2 T2∧St W w (blk mb 177 (muC p ⟨mb,B,sq,r,tq,jq,adw,cw,adO,cO⟩ ks.length base (frontK s.k))::PlainS W B p s::RoP W p adO cO::Sl 179 1 adw ks.length cw (ptrs ks)::All (ownK p adO cO tq jq sq) ks::Tree tq sq T2::Store sq r A2::Jobs jq J::L):=by
    rcases hadd with ⟨hm0,hs⟩ | hs
    · exact⟨A1,T1,hah.skip λ_=>hm0.resolve_left (by rw[hah.most];omega),hs.sub⟩
    · exact⟨_,_,hah.push hA1 hT1 hpx hpid hP0 hPl (λj hj=>by rw[hPj j hj,hls]) hPk,hs.sub⟩
  refine RN 2 ha hs λa ha=>?_
  exact⟨T.most-(i+1),by omega,i+1,A2,T2,⟨rfl,by omega,hah2⟩,ha.keep [0,12,13],hs.sub⟩
 refine DWC 1 (λw0 w'=>Rd w' mb 0 (muC p ⟨mb,B,sq,r,tq,jq,adw,cw,adO,cO⟩ ks.length base (frontK s.k))) [7,8] [0,1,2,4,5,6,3003,1007,1008,1009] ha hs λa w ha hs hH=>?_
 have hC:=hH.at w (hs.rdAll (b:=mb))
 refine RH 6 ha hs hH hC λa ha=>?_
 refine QH ha (λw hc=>ld1 ha (hc 5 _ rfl)) hC λa ha=>?_
 refine RH 0 ha hs hH hC λa ha=>?_
 refine SS ha (ld1 ha (hC 4 _ rfl)) λa ha=>?_
 refine RH 0 ha hs hH hC λa ha=>?_
 refine CL 0 ha hs (tree_epoch (hs.tree tq)) λa w ha hs=>?_
 replace hC:=hH.at w (hs.rdAll (b:=mb))
 refine RH 0 ha hs hH hC λa ha=>?_
 refine CL 0 ha hs (cancel_spec (hs.jobs jq) hJ) λa w ha hs=>?_
 change St W w (Jobs jq (jobsN T1 (kept (λj=>decide (j.2<(T1.epoch:Int))) J) 0)::_) at hs
 refine CL2 5 ha hs (tree_all (hs.tree tq)) λadt ct a w ha hs=>?_
 obtain⟨xs,h1,h2,hs⟩:=OwnBr.open hs
 have hxl:xs.length=T1.l.length:=by rw[← h1,List.length_map]
 have hT1:=Tree.wt (hs.tree tq)
 have hT8:=hT1.most
 obtain rfl:i=T.most:=by omega
 have hJ0:=kept_len (λj=>decide (j.2<(T1.epoch:Int))) hJ
 refine RN 2 ha hs λa ha=>?_
 refine wp_loop_ghost (λμ a w=>∃ (v:Nat),(μ=T1.l.length-v∧v≤T1.l.length)∧Fr a 98 [(0,pt mb),(72,.slice adt T1.l.length ct),(73,.int .i64 T1.l.length),(74,.int .i64 v)]∧St W w (Jobs jq (jobsN T1 (kept (λj=>decide (j.2<(T1.epoch:Int))) J) v)::Sl 238 5 adt T1.l.length ct (rows brc xs)::All bro xs::blk mb 177 (muC p ⟨mb,B,sq,r,tq,jq,adw,cw,adO,cO⟩ ks.length base (frontK s.k))::PlainS W B p s::RoP W p adO cO::Sl 179 1 adw ks.length cw (ptrs ks)::All (ownK p adO cO tq jq sq) ks::Tree tq sq T1::Store sq r A1::L)) (T1.l.length) (⟨0,⟨rfl,by omega⟩,ha.keep [0,72,73,74],hs.sub⟩) ?_
 clear ha hs
 rintro μ a w ⟨v,⟨hμ,hv⟩,ha,hs⟩
 refine IF 3 ha hs (λhc2 a ha=>?_) λhc2 a ha=>?_
 ·
  obtain⟨b',off',rfl,hrd⟩:=hs.slRd adt (by omega)
  obtain⟨⟨x,ax,cx⟩,hxx⟩:∃ y,xs[v]?=some y:=⟨_,List.getElem?_eq_getElem (by omega)⟩
  have hrk:=row_rd hrd hxx
  have hTx:T1.l[v]?=some x:=by rw[← h1,List.getElem?_map,hxx];rfl
  have hjs:=jobsN_succ (J:=kept (λj=>decide (j.2<(T1.epoch:Int))) J) hTx
  have hj6:=jobsN_len hJ0 (T:=T1) v
  refine RN 3 ha hs λa ha=>?_
  refine SS ha (ex_loadN ha Tryz.underlying238 rfl Ty.t238 (hrk)) λa ha=>?_
  refine AL 0 ha hs λb5 a w ha hs=>?_
  refine SA 0 ha hs λa w ha hs=>?_
  refine IF 7 ha hs (λhc3 a ha=>?_) λhc3 a ha=>?_
  ·
   rw[if_pos (by omega)]at hjs
   refine DWC 0 (λw0 w'=>Rd w' mb 0 (muC p ⟨mb,B,sq,r,tq,jq,adw,cw,adO,cO⟩ ks.length base (frontK s.k))∧Rd w' b5 0 (brC x ax cx)) [5,9,10,11] [0,1,2,4,6,7,8,3003,3005,1009,1010,1011,1012] ha hs λa w ha hs hH=>?_
   have hC:=hH.at w ⟨hs.rdAll (b:=mb),hs.rdAll (b:=b5)⟩
   refine RH 7 ha hs hH hC λa ha=>?_
   refine QH ha (λw hc=>ld1 ha (hc.1 5 _ rfl)) hC λa ha=>?_
   refine QH ha (λw hc=>ld1 ha (hc.2 0 _ rfl)) hC λa ha=>?_
   refine RH 0 ha hs hH hC λa ha=>?_
   refine SS ha (ld1 ha (hC.1 4 _ rfl)) λa ha=>?_
   refine RH 0 ha hs hH hC λa ha=>?_
   refine CL 0 ha hs (tree_epoch (hs.tree tq)) λa w ha hs=>?_
   replace hC:=hH.at w ⟨hs.rdAll (b:=mb),hs.rdAll (b:=b5)⟩
   refine RH 1 ha hs hH hC λa ha=>?_
   refine CL 0 ha hs (put_spec (hs.jobs jq) hj6) λa w ha hs=>?_
   change St W w (Jobs jq (putJ (jobsN T1 (kept (λj=>decide (j.2<(T1.epoch:Int))) J) v) x.id T1.epoch)::_) at hs
   refine RN 2 ha hs λa ha=>?_
   exact⟨T1.l.length-(v+1),by omega,v+1,⟨rfl,by omega⟩,ha.keep [0,72,73,74],by rw[hjs];exact hs.sub⟩
  rw[if_neg (by omega)]at hjs
  refine RN 2 ha hs λa ha=>?_
  exact⟨T1.l.length-(v+1),by omega,v+1,⟨rfl,by omega⟩,ha.keep [0,72,73,74],by rw[hjs];exact hs.sub⟩
 refine RT 0 ha hs ?_
 obtain rfl:v=T1.l.length:=by omega
 rw[show jobsN T1 (kept (λj=>decide (j.2<(T1.epoch:Int))) J) T1.l.length=jobsT T1 J from rfl]at hs
 exact⟨A1,T1,rfl,hah,(MuS.fold hs ⟨mb,B,sq,r,tq,jq,adw,cw,adO,cO⟩ p ⟨s,A1,T1,jobsT T1 J,ks,base,frontK s.k⟩).sub⟩
structure Ran (p:Pr)(m m':Mu)(t':Nat→Nat):Prop where
 inv:Inv p (frontK m.s.k:Int) m.s.g t' m'.base m'.A m'.T (m'.ks.map (·.1))
 s:m'.s=m.s
 front:m'.front=frontK m.s.k
 brs:BrI m.s.k m'.T
 J:m'.J.length≤16
 room:m'.A.room=m.A.room
 n:m'.A.n≤m.A.n+9
 last:m'.T.last≤m.T.last+8
 most:m'.T.most=m.T.most
 ep:m'.T.epoch≤m.T.epoch+3
 ks:m'.ks.length=m.ks.length
 has:0<m.T.most→frontK m.s.k<headK m.s.k→m'.T.l≠[]
 jobs:m'.J=jobsT m'.T m.J
 keep:m.front=frontK m.s.k→(∀ y∈m.T.l,knP m.s.k.ls (frontK m.s.k) y.press=true)→m'.ks=m.ks∧m'.T.epoch=m.T.epoch∧∃ l,m'.T.l=m.T.l++l∧∀ y∈l,y.done=0∧y.press≠[]∧y.press.length=headK m.s.k-frontK m.s.k
theorem mu_ahead_no (hs:St W w (MuS W M p m::L))(hcl:m.s.k.cl=true) :
   Calls Tryz.prog 271 #[pt M.mb] w λe w'=>e=.returned (.tuple #[])∧St W w' (MuS W M p m::L):=by
 refine EN Tryz.func271 Tryz.ntmps271 rfl rfl λa ha=>?_
 refine RN 5 ha hs λa ha=>?_
 replace ha:=ha.isF 4
 refine CL 1 ha hs (mu_closed hs) λa w ha hs=>?_
 rw[hcl]at ha
 refine RN 1 ha hs λa ha=>?_
 replace ha:=ha.isT 7
 refine RT 1 ha hs ?_
 exact⟨rfl,hs⟩
theorem mu_ahead (hs:St W w (MuS W M p m::L))(hw:WF' p m.s)(hg:gOk m.s.g)(hcl:m.s.k.cl=false)(hI:Inv p (m.front:Int) g0 t m.base m.A m.T (m.ks.map (·.1)))(hfr:m.front=frontK m.s.k→g0=m.s.g)
   (hgs:mayGs M.B.gs) (hjl:∀ y∈m.T.l,∀ j∈y.press,j.length=m.s.k.n) (hJ:m.J.length≤16) (hbm:m.s.k.branches=(m.T.most:Int))
   (he:m.T.epoch+10<1099511627776) (hn:m.A.n+20<1099511627776) (hl:m.T.last+20<1099511627776) (h4:m.ks.length≤4) (hR:12≤m.A.room) :
   Calls Tryz.prog 271 #[pt M.mb] w λe w'=>∃ (m':Mu) (t':Nat→Nat),e=.returned (.tuple #[])∧Ran p m m' t'∧St W w' (MuS W M p m'::L):=by
 have hhd:=hw.wc.headt
 have hft:=hw.wc.frontt
 refine EN Tryz.func271 Tryz.ntmps271 rfl rfl λa ha=>?_
 refine RN 5 ha hs λa ha=>?_
 replace ha:=ha.isF 4
 refine CL 1 ha hs (mu_closed hs) λa w ha hs=>?_
 rw[hcl]at ha
 refine RN 1 ha hs λa ha=>?_
 replace ha:=ha.isF 7
 refine CL2 3 ha hs (mu_move hs hw hg hI hfr (by omega) (by omega) h4 hR) λm1 t1 a w ha ⟨hM,hs⟩=>?_
 refine RN 0 ha hs λa ha=>?_
 obtain⟨s1,A1,T1,J1,ks1,base1,front1⟩:=m1
 obtain⟨hI1,e1,e2,e3,hr1,hn1,hl1,hm1,hp1,hk1,htr,hsm⟩:=hM
 simp only at hI1 e1 e2 e3 hr1 hn1 hl1 hm1 hp1 hk1 htr hsm
 subst e1 e2 e3
 have hjl1:∀ y∈T1.l,∀ j∈y.press,j.length=m.s.k.n:=by
   rcases htr with ⟨e,_⟩ | e
   · rw[e];exact hjl
   · rw[e];intro y hy;cases hy
 have hwt:=Tree.wt ((MuS.open hs).tree M.tq)
 have hAt:=(Store.facts ((MuS.open hs).store M.sq)).1
 dsimp only at hwt hAt
 replace hs:=MuS.open hs
 dsimp only at hs
 refine CLX 7 ha hs (tree_keep (kp:=λx=>knP m.s.k.ls (frontK m.s.k) x.press) (ws:=[pt M.mb]) ((hs.store M.sq).tree M.tq) (by omega) (by kernel_rfl) (λN w' x ad' c' hxt h1 hN hx _ hok=>by
   have hs5:=hN.h
   obtain⟨K,hp⟩:=hs5
   have hp2:=hp.trans List.perm_append_comm
   have hof:=hok.1
   have hxf:=(hI1.brs x hxt).1
   refine (mu_may (M:=M) (Z:=RoP W p M.adO M.cO::Sl 179 1 M.adw ks1.length M.cw (ptrs ks1)::All (ownK p M.adO M.cO M.tq M.jq M.sq) ks1::Jobs M.jq m.J::(L++K)) (h1.perm hp2) hw (hx.imp λzs h=>⟨h.1,λw'' h2=>h.2 _ (h2.perm hp2.symm)⟩) hxf (hjl1 x hxt) (by omega)).mono λe w'' ⟨h3,h4⟩=>⟨h3,h4.perm hp2.symm⟩)) ?_
 clear ha hs
 rintro e w ⟨⟨_,rfl⟩,hs⟩
 refine⟨_,rfl,λa ha=>?_⟩
 have hI2:=hI1.cut hAt (λx=>!knP m.s.k.ls (frontK m.s.k) x.press)
 have hdr:=dropAll_room (T1.l.filter λx=>!knP m.s.k.ls (frontK m.s.k) x.press) A1
 have hB2:BrI m.s.k (T1.cut λx=>!knP m.s.k.ls (frontK m.s.k) x.press):=λy hy=>by
   obtain⟨h1,h2⟩:=List.mem_filter.1 hy
   exact⟨hjl1 y h1,by simpa using h2⟩
 have hE2:(T1.cut λx=>!knP m.s.k.ls (frontK m.s.k) x.press).epoch≤T1.epoch+1:=by simp only[Tr.cut];split <;> omega
 have hcc:(∀ y∈T1.l,knP m.s.k.ls (frontK m.s.k) y.press=true)→(T1.cut λx=>!knP m.s.k.ls (frontK m.s.k) x.press).l=T1.l∧(T1.cut λx=>!knP m.s.k.ls (frontK m.s.k) x.press).epoch=T1.epoch:=λh=>by
   have h1:T1.l.filter (λx=>!!knP m.s.k.ls (frontK m.s.k) x.press)=T1.l:=List.filter_eq_self.2 λy hy=>by rw[h y hy];rfl
   simp only[Tr.cut,h1]
   exact⟨trivial,by rw[if_neg (Nat.lt_irrefl _)];rfl⟩
 have hM2:(T1.cut λx=>!knP m.s.k.ls (frontK m.s.k) x.press).most=T1.most∧(T1.cut λx=>!knP m.s.k.ls (frontK m.s.k) x.press).last=T1.last:=⟨rfl,rfl⟩
 generalize (T1.cut λx=>!knP m.s.k.ls (frontK m.s.k) x.press)=T2 at hs hI2 hB2 hE2 hM2 hcc
 generalize A1.dropAll (T1.l.filter λx=>!knP m.s.k.ls (frontK m.s.k) x.press)=A2 at hs hI2 hdr
 replace hs:=MuS.fold hs M p ⟨m.s,A2,T2,m.J,ks1,base1,frontK m.s.k⟩
 refine CL2 1 ha hs (mu_try hs hw hI2 rfl hgs hB2 hJ (by dsimp only;rw[hM2.1,hm1];exact hbm) (by dsimp only;omega) (by dsimp only;omega)) λA3 T3 a w ha ⟨hah,hs⟩=>?_
 refine RT 0 ha hs ?_
 obtain⟨a1,a2,a3,a4,a5,a6,a7,a8,a9⟩:=hah
 have h8:=hwt.most.1
 dsimp only at *
 exact⟨⟨m.s,A3,T3,jobsT T3 m.J,ks1,base1,frontK m.s.k⟩,t1,rfl,⟨a1,rfl,rfl,a2,jobsN_len (kept_len _ hJ) _,by simp only;omega,by simp only;omega,by simp only;omega,by simp only;omega,by simp only;omega,hk1,λh1 h2=>a9 (by omega) h2,rfl,λe h=>by
   obtain⟨q1,q2,q3⟩:=hsm e
   obtain⟨q4,q5⟩:=hcc (by rw[q1];exact h)
   obtain⟨l,q6,q7⟩:=a8
   refine⟨q3,by rw[a7,q5,q1],l,by rw[q6,q4,q1],q7⟩⟩,hs⟩
end
end
section
structure Nxt (p:Pr)(s s':Pl):Prop where
 wf:WF' p s'
 game:frontK s'.k=frontK s.k→s'.g=s.g
 cf:ksCf s'.k=ksCf s.k
 ls:s'.k.cl=true→s'.k.ls=s.k.ls
section
variable {p:Pr}{s:Pl}{k:Ks}{x:UInt8}{bs:List UInt8}
theorem Nxt.mk' {k':Ks}(h:WF' p s)(hw:WC k')(hh:held k')(hm:k'.mr=s.k.mr)(he:Ext s.k.ls k'.ls)(hcf:ksCf k'=ksCf s.k)(hl:k'.cl=true→k'.ls=s.k.ls):Nxt p s (playP p ⟨k',s.g⟩):=by
 have h1:=h.toWP.more hw hh hm he
 obtain⟨h2,h3,ps,ev,mr,h4⟩:=h1.playP
 refine⟨h2,λhf=>?_,?_,λhc=>?_⟩
 · have e1:(playP p ⟨k',s.g⟩).g=gameAt p k'.ls (frontK s.k):=by rw[h2.game,h2.full,hf,h3]
   have e2:s.g=gameAt p s.k.ls (frontK s.k):=by have:=h.game;rwa [h.full]at this
   exact e1.trans ((he.gameAt (Nat.le_refl _)).trans e2.symm)
 · rw[h4];exact hcf
 · rw[h3];rw[h4]at hc;exact hl hc
theorem press_cf:ksCf (pressK x k).2=ksCf k∧((pressK x k).2.cl=true→(pressK x k).2.ls=k.ls):=by
 by_cases h0:(pressK x k).1=0
 · obtain⟨h1,h2,h3,h4⟩:=press_ls h0
   rw[h4]
   exact⟨rfl,λhc=>by rw[show k.cl=true from hc]at h1;cases h1⟩
 · rw[press_no h0];exact⟨rfl,λ_=>rfl⟩
theorem hear_cf {q:Pk}(h:k.cl=false):ksCf (hearK k q)=ksCf k∧((hearK k q).cl=true→(hearK k q).ls=k.ls):=by
 unfold hearK
 split
 · exact⟨rfl,λ_=>rfl⟩
 · obtain⟨ps,ev,h1,_⟩:=holdK_eq { k with ls:=k.ls.set q.from'.toNat (putLn (k.ls.getD q.from'.toNat []) q.first.toNat q.press),ps:=k.ps.set q.from'.toNat (hearP k.now (headK k) q (peK k q.from'.toNat)) }
   rw[h1]
   exact⟨rfl,λhc=>by rw[show k.cl=true from hc]at h;cases h⟩
theorem recv_cf:ksCf (recvK bs k).2=ksCf k∧((recvK bs k).2.cl=true→(recvK bs k).2.ls=k.ls):=by
 by_cases h0:(recvK bs k).1=0
 · obtain⟨q,h1,h2,h3,h4,h5,h6⟩:=recv_ok h0
   rw[h6];exact hear_cf h2
 · rw[recv_no h0];exact⟨rfl,λ_=>rfl⟩
theorem Nxt.press (h:WF' p s)(x:UInt8):Nxt p s (pressP p x s).2:=Nxt.mk' h (h.wc.press x) (h.held.press x) (press_ext x s.k).1 (press_ext x s.k).2 press_cf.1 press_cf.2
theorem Nxt.recv (h:WF' p s)(bs:List UInt8):Nxt p s (recvP p bs s).2:=Nxt.mk' h (h.wc.recv bs).1 ((h.wc.recv bs).2 h.held) (recv_ext bs s.k).1 (recv_ext bs s.k).2 recv_cf.1 recv_cf.2
end
structure MI (p:Pr)(M:MuB)(N:Nat)(m:Mu):Prop where
 wf:WF' p m.s
 gs:mayGs M.B.gs
 front:m.front=frontK m.s.k
 inv:∃ t,Inv p (frontK m.s.k:Int) m.s.g t m.base m.A m.T (m.ks.map (·.1))
 brs:BrI m.s.k m.T
 J:m.J.length≤16
 most:m.s.k.branches=(m.T.most:Int)
 workers:m.s.k.workers=(m.ks.length:Int)
 ks:m.ks.length≤4
 room:(m.A.room:Int)=4*m.s.k.room∧12≤m.A.room
 n:m.A.n≤N∧m.T.last≤N∧m.T.epoch≤N
section
variable {W w:World}{L:List SP}{n c N front:Nat}{ad:Option Addr}{M:MuB}{B:PlB}{x:UInt8}{p:Pr}{s s':Pl}{m:Mu}{bs:List UInt8}{cf:Cf}{g0:Nat→Int}{t:Nat→Nat}
theorem MI.more {N':Nat}(h:MI p M N m)(hN:N≤N'):MI p M N' m:={ h with n:=⟨Nat.le_trans h.n.1 hN,Nat.le_trans h.n.2.1 hN,Nat.le_trans h.n.2.2 hN⟩ }
theorem MI.same (h:MI p M N m)(hw:WF' p s')(hg:s'.g=m.s.g)(hl:s'.k.ls=m.s.k.ls)(hc:ksCf s'.k=ksCf m.s.k):MI p M N { m with s:=s' }:=by
 have hf:frontK s'.k=frontK m.s.k:=by rw[frontK,frontK,hl]
 simp only[ksCf,Cf.mk.injEq]at hc
 obtain⟨c1,c2,c3,c4,c5,c6,c7,c8,c9,c10⟩:=hc
 have hn:s'.k.n=m.s.k.n:=by omega
 exact { wf:=hw,gs:=h.gs,front:=by rw[hf];exact h.front,inv:=by obtain⟨t,ht⟩:=h.inv;exact⟨t,by rw[hf,hg];exact ht⟩,brs:=λy hy=>by rw[hn,hl,hf];exact h.brs y hy,J:=h.J,most:=by rw[c8];exact h.most,workers:=by rw[c9];exact h.workers,ks:=h.ks,room:=by rw[c10];exact h.room,n:=h.n }
theorem mu_go (hs:St W w (MuS W M p { m with s:=s' }::L))(h:MI p M N m)(hx:Nxt p m.s s')(hpr:prOk p)(hN:N≤1000000000000) :
   Calls Tryz.prog 271 #[pt M.mb] w λe w'=>∃ m':Mu,e=.returned (.tuple #[])∧(m'.s=s'∧MI p M (N+20) m'∧(s'.k.cl=false→∃ t',Ran p { m with s:=s' } m' t'))∧St W w' (MuS W M p m'::L):=by
 obtain⟨hn1,hn2,hn3⟩:=h.n
 have hc:=hx.cf
 cases hcl:s'.k.cl with
 | true =>
   have hl:=hx.ls hcl
   refine (mu_ahead_no hs hcl).mono λe w' ⟨he,hs⟩=>⟨_,he,⟨rfl,(h.same hx.wf (hx.game (by rw[frontK,frontK,hl])) hl hc).more (by omega),λe=>(by cases e)⟩,hs⟩
 | false =>
   obtain⟨t,ht⟩:=h.inv
   simp only[ksCf,Cf.mk.injEq]at hc
   obtain⟨c1,c2,c3,c4,c5,c6,c7,c8,c9,c10⟩:=hc
   have hn:s'.k.n=m.s.k.n:=by omega
   refine (mu_ahead (g0:=m.s.g) (t:=t) hs hx.wf (hx.wf.gok hpr) hcl (by rw[← h.front]at ht;exact ht) (λe=>(hx.game (by rw[← h.front];exact e.symm)).symm) h.gs (λy hy j hj=>by dsimp only;rw[hn];exact (h.brs y hy).1 j hj) h.J (by dsimp only;rw[c8];exact h.most) (by dsimp only;omega) (by dsimp only;omega) (by dsimp only;omega) h.ks h.room.2).mono λe w' ⟨m',t',he,hr,hs⟩=>⟨m',he,⟨hr.s,?_,λ_=>⟨t',hr⟩⟩,hs⟩
   obtain⟨a1,a2,a3,a4,a5,a6,a7,a8,a9,b1,b2,b3,b4,b5⟩:=hr
   dsimp only at *
   exact { wf:=by rw[a2];exact hx.wf,gs:=h.gs,front:=by rw[a2];exact a3,inv:=⟨t',by rw[a2];exact a1⟩,brs:=by rw[a2];exact a4,J:=a5,most:=by rw[a2,c8,a9];exact h.most,workers:=by rw[a2,c9,b2];exact h.workers,ks:=by rw[b2];exact h.ks,room:=by rw[a2,c10,a6];exact h.room,n:=⟨by omega,by omega,by omega⟩ }
theorem mu_press (hs:St W w (MuS W M p m::L))(h:MI p M N m)(hpr:prOk p)(hsz:p.title.size≤1000000000)(hN:N≤1000000000000) :
   Calls Tryz.prog 267 #[pt M.mb,.int .u8 (x.toNat:Nat)] w λe w'=>∃ m':Mu,e=.returned (.int .i64 (pressP p x m.s).1)∧(m'.s=(pressP p x m.s).2∧MI p M (N+20) m'∧((pressP p x m.s).2.k.cl=false→∃ t',Ran p { m with s:=(pressP p x m.s).2 } m' t'))∧St W w' (MuS W M p m'::L):=by
 refine EN Tryz.func267 Tryz.ntmps267 rfl rfl λa ha=>?_
 refine CL 4 ha hs (mu_plain hs) λa w ha hs=>?_
 refine RN 1 ha hs λa ha=>?_
 replace hs:=MuS.open hs
 refine CL 0 ha hs (plain_press (hs.pick (PlainS W M.B p m.s)) h.wf hpr hsz) λa w ha hs=>?_
 replace hs:=MuS.fold hs M p { m with s:=(pressP p x m.s).2 }
 refine CL1 3 ha hs (mu_go hs h (Nxt.press h.wf x) hpr hN) λm' a w ha ⟨hm,hs⟩=>?_
 refine RT 3 ha hs ?_
 exact⟨m',rfl,hm,hs⟩
theorem mu_receive (hs:St W w (MuS W M p m::L))(h:MI p M N m)(hpr:prOk p)(hsz:p.title.size≤1000000000)(hN:N≤1000000000000)(hb:bs.length≤65536)(hc:bs.length≤c)(hp:∀ w',St W w' L→RdB w' ad bs.length bs) :
   Calls Tryz.prog 269 #[pt M.mb,.slice ad bs.length c] w λe w'=>∃ m':Mu,e=.returned (.int .i64 (recvP p bs m.s).1)∧(m'.s=(recvP p bs m.s).2∧MI p M (N+20) m')∧St W w' (MuS W M p m'::L):=by
 refine EN Tryz.func269 Tryz.ntmps269 rfl rfl λa ha=>?_
 refine CL 4 ha hs (mu_plain hs) λa w ha hs=>?_
 refine RN 1 ha hs λa ha=>?_
 replace hs:=MuS.open hs
 refine CL 0 ha hs (plain_receive (bs:=bs) (hs.pick (PlainS W M.B p m.s)) h.wf hpr hsz hb hc (λw' hw=>hp w' hw.sub)) λa w ha hs=>?_
 replace hs:=MuS.fold hs M p { m with s:=(recvP p bs m.s).2 }
 refine CL1 3 ha hs (mu_go hs h (Nxt.recv h.wf bs) hpr hN) λm' a w ha ⟨⟨hm1,hm2,_⟩,hs⟩=>?_
 refine RT 3 ha hs ?_
 exact⟨m',rfl,⟨hm1,hm2⟩,hs⟩
end
end
section
theorem tick_cf (k:Ks):ksCf (tickK k).2=ksCf k:=by
 rcases tickK_k k with h1 | ⟨hc,h1 | ⟨i,hi,h1⟩⟩ <;> rw[h1] <;> rfl
theorem quit_cf (k:Ks):ksCf (quitK k).2=ksCf k:=by
 unfold quitK
 split <;> rfl
section
variable {W w:World}{L:List SP}{n c i N tq sq r base front:Nat}{ad:Option Addr}{M:MuB}{B:PlB}{p:Pr}{s:Pl}{m:Mu}{A:Sn}{T:Tr}{t:Nat→Nat}{px:Pic}{y:Int}
theorem mu_tick (hs:St W w (MuS W M p m::L))(h:MI p M N m)(hnw:m.s.k.now≤1000000):Calls Tryz.prog 270 #[pt M.mb] w λr w'=>∃ ad c,r=.returned (.slice ad (tickK m.s.k).1.length c)∧MI p M N { m with s:=⟨(tickK m.s.k).2,m.s.g⟩ } ∧
   St W w' (OwnMl 124 ad (tickK m.s.k).1.length c (tickK m.s.k).1::MuS W M p { m with s:=⟨(tickK m.s.k).2,m.s.g⟩ }::L):=by
 refine EN Tryz.func270 Tryz.ntmps270 rfl rfl λa ha=>?_
 refine CL 4 ha hs (mu_plain hs) λa w ha hs=>?_
 replace hs:=MuS.open hs
 refine CL2 0 ha hs (plain_tick (hs.pick (PlainS W M.B p m.s)) h.wf hnw) λad c a w ha hs=>?_
 refine RT 1 ha hs ?_
 exact⟨ad,c,rfl,h.same h.wf.tick rfl (tick_same _).2 (tick_cf _),(MuS.fold hs M p { m with s:=⟨(tickK m.s.k).2,m.s.g⟩ }).sub⟩
theorem mu_quit (hs:St W w (MuS W M p m::L))(h:MI p M N m):Calls Tryz.prog 268 #[pt M.mb] w λr w'=>∃ ad c,r=.returned (.slice ad (quitK m.s.k).1.length c)∧MI p M N { m with s:=⟨(quitK m.s.k).2,m.s.g⟩ } ∧
   St W w' (OwnMl 124 ad (quitK m.s.k).1.length c (quitK m.s.k).1::MuS W M p { m with s:=⟨(quitK m.s.k).2,m.s.g⟩ }::L):=by
 refine EN Tryz.func268 Tryz.ntmps268 rfl rfl λa ha=>?_
 refine CL 4 ha hs (mu_plain hs) λa w ha hs=>?_
 replace hs:=MuS.open hs
 refine CL2 0 ha hs (plain_quit (hs.pick (PlainS W M.B p m.s)) h.wf) λad c a w ha hs=>?_
 refine RT 1 ha hs ?_
 exact⟨ad,c,rfl,h.same h.wf.quit rfl (quit_same _).2 (quit_cf _),(MuS.fold hs M p { m with s:=⟨(quitK m.s.k).2,m.s.g⟩ }).sub⟩
theorem mu_events (hs:St W w (MuS W M p m::L))(h:MI p M N m):Calls Tryz.prog 266 #[pt M.mb] w λr w'=>∃ ad c,r=.returned (.slice ad m.s.k.ev.length c)∧MI p M N { m with s:=⟨{ m.s.k with ev:=[] },m.s.g⟩ } ∧
   St W w' (Sl 135 1 ad m.s.k.ev.length c (m.s.k.ev.map evV)::MuS W M p { m with s:=⟨{ m.s.k with ev:=[] },m.s.g⟩ }::L):=by
 refine EN Tryz.func266 Tryz.ntmps266 rfl rfl λa ha=>?_
 refine CL 4 ha hs (mu_plain hs) λa w ha hs=>?_
 replace hs:=MuS.open hs
 refine CL2 0 ha hs (plain_events (hs.pick (PlainS W M.B p m.s))) λad c a w ha hs=>?_
 refine RT 1 ha hs ?_
 exact⟨ad,c,rfl,h.same h.wf.told rfl rfl rfl,(MuS.fold hs M p { m with s:=⟨{ m.s.k with ev:=[] },m.s.g⟩ }).sub⟩
theorem mu_confirmed (hs:St W w (MuS W M p m::L))(h:MI p M N m):Calls Tryz.prog 264 #[pt M.mb] w λr w'=>∃ ad c,r=.returned (.tuple #[.slice ad 128 c,.int .i64 (confP m.s).2])∧St W w' (Sl 5 1 ad 128 c (bc (confP m.s).1)::MuS W M p m::L):=by
 have hne:=h.wf.wc.lne
 have hl8:m.s.k.ls.length≤8:=by rw[h.wf.wc.ls];exact h.wf.wc.n.2
 obtain⟨t,hI⟩:=h.inv
 obtain⟨i,px,hpx,hpid⟩:=hI.pic (List.mem_cons_self ..)
 have hpg:=(hI.base px (List.mem_of_getElem? hpx) hpid).1
 replace hs:=MuS.open hs
 rw[h.front]at hs
 refine EN Tryz.func264 Tryz.ntmps264 rfl rfl λa ha=>?_
 refine DWC 5 (λw0 w'=>Rd w' M.mb 0 (muC p M m.ks.length m.base (frontK m.s.k))) [8,9,10] [0,1,2,3,4,5,7,3006,1008,1009,1010,11,12] ha hs λa w ha hs hH=>?_
 have hC:=hH.at w (hs.rdAll (b:=M.mb))
 refine RH 3 ha hs hH hC λa ha=>?_
 replace ha:=ha.isF 6
 refine RH 4 ha hs hH hC λa ha=>?_
 refine QH ha (λw hc=>ld1 ha (hc 8 _ rfl)) hC λa ha=>?_
 rw[← h.front]at hs
 replace hs:=MuS.fold hs M p m
 refine RH 0 ha hs hH hC λa ha=>?_
 refine CL 0 ha hs (mu_core hs) λa w ha hs=>?_
 replace hC:=hH.at w (by have h9:=(MuS.open hs).rdAll (b:=M.mb);rw[h.front]at h9;exact h9)
 replace hs:=PlainS.open ((MuS.open hs).pick (PlainS W M.B p m.s))
 rw[h.front]at hs
 refine RH 0 ha hs hH hC λa ha=>?_
 refine CL 0 ha hs (core_queue (hs.pick (CoreS M.B.core m.s.k))) λa w ha hs=>?_
 replace hC:=hH.at w (hs.rdAll (b:=M.mb))
 obtain⟨D,hs,hD⟩:=CoreS.qu hs
 refine RH 0 ha hs hH hC λa ha=>?_
 refine CL 0 ha hs (queue_front hs hne hl8) λa w ha hs=>?_
 replace hC:=hH.at w (hs.rdAll (b:=M.mb))
 refine RH 1 ha hs hH hC λa ha=>?_
 rw[show decide (((frontK m.s.k:Nat):Int)≠((frontL m.s.k.ls:Nat):Int))=false from dne]at ha
 refine RH 1 ha hs hH hC λa ha=>?_
 replace hs:=PlainS.fold (hD _ _ hs) M.B p m.s
 rw[← h.front]at hs
 replace hs:=MuS.fold hs M p m
 replace ha:=ha.isF 16
 refine RN 2 ha hs λa ha=>?_
 replace hs:=MuS.open hs
 refine DWC 0 (λw0 w'=>Rd w' M.mb 0 (muC p M m.ks.length m.base m.front)) [5,6,10,11] [0,1,2,3,7,8,9,3004,3010,1005,1006,1011,12] ha hs λa w ha hs hH=>?_
 have hC:=hH.at w (hs.rdAll (b:=M.mb))
 refine RH 7 ha hs hH hC λa ha=>?_
 refine QH ha (λw hc=>ld1 ha (hc 7 _ rfl)) hC λa ha=>?_
 refine QH ha (λw hc=>ld1 ha (hc 8 _ rfl)) hC λa ha=>?_
 replace hs:=MuS.fold hs M p m
 refine RH 0 ha hs hH hC λa ha=>?_
 refine CL 0 ha hs (mu_picture hs hpx hpid) λa w ha hs=>?_
 replace hC:=hH.at w ((MuS.open hs).rdAll (b:=M.mb))
 refine RH 0 ha hs hH hC λa ha=>?_
 refine CL2 0 ha hs (state_encode hs) λad c a w ha hs=>?_
 replace hC:=hH.at w ((MuS.open hs.tail).rdAll (b:=M.mb))
 refine RH 2 ha hs hH hC λa ha=>?_
 refine RT 0 ha hs ?_
 rw[hpg]at hs
 exact⟨ad,c,by rw[h.front];rfl,hs⟩
theorem mu_work_no (hs:St W w (MuS W M p m::L))(hc:m.s.k.cl=true∨y<0∨(m.ks.length:Int)≤y)(h4:m.ks.length≤4) :
   Calls Tryz.prog 62 #[pt M.mb,.int .i64 y] w λe w'=>e=.returned (.bool false)∧St W w' (MuS W M p m::L):=by
 refine EN Tryz.func62 Tryz.ntmps62 rfl rfl λa ha=>?_
 refine RN 7 ha hs λa ha=>?_
 replace ha:=ha.isF 7
 refine CL 1 ha hs (mu_closed hs) λa w ha hs=>?_
 replace hs:=MuS.open hs
 refine BY 2 ha hs (λhg6 a ha=>?_) λhg6 a ha=>?_
 ·
  refine RT 15 ha hs ?_
  exact⟨rfl,MuS.fold hs M p m⟩
 refine BY 4 ha hs (λhg10 a ha=>?_) λhg10 a ha=>?_
 ·
  refine RT 11 ha hs ?_
  exact⟨rfl,MuS.fold hs M p m⟩
 refine IF 8 ha hs (λhc0 a ha=>?_) λhc0 a ha=>?_
 ·
  refine RT 2 ha hs ?_
  exact⟨rfl,MuS.fold hs M p m⟩
 exact absurd hc (by rintro (h | h | h) <;> first | omega | (rw[h]at hg6;cases hg6))
theorem Near.brI {k:Ks}{J J':Js}{A A':Sn}{T T':Tr}(hn:Near A T J A' T' J')(h:BrI k T):BrI k T':=by
 intro y hy
 have h1:(y.id,y.press)∈T'.l.map (λy=>(y.id,y.press)):=List.mem_map.2 ⟨y,hy,rfl⟩
 rw[hn.l]at h1
 obtain⟨z,hz,he⟩:=List.mem_map.1 h1
 have h2:=h z hz
 rw[(Prod.mk.inj he).2]at h2
 exact h2
theorem mu_work {k:Wk}{wb:Nat}(hs:St W w (MuS W M p m::L))(h:MI p M N m)(hcl:m.s.k.cl=false)(hk:m.ks[i]?=some (k,wb))(hpr:prOk p)(hsz:p.title.size≤1000000000)(hN:N≤1000000000000) :
   Calls Tryz.prog 62 #[pt M.mb,.int .i64 i] w λe w'=>∃ (z:Bool) (A':Sn) (T':Tr) (J':Js) (k':Wk),e=.returned (.bool z)∧(Bit p m.A m.T m.J k z A' T' J' k'∧MI p M (N+1) { m with A:=A',T:=T',J:=J',ks:=m.ks.set i (k',wb) }) ∧
     St W w' (MuS W M p { m with A:=A',T:=T',J:=J',ks:=m.ks.set i (k',wb) }::L):=by
 have hil:=(List.getElem?_eq_some_iff.1 hk).1
 have h4:=h.ks
 obtain⟨t,hI⟩:=h.inv
 obtain⟨hn1,hn2,hn3⟩:=h.n
 have hft:=h.wf.wc.frontt
 have hhd:=h.wf.wc.headt
 refine EN Tryz.func62 Tryz.ntmps62 rfl rfl λa ha=>?_
 refine RN 7 ha hs λa ha=>?_
 replace ha:=ha.isF 7
 refine CL 1 ha hs (mu_closed hs) λa w ha hs=>?_
 rw[hcl]at ha
 refine RN 2 ha hs λa ha=>?_
 replace ha:=ha.isF 11
 refine RN 4 ha hs λa ha=>?_
 replace hs:=MuS.open hs
 replace ha:=ha.isF 15
 refine RN 8 ha hs λa ha=>?_
 rw[decide_eq_false (by omega)]at ha
 refine RN 2 ha hs λa ha=>?_
 obtain⟨b',o',hade,hrd⟩:=hs.slRd M.adw (by omega)
 refine RN 5 ha hs λa ha=>?_
 rw[hade]at ha
 refine RN 1 ha hs λa ha=>?_
 refine SS ha (ld1 ha (hrd i _ (ptrs_at hk))) λa ha=>?_
 refine CLX 0 ha hs (shop_step (hs.sub (M:=All (ownK p M.adO M.cO M.tq M.jq M.sq) m.ks::Tree M.tq M.sq m.T::Store M.sq M.r m.A::Jobs M.jq m.J::RoP W p M.adO M.cO::blk M.mb 177 (muC p M m.ks.length m.base m.front)::PlainS W M.B p m.s::Sl 179 1 M.adw m.ks.length M.cw (ptrs m.ks)::L)) hk hI ⟨by omega,by omega⟩ hpr hsz (by omega) h.J) ?_
 clear ha hs
 rintro e w ⟨z,A',T',J',k',rfl,⟨hbit,hI2,hnr⟩,hs⟩
 refine⟨_,rfl,λa ha=>?_⟩
 refine RT 1 ha hs ?_
 have hsl:(m.ks.set i (k',wb)).length=m.ks.length:=List.length_set ..
 have hrm:=hnr.room
 have hn4:=hnr.n
 have hn5:=hnr.last
 have hn6:=hnr.epoch
 refine⟨z,A',T',J',k',rfl,⟨hbit,{ wf:=h.wf,gs:=h.gs,front:=h.front,inv:=⟨t,hI2⟩,brs:=hnr.brI h.brs,J:=hnr.len h.J,most:=by dsimp only;rw[hnr.most];exact h.most,workers:=by dsimp only;rw[hsl];exact h.workers,ks:=by dsimp only;rw[hsl];exact h4,room:=by dsimp only;rw[hrm];exact h.room,n:=⟨by dsimp only;omega,by dsimp only;omega,by dsimp only;omega⟩ }⟩,?_⟩
 rw[← ptrs_set (k':=k') hk,← hsl]at hs
 exact MuS.fold hs M p { m with A:=A',T:=T',J:=J',ks:=m.ks.set i (k',wb) }
end
end
section
theorem made1 (z:Value)(h:z.cells=#[z])(n:Nat):(madeCells z.cells (n*1)).toList=List.replicate n z:=by
 apply List.ext_getElem?
 intro i
 rw[madeCells,Array.getElem?_toList,Array.getElem?_map,Array.getElem?_range,h,List.getElem?_replicate]
 by_cases hi:i<n
 · simp[hi,Nat.mod_one]
 · simp[hi]
structure RcB where
 cb:Nat
 lb:Nat
 lo:Nat
 cL:Nat
 hb:Nat
 ab:Nat
 wb:Nat
 xb:Nat
structure RcA where
 adM:Option Addr
 cM:Nat
 adE:Option Addr
 cE:Nat
end
section
def sumP:Pr:=⟨⟨#[115,117,109]⟩,[⟨1,30,1,0⟩,⟨11,1,0,0⟩,⟨5,2,2,31⟩,⟨3,2,2,1⟩,⟨3,0,0,30⟩,⟨1,29,8,0⟩,⟨7,28,0,29⟩,⟨10,28,9,0⟩,⟨9,1,0,0⟩,⟨1,0,0,0⟩,⟨15,31,0,0⟩,⟨13,31,2,0⟩]⟩
theorem dec_oneAt {s:ByteArray}{i b:Nat}(hb:byteN s i=b)(h:b<128):Utf8.decode s i=(b,1):=by
 simp only[byteN]at hb
 simp[Utf8.decode,hb,h]
theorem sumP_runes:runesAt sumP.title 0=[(115,1),(117,1),(109,1)]:=by
 have h1:sumP.title.size=3:=rfl
 have h2:Utf8.decode sumP.title 0=(115,1):=dec_oneAt (b:=115) rfl (by decide)
 have h3:Utf8.decode sumP.title 1=(117,1):=dec_oneAt (b:=117) rfl (by decide)
 have h4:Utf8.decode sumP.title 2=(109,1):=dec_oneAt (b:=109) rfl (by decide)
 have r3:runesAt sumP.title 3=[]:=runesAt_out (by omega)
 have r2:runesAt sumP.title 2=[(109,1)]:=by rw[runesAt_in (by omega),adv,if_pos (by omega),h4];exact congrArg _ r3
 have r1:runesAt sumP.title 1=[(117,1),(109,1)]:=by rw[runesAt_in (by omega),adv,if_pos (by omega),h3];exact congrArg _ r2
 rw[runesAt_in (by omega),adv,if_pos (by omega),h2];exact congrArg _ r1
theorem sumP_ok:prOk sumP:=by
 refine⟨⟨?_,by decide,by decide,?_⟩,?_⟩
 · rw[tOk,sumP_runes];decide
 · intro o ho
   simp[sumP]at ho
   rcases ho with rfl | rfl | rfl | rfl | rfl | rfl | rfl | rfl | rfl | rfl | rfl | rfl <;> simp[i32O,i32P]
 · intro o ho
   simp[sumP]at ho
   rcases ho with rfl | rfl | rfl | rfl | rfl | rfl | rfl | rfl | rfl | rfl | rfl | rfl <;> simp[okOp,cellP,sumP]
section
variable {W w:World}{L:List SP}{n c:Nat}{ad:Option Addr}
theorem prog22 (hs:St W w L):Calls Tryz.prog 25 #[] w λe w'=>∃ ad,e=.returned (.agg (prV sumP ad 12).toArray)∧St W w' (RoP W sumP ad 12::L):=by
 refine EN Tryz.func25 Tryz.ntmps25 rfl rfl λa ha=>?_
 refine AL 1 ha hs λb0 a w ha hs=>?_
 refine RN 13 ha hs λa ha=>?_
 refine st_buildSlice ha rfl hs Tryz.underlying43 Ty.t114 rfl rfl rfl rfl (by decide) (by decide) λb13 a w ha hs ho=>?_
 clear ho
 refine SA 1 ha hs λa w ha hs=>?_
 refine RT 0 ha hs ?_
 refine⟨some ⟨b13,0,none⟩,rfl,?_⟩
 have h1:St W w (blk b13 114 ([]++rows opR sumP.ops++[])::_):=hs.bring b13
 have h2:=St.slShut (n:=12) (c:=12) (sz:=4) h1 rfl (Nat.le_refl _) (Nat.zero_le _)
 have h3:St W w (RoP W sumP (some ⟨b13,0,none⟩) 12::_):=h2.roSl
 exact h3.sub
set_option maxHeartbeats 2000000 in
end
def jn (P O:List UInt8)(k:Nat):List (List UInt8):=(List.range k).map (jointL [P,O])
end
section
structure RgB where
 pb:Nat
 core:RcB
 adO:Option Addr
 cO:Nat
 adT:Option Addr
 cT:Nat
 gs:Gs
end
section
theorem tick_len {k:Ks}(h:WC k):(tickK k).1.length≤1000:=by
 have hn:=h.n
 have hl:∀ k:Ks,(othersK k).length≤k.n:=λk=>by
   rw[othersK];exact Nat.le_trans (List.length_filter_le _ _) (by rw[List.length_range];exact Nat.le_refl _)
 unfold tickK
 split
 · simp
 · simp only
   split
   · simp
   · rw[List.length_map]
     have:=hl { k with now:=k.now+1 }
     have h2:({ k with now:=k.now+1 }:Ks).n=k.n:=rfl
     omega
theorem quit_len {k:Ks}(h:WC k):(quitK k).1.length≤1000:=by
 have hn:=h.n
 unfold quitK
 split
 · simp
 · rw[List.length_map,othersK]
   have h2:=List.length_filter_le (λi=>decide (i≠k.me)) (List.range k.n)
   rw[List.length_range]at h2
   show ((List.range k.n).filter (·≠k.me)).length≤1000
   omega
theorem press_now (p:Pr)(x:UInt8){s:Pl}(h:WF' p s):(pressP p x s).2.k.now=s.k.now:=by
 have he:=press_ext x s.k
 have h1:=(playP_same (h.toWP.more (h.wc.press x) (h.held.press x) he.1 he.2)).2.2.2.2.2.1
 rw[pressP,h1]
 show (pressK x s.k).2.now=_
 by_cases h0:(pressK x s.k).1=0
 · obtain⟨_,_,_,h4⟩:=press_ls h0
   rw[h4]
 · rw[press_no h0]
theorem hear_now (k:Ks)(q:Pk):(hearK k q).now=k.now:=by
 unfold hearK
 split
 · rfl
 · obtain⟨ps,ev,h9,_⟩:=holdK_eq { k with ls:=k.ls.set q.from'.toNat (putLn (k.ls.getD q.from'.toNat []) q.first.toNat q.press),ps:=k.ps.set q.from'.toNat (hearP k.now (headK k) q (peK k q.from'.toNat)) }
   rw[h9]
theorem recv_now (p:Pr)(bs:List UInt8){s:Pl}(h:WF' p s):(recvP p bs s).2.k.now=s.k.now:=by
 have he:=recv_ext bs s.k
 have h1:=(playP_same (h.toWP.more (h.wc.recv bs).1 ((h.wc.recv bs).2 h.held) he.1 he.2)).2.2.2.2.2.1
 rw[recvP,h1]
 show (recvK bs s.k).2.now=_
 by_cases h0:(recvK bs s.k).1=0
 · obtain⟨q,_,_,_,_,_,h6⟩:=recv_ok h0
   rw[h6,hear_now]
 · rw[recv_no h0]
theorem tick_now (k:Ks):(tickK k).2.now≤k.now+1:=by
 rcases tickK_k k with h1 | ⟨hc,h1 | ⟨i,hi,h1⟩⟩ <;> rw[h1]
 · exact Nat.le_succ _
 · exact Nat.le_refl _
 · exact Nat.le_refl _
theorem quit_now (k:Ks):(quitK k).2.now=k.now:=by
 unfold quitK
 split <;> rfl
structure PlayS (W:World)(t:TypeId)(ad:Addr)(fP fR fT fQ fE fC fD fX:FuncId)(p:Pr)(gs:Gs)(J:Nat→Pl→SP):Prop where
 mP : MethodT Tryz.prog t "Press" fP
 cP:callable Tryz.prog fP=true
 mR : MethodT Tryz.prog t "Receive" fR
 cR:callable Tryz.prog fR=true
 mT : MethodT Tryz.prog t "Tick" fT
 cT:callable Tryz.prog fT=true
 mQ : MethodT Tryz.prog t "Quit" fQ
 cQ:callable Tryz.prog fQ=true
 mE : MethodT Tryz.prog t "Events" fE
 cE:callable Tryz.prog fE=true
 mC : MethodT Tryz.prog t "Confirmed" fC
 cC:callable Tryz.prog fC=true
 mD : MethodT Tryz.prog t "Display" fD
 cD:callable Tryz.prog fD=true
 mX : MethodT Tryz.prog t "Closed" fX
 cX:callable Tryz.prog fX=true
 press:∀ (w:World) (L:List SP) (i:Nat) (s:Pl) (x:UInt8),i≤1000000→WF' p s→St W w (J i s::L)→Calls Tryz.prog fP (List.toArray [.pointer (some ad),.int .u8 (x.toNat:Nat)]) w λr w'=>r=.returned (.int .i64 (pressP p x s).1)∧St W w' (J (i+1) (pressP p x s).2::L)
 recv:∀ (w:World) (L:List SP) (i:Nat) (s:Pl) (bs:List UInt8) (a:Option Addr) (c:Nat),i≤1000000→WF' p s→bs.length≤65536→bs.length≤c→(∀ w',St W w' L→RdB w' a bs.length bs)→St W w (J i s::L)→Calls Tryz.prog fR (List.toArray [.pointer (some ad),.slice a bs.length c]) w λr w'=>r=.returned (.int .i64 (recvP p bs s).1)∧St W w' (J (i+1) (recvP p bs s).2::L)
 tick:∀ (w:World) (L:List SP) (i:Nat) (s:Pl),i≤1000000→WF' p s→s.k.now≤1000000→St W w (J i s::L)→Calls Tryz.prog fT (List.toArray [.pointer (some ad)]) w λr w'=>∃ a c,r=.returned (.slice a (tickK s.k).1.length c)∧St W w' (OwnMl 124 a (tickK s.k).1.length c (tickK s.k).1::J (i+1) ⟨(tickK s.k).2,s.g⟩::L)
 quit:∀ (w:World) (L:List SP) (i:Nat) (s:Pl),i≤1000000→WF' p s→St W w (J i s::L)→Calls Tryz.prog fQ (List.toArray [.pointer (some ad)]) w λr w'=>∃ a c,r=.returned (.slice a (quitK s.k).1.length c)∧St W w' (OwnMl 124 a (quitK s.k).1.length c (quitK s.k).1::J (i+1) ⟨(quitK s.k).2,s.g⟩::L)
 events:∀ (w:World) (L:List SP) (i:Nat) (s:Pl),i≤1000000→WF' p s→St W w (J i s::L)→Calls Tryz.prog fE (List.toArray [.pointer (some ad)]) w λr w'=>∃ a c,r=.returned (.slice a s.k.ev.length c)∧St W w' (Sl 135 1 a s.k.ev.length c (s.k.ev.map evV)::J (i+1) ⟨{ s.k with ev:=[] },s.g⟩::L)
 conf:∀ (w:World) (L:List SP) (i:Nat) (s:Pl),i≤1000000→WF' p s→St W w (J i s::L)→Calls Tryz.prog fC (List.toArray [.pointer (some ad)]) w λr w'=>∃ a c,r=.returned (.tuple #[.slice a 128 c,.int .i64 (confP s).2])∧St W w' (Sl 5 1 a 128 c (bc (confP s).1)::J i s::L)
 disp:∀ (w:World) (L:List SP) (i:Nat) (s:Pl),i≤1000000→WF' p s→St W w (J i s::L)→Calls Tryz.prog fD (List.toArray [.pointer (some ad)]) w λr w'=>∃ a c,r=.returned (.tuple #[.slice a 128 c,.int .i64 (dispG p gs s).2])∧St W w' (Sl 5 1 a 128 c (bc (dispG p gs s).1)::J i s::L)
 closed:∀ (w:World) (L:List SP) (i:Nat) (s:Pl),i≤1000000→WF' p s→St W w (J i s::L)→Calls Tryz.prog fX (List.toArray [.pointer (some ad)]) w λr w'=>r=.returned (.bool s.k.cl)∧St W w' (J i s::L)
section
set_option maxHeartbeats 4000000 in
end
end
end Go.Proofs.YteoldcfapaiobaaGreat
