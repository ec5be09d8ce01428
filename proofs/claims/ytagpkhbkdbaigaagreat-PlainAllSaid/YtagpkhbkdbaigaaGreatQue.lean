/- Queues of lines: queue.New, N, Line, Front, Joint. -/
import Derived.Test.YtagpkhbkdbaigaaGreatLin
import Derived.Test.YtagpkhbkdbaigaaGreatFld
namespace Go.Proofs.YtagpkhbkdbaigaaGreat
open Go.RowKit
set_option linter.unusedVariables false
set_option linter.unusedSimpArgs false
set_option maxRecDepth 10000
set_option synthInstance.maxSize 4000
set_option synthInstance.maxHeartbeats 400000
def lpt (x : Lx) : Value:=.pointer (some ⟨x.1,0,none⟩)
def Qu (qb : Nat) (lbs : List Nat) (ls : List (List UInt8)) : SP:=fun h=>∃ (ad : Option Addr) (c : Nat),lbs.length=ls.length∧sepL [blk qb 153 [.slice ad ls.length c],Sl 105 1 ad ls.length c ((lbs.zip ls).map lpt),All Ln (lbs.zip ls)] h
section
variable {W w : World} {L L' R : List SP} {n c m qb lb i f : Nat} {ad : Option Addr} {ls : List (List UInt8)} {lbs : List Nat} {l : List UInt8} {x : UInt8}
theorem Qu.open (hs : St W w (Qu qb lbs ls::L)) : ∃ (ad : Option Addr) (c : Nat),lbs.length=ls.length∧St W w (blk qb 153 [.slice ad ls.length c]::Sl 105 1 ad ls.length c ((lbs.zip ls).map lpt)::All Ln (lbs.zip ls)::L):=by
 obtain ⟨⟨ad,c⟩,hl,hs⟩:=hs.exi (ι:=Option Addr × Nat) (p:=fun _=>lbs.length=ls.length) (B:=fun y h=>sepL [blk qb 153 [.slice y.1 ls.length y.2],Sl 105 1 y.1 ls.length y.2 ((lbs.zip ls).map lpt),All Ln (lbs.zip ls)] h) fun _ ⟨ad,c,hl,h⟩=>⟨(ad,c),hl,h⟩
 exact ⟨ad,c,hl,hs.open (M:=[_,_,_]) fun _ h=>h⟩
theorem Qu.close (hs : St W w (blk qb 153 [.slice ad ls.length c]::Sl 105 1 ad ls.length c ((lbs.zip ls).map lpt)::All Ln (lbs.zip ls)::L)) (hl : lbs.length=ls.length) : St W w (Qu qb lbs ls::L) :=
 St.shut (M:=[_,_,_]) hs fun _ h=>⟨ad,c,hl,h⟩
theorem Qu.mk' (hs : St W w L) (ad : Option Addr) (c : Nat) [k : Arr L (blk qb 153 [.slice ad ls.length c]::Sl 105 1 ad ls.length c ((lbs.zip ls).map lpt)::All Ln (lbs.zip ls)::L') R] (hl : lbs.length=ls.length) : St W w (Qu qb lbs ls::L'):=Qu.close (ad:=ad) (c:=c) hs.sub hl
theorem Qu.len (hs : St W w (Qu qb lbs ls::L)) : lbs.length=ls.length:=by
 obtain ⟨_,_,h,_⟩:=Qu.open hs; exact h
theorem zip_at {lbs : List Nat} {ls : List (List UInt8)} (hl : lbs.length=ls.length) {i : Nat} (h : i < ls.length) : (lbs.zip ls)[i]?=some (lbs.getD i 0,ls.getD i []):=by
 rw [List.getElem?_zip_eq_some]
 simp only [List.getD_eq_getElem?_getD]
 rw [List.getElem?_eq_getElem h,List.getElem?_eq_getElem (by omega)]
 exact ⟨rfl,rfl⟩
def QuH (qb : Nat) (lbs : List Nat) (ls : List (List UInt8)) (i : Nat) : SP:=fun h=>∃ (ad : Option Addr) (c : Nat),lbs.length=ls.length∧sepL [blk qb 153 [.slice ad ls.length c],Sl 105 1 ad ls.length c ((lbs.zip ls).map lpt),All Ln ((lbs.zip ls).eraseIdx i)] h
theorem Qu.out (hs : St W w (Qu qb lbs ls::L)) (h : i < ls.length) : St W w (Ln (lbs.getD i 0,ls.getD i [])::QuH qb lbs ls i::L):=by
 obtain ⟨ad,c,hl,hs⟩:=Qu.open hs
 have hz:=zip_at hl h
 obtain ⟨hi,he⟩:=List.getElem?_eq_some_iff.1 hz
 replace hs:=(hs.pick (All Ln (lbs.zip ls))).allOut hi
 rw [he] at hs
 have h2 : St W w (blk qb 153 [.slice ad ls.length c]::Sl 105 1 ad ls.length c ((lbs.zip ls).map lpt)::All Ln ((lbs.zip ls).eraseIdx i)::Ln (lbs.getD i 0,ls.getD i [])::L):=hs.sub
 exact (St.shut (M:=[_,_,_]) h2 fun _ h=>⟨ad,c,hl,h⟩ : St W w (QuH qb lbs ls i::Ln (lbs.getD i 0,ls.getD i [])::L)).perm (List.Perm.swap _ _ _)
theorem map_set {α β : Type} (f : α→β) (l : List α) (i : Nat) (x : α) : (l.set i x).map f=(l.map f).set i (f x):=by
 apply List.ext_getElem? ; intro j
 simp only [List.getElem?_map,List.getElem?_set,List.length_map]
 split
 · split <;> rfl
 · rfl
theorem zip_set {lbs : List Nat} {ls : List (List UInt8)} (hl : lbs.length=ls.length) {i : Nat} (h : i < ls.length) (l : List UInt8) : lbs.zip (ls.set i l)=(lbs.zip ls).set i (lbs.getD i 0,l):=by
 apply List.ext_getElem?; intro j
 by_cases hj : j < ls.length
 · rw [zip_at (by simpa using hl) (by simpa using hj),List.getElem?_set]
   by_cases hij : i=j
   · subst hij
     rw [if_pos rfl,if_pos (by simp; omega)]
     simp [List.getD_eq_getElem?_getD,h]
   · rw [if_neg hij,zip_at hl hj]
     simp [List.getD_eq_getElem?_getD,List.getElem?_set_ne hij]
 · rw [List.getElem?_eq_none (by simp; omega),List.getElem?_eq_none (by simp; omega)]
theorem Qu.in (hs : St W w (Ln (lbs.getD i 0,l)::QuH qb lbs ls i::L)) (h : i < ls.length) : St W w (Qu qb lbs (ls.set i l)::L):=by
 obtain ⟨⟨ad,c⟩,hl,hs⟩:=(hs.pick (QuH qb lbs ls i)).exi (ι:=Option Addr × Nat) (p:=fun _=>lbs.length=ls.length) (B:=fun y h=>sepL [blk qb 153 [.slice y.1 ls.length y.2],Sl 105 1 y.1 ls.length y.2 ((lbs.zip ls).map lpt),All Ln ((lbs.zip ls).eraseIdx i)] h) fun _ ⟨ad,c,hl,h⟩=>⟨(ad,c),hl,h⟩
 replace hs : St W w (blk qb 153 [.slice ad ls.length c]::Sl 105 1 ad ls.length c ((lbs.zip ls).map lpt)::All Ln ((lbs.zip ls).eraseIdx i)::Ln (lbs.getD i 0,l)::L):=hs.open (M:=[_,_,_]) fun _ h=>h
 have hz:=zip_at hl h
 obtain ⟨hi,he⟩:=List.getElem?_eq_some_iff.1 hz
 have h1 : St W w (Ln (lbs.getD i 0,l)::All Ln ((lbs.zip ls).eraseIdx i)::blk qb 153 [.slice ad ls.length c]::Sl 105 1 ad ls.length c ((lbs.zip ls).map lpt)::L):=hs.sub
 replace h1:=h1.allPut hi
 rw [← zip_set hl h] at h1
 have hls : ls.length=(ls.set i l).length:=by rw [List.length_set]
 have hp : (lbs.zip ls).map lpt=(lbs.zip (ls.set i l)).map lpt:=by
   rw [zip_set hl h,map_set]
   symm
   apply List.ext_getElem?; intro j
   rw [List.getElem?_set]
   split
   · rename_i hj; subst hj
     split
     · rw [List.getElem?_map,hz]; rfl
     · rw [List.getElem?_eq_none (by omega)]
   · rfl
 rw [hp,hls] at h1
 exact Qu.mk' h1 ad c (by rw [← hls]; exact hl)
theorem set_same {ls : List (List UInt8)} {i : Nat} : ls.set i (ls.getD i [])=ls:=by
 apply List.ext_getElem?; intro j
 rw [List.getElem?_set]
 split
 · rename_i h; subst h
   split
   · rename_i h; rw [List.getD_eq_getElem?_getD,List.getElem?_eq_getElem h]; rfl
   · rw [List.getElem?_eq_none (by omega)]
 · rfl
theorem Qu.back (hs : St W w (Ln (lbs.getD i 0,ls.getD i [])::QuH qb lbs ls i::L)) (h : i < ls.length) : St W w (Qu qb lbs ls::L):=by
 have:=Qu.in hs h
 rwa [set_same] at this
/-! Lines of a queue. -/
theorem q_len (hs : St W w (Qu qb lbs ls::L)) (h : i < ls.length) : Calls Tryz.prog 62 #[.pointer (some ⟨lbs.getD i 0,0,none⟩)] w fun e w'=>e=.returned (.int .i64 (ls.getD i []).length)∧St W w' (Qu qb lbs ls::L) :=
 (line_len (Qu.out hs h)).mono fun _ _ ⟨he,hs⟩=>⟨he,Qu.back hs h⟩
theorem q_add (hs : St W w (Qu qb lbs ls::L)) (h : i < ls.length) (hl : (ls.getD i []).length < 1000) : Calls Tryz.prog 88 #[.pointer (some ⟨lbs.getD i 0,0,none⟩),.int .u8 (x.toNat : Nat)] w fun e w'=>e=.returned (.int .i64 0)∧St W w' (Qu qb lbs (ls.set i (ls.getD i []++[x]))::L) :=
 (line_add (Qu.out hs h) (by omega)).mono fun _ _ ⟨he,hs⟩=>by
   rw [if_pos hl] at he hs
   exact ⟨he,Qu.in hs h⟩
theorem q_put {fr : Nat} {bs : List UInt8} (hs : St W w (Qu qb lbs ls::L)) (h : i < ls.length) (hl : (ls.getD i []).length≤1000) (hb : bs.length≤65536) (hp : ∀ w',St W w' L→RdB w' ad bs.length bs) :
   Calls Tryz.prog 91 #[.pointer (some ⟨lbs.getD i 0,0,none⟩),.int .i64 fr,.slice ad bs.length c] w fun e w'=>∃ n er : Int,e=.returned (.tuple #[.int .i64 n,.int .i64 er])∧St W w' (Qu qb lbs (ls.set i (putLn (ls.getD i []) fr bs))::L) :=
 (line_put (Qu.out hs h) hl hb (fun w' hw=>hp w' hw.tail)).mono fun _ _ ⟨n,er,he,hs⟩=>⟨n,er,he,Qu.in hs h⟩
theorem q_from {fr k : Nat} (hs : St W w (Qu qb lbs ls::L)) (h : i < ls.length) (hl : (ls.getD i []).length≤1000) (hf : fr≤1000) (hk : 1≤k∧k≤1000) :
   Calls Tryz.prog 139 #[.pointer (some ⟨lbs.getD i 0,0,none⟩),.int .i64 fr,.int .i64 k] w fun e w'=>∃ ad' c',e=.returned (.slice ad' (((ls.getD i []).drop fr).take k).length c')∧St W w' (Sl 5 1 ad' (((ls.getD i []).drop fr).take k).length c' (bc (((ls.getD i []).drop fr).take k))::Qu qb lbs ls::L) :=
 (line_from (Qu.out hs h) hl hf hk).mono fun _ _ ⟨ad',c',he,hs⟩=>⟨ad',c',he,(Qu.back (L:=Sl 5 1 ad' _ c' _::L) hs.sub h).perm (List.Perm.swap _ _ _)⟩
theorem q_all (hs : St W w (Qu qb lbs ls::L)) (h : i < ls.length) (hl : (ls.getD i []).length≤1000) :
   Calls Tryz.prog 104 #[.pointer (some ⟨lbs.getD i 0,0,none⟩)] w fun e w'=>∃ ad' c',e=.returned (.slice ad' (ls.getD i []).length c')∧St W w' (Sl 5 1 ad' (ls.getD i []).length c' (bc (ls.getD i []))::Qu qb lbs ls::L) :=
 (line_all (Qu.out hs h) hl).mono fun _ _ ⟨ad',c',he,hs⟩=>⟨ad',c',he,(Qu.back (L:=Sl 5 1 ad' _ c' _::L) hs.sub h).perm (List.Perm.swap _ _ _)⟩
/-! The queue's own functions. -/
theorem queue_n (hs : St W w (Qu qb lbs ls::L)) : Calls Tryz.prog 95 #[.pointer (some ⟨qb,0,none⟩)] w fun e w'=>e=.returned (.int .i64 ls.length)∧St W w' (Qu qb lbs ls::L):=by
 obtain ⟨ad,c,hl,hs⟩:=Qu.open hs
 refine calls_enter Tryz.func95 rfl Tryz.ntmps95 (Nat.le_of_ble_eq_true rfl) ?_
 intro a ha
 replace ha : Fr a 10 [(0,_)]:=ha
 refine WS<|WR ?_
 refine S1 ha fun a ha=>?_
 refine LN<|TN<|WS<|WS<|WR ?_
 iterate 2 (refine S1 ha fun a ha=>?_)
 refine LN<|TN<|WFa ha<|WK<|TN<|WS<|WR ?_
 iterate 3 (refine S1 ha fun a ha=>?_)
 refine SL ha (hs.rd1 rfl) fun a ha=>?_
 refine S1 ha fun a ha=>?_
 refine S1d ha fun a ha=>?_
 refine LN<|TN<|wp_ret ?_
 refine ret1 ha rfl ?_
 exact ⟨rfl,Qu.close hs hl⟩
theorem zp_at {lbs : List Nat} {ls : List (List UInt8)} (hl : lbs.length=ls.length) {i : Nat} (h : i < ls.length) : ((lbs.zip ls).map lpt)[i]?=some (.pointer (some ⟨lbs.getD i 0,0,none⟩)):=by
 rw [List.getElem?_map,zip_at hl h]; rfl
theorem queue_line (hs : St W w (Qu qb lbs ls::L)) (h : i < ls.length) : Calls Tryz.prog 60 #[.pointer (some ⟨qb,0,none⟩),.int .i64 i] w fun e w'=>e=.returned (.pointer (some ⟨lbs.getD i 0,0,none⟩))∧St W w' (Qu qb lbs ls::L):=by
 refine calls_enter Tryz.func60 rfl Tryz.ntmps60 (Nat.le_of_ble_eq_true rfl) ?_
 intro a ha
 replace ha : Fr a 20 [(0,_),(1,_)]:=ha
 refine WS<|WR ?_
 refine S1 ha fun a ha=>?_
 refine LN<|TN<|WS<|WS<|WR ?_
 iterate 3 (refine S1 ha fun a ha=>?_)
 rw [decide_eq_false (by omega)] at ha
 iterate 2 (refine S1g (s:=7) ha fun a ha=>?_)
 refine SK (st_call ha (wgT ha rfl (s:=7)) Ty.c95 rfl (queue_n hs) ?_); clear ha hs
 rintro e w ⟨rfl,hs⟩
 refine ⟨_,rfl,?_⟩
 intro a ha
 refine S1g (s:=7) ha fun a ha=>?_
 refine PF ha fun a ha=>?_
 refine LN<|TN ?_
 rw [decide_eq_false (by omega)] at ha
 refine WFa ha<|WK<|TN<|WS ?_
 obtain ⟨ad,c,hl,hs⟩:=Qu.open hs
 obtain ⟨b,o,rfl,hr⟩:=hs.slRd ad (by omega)
 refine WR ?_
 iterate 3 (refine S1 ha fun a ha=>?_)
 refine SL ha (hs.rd1 rfl) fun a ha=>?_
 refine S1 ha fun a ha=>?_
 refine SK (st_set ha rfl (ex_indexAddr ha Tryz.underlying151 Ty.t105 (by omega)) rfl fun a ha=>?_)
 rw [Nat.mul_one] at ha
 refine SL ha (hr i _ (zp_at hl h)) fun a ha=>?_
 refine S1d ha fun a ha=>?_
 refine LN<|TN<|wp_ret ?_
 refine ret1 ha rfl ?_
 exact ⟨rfl,Qu.close hs hl⟩
theorem queue_front (hs : St W w (Qu qb lbs ls::L)) (h0 : ls≠[]) (hl8 : ls.length≤8) : Calls Tryz.prog 49 #[.pointer (some ⟨qb,0,none⟩)] w fun e w'=>e=.returned (.int .i64 (frontL ls))∧St W w' (Qu qb lbs ls::L):=by
 have hpos : 0 < ls.length:=List.length_pos_iff.2 h0
 refine calls_enter Tryz.func49 rfl Tryz.ntmps49 (Nat.le_of_ble_eq_true rfl) ?_
 intro a ha
 replace ha : Fr a 31 [(0,_)]:=ha
 refine WS<|WR ?_
 refine S1 ha fun a ha=>?_
 refine LN<|TN<|WS<|WS<|WR ?_
 refine S1 ha fun a ha=>?_
 refine SK (st_call ha rfl Ty.c95 rfl (queue_n hs) ?_); clear ha hs
 rintro e w ⟨rfl,hs⟩
 refine ⟨_,rfl,?_⟩
 intro a ha
 refine S1 ha fun a ha=>?_
 refine LN<|TN ?_
 rw [decide_eq_false (by omega)] at ha
 refine WFa ha<|WK<|TN<|WS ?_
 obtain ⟨ad,c,hl,hs⟩:=Qu.open hs
 obtain ⟨b,o,rfl,hr⟩:=hs.slRd ad (by omega)
 refine WR ?_
 iterate 3 (refine S1 ha fun a ha=>?_)
 refine SL ha (hs.rd1 rfl) fun a ha=>?_
 refine SK (st_set ha rfl (ex_indexAddr ha Tryz.underlying151 Ty.t105 (by omega)) rfl fun a ha=>?_)
 rw [Nat.zero_mul] at ha
 refine SL ha (hr 0 _ (zp_at hl hpos)) fun a ha=>?_
 replace hs : St W w (Qu qb lbs ls::L):=Qu.close hs hl
 refine SK (st_call ha rfl Ty.c62 rfl (q_len hs hpos) ?_); clear ha hs
 rintro e w ⟨rfl,hs⟩
 refine ⟨_,rfl,?_⟩
 intro a ha
 refine S1 ha fun a ha=>?_
 refine LN<|TN<|WS<|WS ?_
 obtain ⟨ad,c,hl,hs⟩:=Qu.open hs
 rw [show ((ls.getD 0 []).length : Int)=(frontN ls 0 : Nat) from by rw [frontN,List.headD_eq_getD]] at ha
 refine WR ?_
 iterate 3 (refine S1 ha fun a ha=>?_)
 refine SL ha (hs.rd1 rfl) fun a ha=>?_
 iterate 2 (refine S1 ha fun a ha=>?_)
 refine LN ?_
 replace hs : St W w (blk qb 153 [.slice ad ls.length c]::Sl 105 1 ad ls.length c ((lbs.zip ls).map lpt)::All Ln (lbs.zip ls)::L):=hs
 refine TN<|wp_block ?_
 refine wp_loop_ghost (fun μ a w=>∃ (i : Nat),(μ=ls.length - i∧i≤ls.length)∧Fr a 31 [(3,.int .i64 (frontN ls i : Nat)),(19,.slice ad ls.length c),(20,.int .i64 ls.length),(21,.int .i64 i)]∧St W w (blk qb 153 [.slice ad ls.length c]::Sl 105 1 ad ls.length c ((lbs.zip ls).map lpt)::All Ln (lbs.zip ls)::L)) (ls.length) ?_ ?_
 · exact ⟨0,⟨rfl,by omega⟩,ha.keep [3,19,20,21],hs⟩
 ·
  clear ha hs
  rintro μ a w ⟨i,⟨rfl,hi⟩,ha,hs⟩
  refine WS<|WR ?_
  refine S1 ha fun a ha=>?_
  refine LN<|TN<|WS ?_
  refine WI ha (fun hc1=>?_) (fun hc1=>?_)
  ·
   obtain ⟨b2,o2,rfl,hr2⟩:=hs.slRd ad (by omega)
   have hil : i < ls.length:=by omega
   have hz:=zip_at hl hil
   obtain ⟨hzi,hze⟩:=List.getElem?_eq_some_iff.1 hz
   refine WK<|TN<|WS<|wp_block<|WS<|WR ?_
   refine SK (st_set ha rfl (ex_indexAddr ha Tryz.underlying151 Ty.t105 (by omega)) rfl fun a ha=>?_)
   rw [Nat.mul_one] at ha
   refine SL ha (hr2 i _ (zp_at hl hil)) fun a ha=>?_
   refine S1 ha fun a ha=>?_
   refine LN<|TN ?_
   replace hs:=(hs.pick (All Ln (lbs.zip ls))).allOut hzi
   rw [hze] at hs
   refine WR ?_
   iterate 2 (refine S1 ha fun a ha=>?_)
   refine SK (st_call ha rfl Ty.c62 rfl (line_len hs) ?_); clear ha hs
   rintro e w ⟨rfl,hs⟩
   refine ⟨_,rfl,?_⟩
   intro a ha
   replace hs:=(hze ▸ hs : St W w (Ln (lbs.zip ls)[i]::_)).allPut hzi
   rw [List.set_getElem_self] at hs
   refine SK (st_set ha rfl (ex_min ha) rfl fun a ha=>?_)
   rw [show min ((frontN ls i : Nat) : Int) ((ls.getD i []).length : Int)=((frontN ls (i+1) : Nat) : Int) from by rw [frontN]; omega] at ha
   refine S1d ha fun a ha=>?_
   refine LN<|BN<|TN<|WR ?_
   refine SK (st_set ha rfl (ex_addI ha (by omega) (by omega)) rfl fun a ha=>?_)
   refine S1d ha fun a ha=>?_
   refine LN<|TN ?_
   exact ⟨ls.length - (i+1),by omega,i+1,⟨rfl,by omega⟩,ha.keep [3,19,20,21],hs.sub⟩
  ·
   obtain rfl : i=ls.length:=by omega
   refine wp_exit<|TE<|TE<|blk_e<|TN<|WS<|WR ?_
   iterate 2 (refine S1 ha fun a ha=>?_)
   refine LN<|TN<|wp_ret ?_
   refine ret1 ha rfl ?_
   exact ⟨rfl,Qu.close hs hl⟩
theorem queue_joint (hs : St W w (Qu qb lbs ls::L)) (h0 : ls≠[]) (hf : f < frontL ls) (hl8 : ls.length≤8) : Calls Tryz.prog 84 #[.pointer (some ⟨qb,0,none⟩),.int .i64 f] w fun e w'=>∃ ad' c',e=.returned (.tuple #[.slice ad' (jointL ls f).length c',.bool true]) ∧
   St W w' (Sl 5 1 ad' (jointL ls f).length c' (bc (jointL ls f))::Qu qb lbs ls::L):=by
 refine calls_enter Tryz.func84 rfl Tryz.ntmps84 (Nat.le_of_ble_eq_true rfl) ?_
 intro a ha
 replace ha : Fr a 40 [(0,_),(1,_)]:=ha
 refine WS<|WR ?_
 iterate 2 (refine S1 ha fun a ha=>?_)
 refine LN<|TN<|WS<|WS<|WR ?_
 iterate 3 (refine S1 ha fun a ha=>?_)
 rw [decide_eq_false (by omega)] at ha
 iterate 2 (refine S1g (s:=13) ha fun a ha=>?_)
 refine SK (st_call ha (wgT ha rfl (s:=13)) Ty.c49 rfl (queue_front hs h0 hl8) ?_); clear ha hs
 rintro e w ⟨rfl,hs⟩
 refine ⟨_,rfl,?_⟩
 intro a ha
 refine S1g (s:=13) ha fun a ha=>?_
 refine PF ha fun a ha=>?_
 refine LN<|TN ?_
 rw [decide_eq_false (by omega)] at ha
 refine WFa ha<|WK<|TN<|WS<|WR ?_
 refine S1 ha fun a ha=>?_
 refine LN<|TN<|WS<|WS ?_
 obtain ⟨ad,c,hl,hs⟩:=Qu.open hs
 refine WR ?_
 iterate 3 (refine S1 ha fun a ha=>?_)
 refine SL ha (hs.rd1 rfl) fun a ha=>?_
 iterate 2 (refine S1 ha fun a ha=>?_)
 refine LN<|TN<|wp_block ?_
 refine wp_loop_ghost (fun μ a w=>∃ (i : Nat) (ad2 : Option Addr) (c2 : Nat),(μ=ls.length - i∧i≤ls.length)∧Fr a 40 [(1,.int .i64 f),(6,.slice ad2 (jointN ls f i).length c2),(22,.slice ad ls.length c),(23,.int .i64 ls.length),(24,.int .i64 i)]∧St W w (Sl 5 1 ad2 (jointN ls f i).length c2 (bc (jointN ls f i))::blk qb 153 [.slice ad ls.length c]::Sl 105 1 ad ls.length c ((lbs.zip ls).map lpt)::All Ln (lbs.zip ls)::L)) (ls.length) ?_ ?_
 · exact ⟨0,none,0,⟨rfl,by omega⟩,ha.keep [1,6,22,23,24],hs.sl0 5 1 none⟩
 ·
  clear ha hs
  rintro μ a w ⟨i,ad2,c2,⟨rfl,hi⟩,ha,hs⟩
  refine WS<|WR ?_
  refine S1 ha fun a ha=>?_
  refine LN<|TN<|WS ?_
  refine WI ha (fun hc1=>?_) (fun hc1=>?_)
  ·
   obtain ⟨b2,o2,rfl,hr2⟩:=hs.slRd ad (by omega)
   have hil : i < ls.length:=by omega
   have hz:=zip_at hl hil
   obtain ⟨hzi,hze⟩:=List.getElem?_eq_some_iff.1 hz
   have hjl:=jointN_len (ls:=ls) (f:=f) (i:=i) hi
   refine WK<|TN<|WS<|wp_block<|WS<|WR ?_
   refine SK (st_set ha rfl (ex_indexAddr ha Tryz.underlying151 Ty.t105 (by omega)) rfl fun a ha=>?_)
   rw [Nat.mul_one] at ha
   refine SL ha (hr2 i _ (zp_at hl hil)) fun a ha=>?_
   refine S1 ha fun a ha=>?_
   refine LN<|TN<|WS ?_
   replace hs:=(hs.pick (All Ln (lbs.zip ls))).allOut hzi
   rw [hze] at hs
   refine WR ?_
   iterate 2 (refine S1 ha fun a ha=>?_)
   refine SK (st_call ha rfl Ty.c125 rfl (line_at hs) ?_); clear ha hs
   rintro e w ⟨rfl,hs⟩
   refine ⟨_,rfl,?_⟩
   intro a ha
   replace hs:=(hze ▸ hs : St W w (Ln (lbs.zip ls)[i]::_)).allPut hzi
   rw [List.set_getElem_self] at hs
   iterate 5 (refine S1 ha fun a ha=>?_)
   refine LN<|TN<|WR ?_
   iterate 2 (refine S1 ha fun a ha=>?_)
   refine SK (st_buildSlice ha rfl hs Tryz.underlying22 Ty.t5 rfl rfl rfl rfl (by decide) (by decide) fun b36 a w ha hs ho=>?_)
   clear ho
   refine SK (st_append ha rfl hs Tryz.underlying22 Ty.t5 rfl rfl hs.rdAll rfl (bc_one [(ls.getD i []).getD f 0]) (by decide) (by decide) (by omega) fun ad37 c37 a w ha hs=>?_)
   rw [show bc (jointN ls f i)++_=bc (jointN ls f (i+1)) from by rw [jointN_succ hil,bc_app,List.getD_eq_getElem?_getD (l:=ls),List.getElem?_eq_getElem hil]; rfl,show (jointN ls f i).length+1=(jointN ls f (i+1)).length from by rw [jointN_len hi,jointN_len (by omega)]] at hs
   rw [show (jointN ls f i).length+1=(jointN ls f (i+1)).length from by rw [jointN_len hi,jointN_len (by omega)]] at ha
   refine S1d ha fun a ha=>?_
   refine LN<|BN<|TN<|WR ?_
   refine SK (st_set ha rfl (ex_addI ha (by omega) (by omega)) rfl fun a ha=>?_)
   refine S1d ha fun a ha=>?_
   refine LN<|TN ?_
   exact ⟨ls.length - (i+1),by omega,i+1,_,_,⟨rfl,by omega⟩,ha.keep [1,6,22,23,24],hs.sub⟩
  ·
   obtain rfl : i=ls.length:=by omega
   rw [jointN_all] at ha hs
   refine wp_exit<|TE<|TE<|blk_e<|TN<|WS<|WR ?_
   iterate 3 (refine S1 ha fun a ha=>?_)
   refine LN<|TN<|wp_ret ?_
   refine ret2 ha rfl ?_
   exact ⟨_,_,rfl,(Qu.mk' (L':=Sl 5 1 ad2 (jointL ls f).length c2 (bc (jointL ls f))::L) hs ad c hl).perm (List.Perm.swap _ _ _)⟩
theorem queue_new {d : Nat} (hs : St W w L) (hn : 2≤n∧n≤8) (hd : d≤8) : Calls Tryz.prog 82 #[.int .i64 n,.int .i64 d] w fun e w'=>∃ qb lbs,e=.returned (.pointer (some ⟨qb,0,none⟩))∧St W w' (Qu qb lbs (List.replicate n (List.replicate d 0))::L):=by
 refine calls_enter Tryz.func82 rfl Tryz.ntmps82 (Nat.le_of_ble_eq_true rfl) ?_
 intro a ha
 replace ha : Fr a 26 [(0,_),(1,_)]:=ha
 refine WS<|WR ?_
 refine S1 ha fun a ha=>?_
 refine LN<|TN<|WS<|WR ?_
 refine SK (st_set ha rfl (ex_build ha Ty.b153 Ty.t153 rfl) rfl fun a ha=>?_)
 refine SK (st_box ha rfl hs rfl fun b7 a w ha hs ho=>?_)
 clear ho
 refine S1 ha fun a ha=>?_
 refine LN<|TN<|WS<|WS<|WR ?_
 refine S1 ha fun a ha=>?_
 refine SK (st_set ha rfl (ex_max ha) rfl fun a ha=>?_)
 refine SK (st_set ha rfl (ex_min ha) rfl fun a ha=>?_)
 rw [show min (max (n : Int) 2) 8=(n : Int) from by omega] at ha
 refine S1 ha fun a ha=>?_
 refine LN ?_
 replace hs:=hs.sl0 105 1 none
 replace hs:=St.allNil (f:=Ln) hs
 refine TN<|wp_block ?_
 refine wp_loop_ghost (fun μ a w=>∃ (i : Nat) (xs : List Lx) (ad : Option Addr) (c : Nat),(μ=n - i∧i≤n∧xs.map (·.2)=List.replicate i (List.replicate d 0))∧Fr a 26 [(1,.int .i64 d),(5,.pointer (some ⟨b7,0,none⟩)),(10,.int .i64 n),(11,.int .i64 i)]∧St W w (blk b7 153 [.slice ad i c]::Sl 105 1 ad i c (xs.map lpt)::All Ln xs::L)) (n) ?_ ?_
 · exact ⟨0,[],none,0,⟨rfl,by omega,rfl⟩,ha.keep [1,5,10,11],(hs.sub : St W w (blk b7 153 [.slice none 0 0]::Sl 105 1 none 0 0 []::All Ln []::L))⟩
 ·
  clear ha hs
  rintro μ a w ⟨i,xs,ad,c,⟨rfl,hi,hxs⟩,ha,hs⟩
  refine WS<|WR ?_
  refine S1 ha fun a ha=>?_
  refine LN<|TN<|WS ?_
  refine WI ha (fun hc0=>?_) (fun hc0=>?_)
  ·
   refine WK<|TN<|WS<|wp_block ?_
   refine DW (m:=12) (fun w'=>Rd w' b7 0 [.slice ad i c]) [6,7] [0,1,2,3,5,4,6,7,8,9,10,11] Ty.mixed (pk_blk (pk_then (pk_then (pk_blk (pk_then pk_body))))) (fun hpk=>?_)
   replace hs:=hs.drew
   generalize w.drew=w at hs hpk ⊢
   have hC : Rd w b7 0 [.slice ad i c]:=hs.rdAll
   iterate 5 (refine DP hpk ha rfl fun a ha=>?_)
   refine DL hpk ha rfl (fun w hc=>hc 0 _ rfl) hC fun a ha=>?_
   refine D1 rfl (st_call ha rfl Ty.c122 rfl (line_new hs hd) ?_); clear ha hs
   rintro e w ⟨lb,rfl,hs⟩
   refine ⟨_,rfl,?_⟩
   intro a ha
   replace hC : (fun w'=>Rd w' b7 0 [.slice ad i c]) w:=hs.rdAll
   refine ⟨fun _=>hC,?_⟩
   refine D1 rfl (st_buildSlice ha rfl hs Tryz.underlying151 Ty.t105 rfl rfl rfl rfl (by decide) (by decide) fun b20 a w ha hs ho=>?_)
   (try replace hC:=hC.trans ho); clear ho
   replace hC : (fun w'=>Rd w' b7 0 [.slice ad i c]) w:=hs.rdAll
   refine ⟨fun _=>hC,?_⟩
   refine D1 rfl (st_append ha rfl hs Tryz.underlying151 Ty.t105 rfl rfl hs.rdAll rfl (by simp [Value.oneCell']) (by decide) (by decide) (by omega) fun ad21 c21 a w ha hs=>?_)
   refine ⟨fun h=>absurd h (by decide),?_⟩
   rw [show List.map lpt xs++_=List.map lpt (xs++[(lb,List.replicate d 0)]) from by rw [List.map_append]; rfl] at hs
   iterate 2 (refine DP hpk ha rfl fun a ha=>?_)
   refine D1 rfl (st_store ha rfl hs Ty.t151 rfl (by simp) fun a w ha hs=>?_)
   refine ⟨fun h=>absurd h (by decide),?_⟩
   refine DD<|BN<|TN<|WR ?_
   refine SK (st_set ha rfl (ex_addI ha (by omega) (by omega)) rfl fun a ha=>?_)
   refine S1d ha fun a ha=>?_
   refine LN<|TN ?_
   have hs2:=St.allPush (x:=(lb,List.replicate d 0)) (hs.sub (M:=Ln (lb,List.replicate d 0)::All Ln xs::blk b7 153 [.slice ad21 (i+1) c21]::Sl 105 1 ad21 (i+1) c21 ((xs++[(lb,List.replicate d 0)]).map lpt)::L))
   exact ⟨n - (i+1),by omega,i+1,xs++[(lb,List.replicate d 0)],ad21,c21,⟨rfl,by omega,by rw [List.map_append,hxs,List.replicate_succ']; rfl⟩,ha.keep [1,5,10,11],hs2.sub⟩
  ·
   obtain rfl : i=n:=by omega
   refine wp_exit<|TE<|TE<|blk_e<|TN<|WS<|WR ?_
   iterate 2 (refine S1 ha fun a ha=>?_)
   refine LN<|TN<|wp_ret ?_
   refine ret1 ha rfl ?_
   have hxl : xs.length=i:=by rw [← List.length_map (f:=(·.2)),hxs,List.length_replicate]
   have hz : (xs.map (·.1)).zip (List.replicate i (List.replicate d 0))=xs:=by
     rw [← hxs]
     clear hxs hs ha hxl
     induction xs with
     | nil=>rfl
     | cons x xs ih=>rw [List.map_cons,List.map_cons,List.zip_cons_cons,ih]
   have hll : (List.replicate i (List.replicate d (0 : UInt8))).length=i:=List.length_replicate
   refine ⟨b7,xs.map (·.1),rfl,?_⟩
   refine Qu.close (ad:=ad) (c:=c) ?_ (by rw [List.length_map,hxl,hll])
   rw [hll,hz]; exact hs
end
end Go.Proofs.YtagpkhbkdbaigaaGreat
