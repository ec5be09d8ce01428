/- Queues of lines: queue.New, N, Line, Front, Joint. -/
import Derived.Test.YtdilfdkendjjhaaGreatA20Pkt3
import Derived.Test.YtdilfdkendjjhaaGreatA02More2
namespace Go.Proofs.YtdilfdkendjjhaaGreat
open Go.RowKit
set_option linter.unusedVariables false
set_option linter.unusedSimpArgs false
set_option maxRecDepth 10000
set_option synthInstance.maxSize 4000
set_option synthInstance.maxHeartbeats 400000
section
def lpt (x:Lx):Value:=pt x.1
def Qu (qb:Nat)(lbs:List Nat)(ls:List (List UInt8)):SP:=λh=>∃ (ad:Option Addr) (c:Nat),lbs.length=ls.length∧sepL [blk qb 234 [.slice ad ls.length c],Sl 226 1 ad ls.length c ((lbs.zip ls).map lpt),All Ln (lbs.zip ls)] h
section
variable {W w:World}{L L' R:List SP}{n c qb lb i f:Nat}{ad:Option Addr}{ls:List (List UInt8)}{lbs:List Nat}{l:List UInt8}{x:UInt8}
theorem Qu.open (hs:St W w (Qu qb lbs ls::L)):∃ (ad:Option Addr) (c:Nat),lbs.length=ls.length∧St W w (blk qb 234 [.slice ad ls.length c]::Sl 226 1 ad ls.length c ((lbs.zip ls).map lpt)::All Ln (lbs.zip ls)::L):=by
 obtain⟨⟨ad,c⟩,hl,hs⟩:=hs.exi (ι:=Option Addr×Nat) (p:=λ_=>lbs.length=ls.length) (B:=λy h=>sepL [blk qb 234 [.slice y.1 ls.length y.2],Sl 226 1 y.1 ls.length y.2 ((lbs.zip ls).map lpt),All Ln (lbs.zip ls)] h) λ_ ⟨ad,c,hl,h⟩=>⟨(ad,c),hl,h⟩
 exact⟨ad,c,hl,hs.open (M:=[_,_,_]) λ_ h=>h⟩
theorem Qu.close (hs:St W w (blk qb 234 [.slice ad ls.length c]::Sl 226 1 ad ls.length c ((lbs.zip ls).map lpt)::All Ln (lbs.zip ls)::L))(hl:lbs.length=ls.length):St W w (Qu qb lbs ls::L) :=
 St.shut (M:=[_,_,_]) hs λ_ h=>⟨ad,c,hl,h⟩
theorem Qu.mk' (hs:St W w L)(ad:Option Addr)(c:Nat)[k:Arr L (blk qb 234 [.slice ad ls.length c]::Sl 226 1 ad ls.length c ((lbs.zip ls).map lpt)::All Ln (lbs.zip ls)::L') R](hl:lbs.length=ls.length):St W w (Qu qb lbs ls::L'):=Qu.close (ad:=ad) (c:=c) hs.sub hl
theorem zip_at {lbs:List Nat}{ls:List (List UInt8)}(hl:lbs.length=ls.length){i:Nat}(h:i<ls.length):(lbs.zip ls)[i]?=some (lbs.getD i 0,ls.getD i []):=by
 rw[List.getElem?_zip_eq_some]
 simp only[List.getD_eq_getElem?_getD]
 rw[List.getElem?_eq_getElem h,List.getElem?_eq_getElem (by omega)]
 exact⟨rfl,rfl⟩
def QuH (qb:Nat)(lbs:List Nat)(ls:List (List UInt8))(i:Nat):SP:=λh=>∃ (ad:Option Addr) (c:Nat),lbs.length=ls.length∧sepL [blk qb 234 [.slice ad ls.length c],Sl 226 1 ad ls.length c ((lbs.zip ls).map lpt),All Ln ((lbs.zip ls).eraseIdx i)] h
theorem Qu.out (hs:St W w (Qu qb lbs ls::L))(h:i<ls.length):St W w (Ln (lbs.getD i 0,ls.getD i [])::QuH qb lbs ls i::L):=by
 obtain⟨ad,c,hl,hs⟩:=Qu.open hs
 have hz:=zip_at hl h
 obtain⟨hi,he⟩:=List.getElem?_eq_some_iff.1 hz
 replace hs:=(hs.pick (All Ln (lbs.zip ls))).allOut hi
 rw[he]at hs
 have h2:St W w (blk qb 234 [.slice ad ls.length c]::Sl 226 1 ad ls.length c ((lbs.zip ls).map lpt)::All Ln ((lbs.zip ls).eraseIdx i)::Ln (lbs.getD i 0,ls.getD i [])::L):=hs.sub
 exact (St.shut (M:=[_,_,_]) h2 λ_ h=>⟨ad,c,hl,h⟩:St W w (QuH qb lbs ls i::Ln (lbs.getD i 0,ls.getD i [])::L)).perm (List.Perm.swap _ _ _)
theorem map_set {α β:Type}(f:α→β)(l:List α)(i:Nat)(x:α):(l.set i x).map f=(l.map f).set i (f x):=by
 apply List.ext_getElem? ;intro j
 simp only[List.getElem?_map,List.getElem?_set,List.length_map]
 split
 · split <;> rfl
 · rfl
theorem zip_set {lbs:List Nat}{ls:List (List UInt8)}(hl:lbs.length=ls.length){i:Nat}(h:i<ls.length)(l:List UInt8):lbs.zip (ls.set i l)=(lbs.zip ls).set i (lbs.getD i 0,l):=by
 apply List.ext_getElem?;intro j
 by_cases hj:j<ls.length
 · rw[zip_at (by simpa using hl) (by simpa using hj),List.getElem?_set]
   by_cases hij:i=j
   · subst hij
     rw[if_pos rfl,if_pos (by simp;omega)]
     simp[List.getD_eq_getElem?_getD,h]
   · rw[if_neg hij,zip_at hl hj]
     simp[List.getD_eq_getElem?_getD,List.getElem?_set_ne hij]
 · rw[List.getElem?_eq_none (by simp;omega),List.getElem?_eq_none (by simp;omega)]
theorem Qu.in (hs:St W w (Ln (lbs.getD i 0,l)::QuH qb lbs ls i::L))(h:i<ls.length):St W w (Qu qb lbs (ls.set i l)::L):=by
 obtain⟨⟨ad,c⟩,hl,hs⟩:=(hs.pick (QuH qb lbs ls i)).exi (ι:=Option Addr×Nat) (p:=λ_=>lbs.length=ls.length) (B:=λy h=>sepL [blk qb 234 [.slice y.1 ls.length y.2],Sl 226 1 y.1 ls.length y.2 ((lbs.zip ls).map lpt),All Ln ((lbs.zip ls).eraseIdx i)] h) λ_ ⟨ad,c,hl,h⟩=>⟨(ad,c),hl,h⟩
 replace hs:St W w (blk qb 234 [.slice ad ls.length c]::Sl 226 1 ad ls.length c ((lbs.zip ls).map lpt)::All Ln ((lbs.zip ls).eraseIdx i)::Ln (lbs.getD i 0,l)::L):=hs.open (M:=[_,_,_]) λ_ h=>h
 have hz:=zip_at hl h
 obtain⟨hi,he⟩:=List.getElem?_eq_some_iff.1 hz
 have h1:St W w (Ln (lbs.getD i 0,l)::All Ln ((lbs.zip ls).eraseIdx i)::blk qb 234 [.slice ad ls.length c]::Sl 226 1 ad ls.length c ((lbs.zip ls).map lpt)::L):=hs.sub
 replace h1:=h1.allPut hi
 rw[← zip_set hl h]at h1
 have hls:ls.length=(ls.set i l).length:=by rw[List.length_set]
 have hp:(lbs.zip ls).map lpt=(lbs.zip (ls.set i l)).map lpt:=by
   rw[zip_set hl h,map_set]
   symm
   apply List.ext_getElem?;intro j
   rw[List.getElem?_set]
   split
   · rename_i hj;subst hj
     split
     · rw[List.getElem?_map,hz];rfl
     · rw[List.getElem?_eq_none (by omega)]
   · rfl
 rw[hp,hls]at h1
 exact Qu.mk' h1 ad c (by rw[← hls];exact hl)
theorem set_sameQ {ls:List (List UInt8)}{i:Nat}:ls.set i (ls.getD i [])=ls:=by
 apply List.ext_getElem?;intro j
 rw[List.getElem?_set]
 split
 · rename_i h;subst h
   split
   · rename_i h;rw[List.getD_eq_getElem?_getD,List.getElem?_eq_getElem h];rfl
   · rw[List.getElem?_eq_none (by omega)]
 · rfl
theorem Qu.back (hs:St W w (Ln (lbs.getD i 0,ls.getD i [])::QuH qb lbs ls i::L))(h:i<ls.length):St W w (Qu qb lbs ls::L):=by
 have:=Qu.in hs h
 rwa [set_sameQ]at this
theorem q_len (hs:St W w (Qu qb lbs ls::L))(h:i<ls.length):Calls Tryz.prog 148 #[.pointer (some ⟨lbs.getD i 0,0,none⟩)] w λe w'=>e=.returned (.int .i64 (ls.getD i []).length)∧St W w' (Qu qb lbs ls::L) :=
 (line_len (Qu.out hs h)).mono λ_ _ ⟨he,hs⟩=>⟨he,Qu.back hs h⟩
theorem q_at (hs:St W w (Qu qb lbs ls::L))(h:i<ls.length):Calls Tryz.prog 183 #[.pointer (some ⟨lbs.getD i 0,0,none⟩),.int .i64 f] w λe w'=>e=.returned (.tuple #[.int .u8 (((ls.getD i []).getD f 0).toNat:Nat),.bool (decide (f<(ls.getD i []).length))])∧St W w' (Qu qb lbs ls::L) :=
 (line_at (Qu.out hs h)).mono λ_ _ ⟨he,hs⟩=>⟨he,Qu.back hs h⟩
theorem q_add (hs:St W w (Qu qb lbs ls::L))(h:i<ls.length)(hl:(ls.getD i []).length<1000):Calls Tryz.prog 177 #[.pointer (some ⟨lbs.getD i 0,0,none⟩),.int .u8 (x.toNat:Nat)] w λe w'=>e=.returned (.int .i64 0)∧St W w' (Qu qb lbs (ls.set i (ls.getD i []++[x]))::L) :=
 (line_add (Qu.out hs h) (by omega)).mono λ_ _ ⟨he,hs⟩=>by
   rw[if_pos hl]at he hs
   exact⟨he,Qu.in hs h⟩
theorem q_put {fr:Nat}{bs:List UInt8}(hs:St W w (Qu qb lbs ls::L))(h:i<ls.length)(hl:(ls.getD i []).length≤1000)(hb:bs.length≤65536)(hp:∀ w',St W w' L→RdB w' ad bs.length bs) :
   Calls Tryz.prog 205 #[.pointer (some ⟨lbs.getD i 0,0,none⟩),.int .i64 fr,.slice ad bs.length c] w λe w'=>∃ n er:Int,e=.returned (.tuple #[.int .i64 n,.int .i64 er])∧St W w' (Qu qb lbs (ls.set i (putLn (ls.getD i []) fr bs))::L) :=
 (line_put (Qu.out hs h) hl hb (λw' hw=>hp w' hw.tail)).mono λ_ _ ⟨n,er,he,hs⟩=>⟨n,er,he,Qu.in hs h⟩
theorem q_from {fr k:Nat}(hs:St W w (Qu qb lbs ls::L))(h:i<ls.length)(hl:(ls.getD i []).length≤1000)(hf:fr≤1000)(hk:1≤k∧k≤1000) :
   Calls Tryz.prog 207 #[.pointer (some ⟨lbs.getD i 0,0,none⟩),.int .i64 fr,.int .i64 k] w λe w'=>∃ ad' c',e=.returned (.slice ad' (((ls.getD i []).drop fr).take k).length c')∧St W w' (Sl 5 1 ad' (((ls.getD i []).drop fr).take k).length c' (bc (((ls.getD i []).drop fr).take k))::Qu qb lbs ls::L) :=
 (line_from (Qu.out hs h) hl hf hk).mono λ_ _ ⟨ad',c',he,hs⟩=>⟨ad',c',he,(Qu.back (L:=Sl 5 1 ad' _ c' _::L) hs.sub h).perm (List.Perm.swap _ _ _)⟩
theorem q_all (hs:St W w (Qu qb lbs ls::L))(h:i<ls.length)(hl:(ls.getD i []).length≤1000) :
   Calls Tryz.prog 150 #[.pointer (some ⟨lbs.getD i 0,0,none⟩)] w λe w'=>∃ ad' c',e=.returned (.slice ad' (ls.getD i []).length c')∧St W w' (Sl 5 1 ad' (ls.getD i []).length c' (bc (ls.getD i []))::Qu qb lbs ls::L) :=
 (line_all (Qu.out hs h) hl).mono λ_ _ ⟨ad',c',he,hs⟩=>⟨ad',c',he,(Qu.back (L:=Sl 5 1 ad' _ c' _::L) hs.sub h).perm (List.Perm.swap _ _ _)⟩
theorem queue_n (hs:St W w (Qu qb lbs ls::L)):Calls Tryz.prog 149 #[pt qb] w λe w'=>e=.returned (.int .i64 ls.length)∧St W w' (Qu qb lbs ls::L):=by
 obtain⟨ad,c,hl,hs⟩:=Qu.open hs
 refine EN Tryz.func149 Tryz.ntmps149 rfl rfl λa ha=>?_
 refine RN 6 ha hs λa ha=>?_
 replace ha:=ha.isF 4
 refine RT 8 ha hs ?_
 exact⟨rfl,Qu.close hs hl⟩
theorem zp_at {lbs:List Nat}{ls:List (List UInt8)}(hl:lbs.length=ls.length){i:Nat}(h:i<ls.length):((lbs.zip ls).map lpt)[i]?=some (.pointer (some ⟨lbs.getD i 0,0,none⟩)):=by
 rw[List.getElem?_map,zip_at hl h];rfl
theorem queue_line (hs:St W w (Qu qb lbs ls::L))(h:i<ls.length):Calls Tryz.prog 146 #[pt qb,.int .i64 i] w λe w'=>e=.returned (.pointer (some ⟨lbs.getD i 0,0,none⟩))∧St W w' (Qu qb lbs ls::L):=by
 refine EN Tryz.func146 Tryz.ntmps146 rfl rfl λa ha=>?_
 refine RN 7 ha hs λa ha=>?_
 rw[decide_eq_false (by omega)]at ha
 refine CL 2 ha hs (queue_n hs) λa w ha hs=>?_
 refine RN 2 ha hs λa ha=>?_
 rw[decide_eq_false (by omega)]at ha
 refine RN 2 ha hs λa ha=>?_
 obtain⟨ad,c,hl,hs⟩:=Qu.open hs
 obtain⟨b,o,rfl,hr⟩:=hs.slRd ad (by omega)
 refine RN 6 ha hs λa ha=>?_
 refine SS ha (ld1 ha (hr i _ (zp_at hl h))) λa ha=>?_
 refine RT 1 ha hs ?_
 exact⟨rfl,Qu.close hs hl⟩
theorem queue_front (hs:St W w (Qu qb lbs ls::L))(h0:ls≠[])(hl8:ls.length≤8):Calls Tryz.prog 84 #[pt qb] w λe w'=>e=.returned (.int .i64 (frontL ls))∧St W w' (Qu qb lbs ls::L):=by
 have hpos:0<ls.length:=List.length_pos_iff.2 h0
 refine EN Tryz.func84 Tryz.ntmps84 rfl rfl λa ha=>?_
 refine CL 5 ha hs (queue_n hs) λa w ha hs=>?_
 refine RN 1 ha hs λa ha=>?_
 rw[decide_eq_false (by omega)]at ha
 refine RN 2 ha hs λa ha=>?_
 obtain⟨ad,c,hl,hs⟩:=Qu.open hs
 obtain⟨b,o,rfl,hr⟩:=hs.slRd ad (by omega)
 refine RN 5 ha hs λa ha=>?_
 refine SS ha (ld1 ha (hr 0 _ (zp_at hl hpos))) λa ha=>?_
 replace hs:St W w (Qu qb lbs ls::L):=Qu.close hs hl
 refine CL 0 ha hs (q_len hs hpos) λa w ha hs=>?_
 refine RN 3 ha hs λa ha=>?_
 obtain⟨ad,c,hl,hs⟩:=Qu.open hs
 rw[show ((ls.getD 0 []).length:Int)=(frontN ls 0:Nat) from by rw[frontN,List.headD_eq_getD]]at ha
 refine RN 6 ha hs λa ha=>?_
 replace hs:St W w (blk qb 234 [.slice ad ls.length c]::Sl 226 1 ad ls.length c ((lbs.zip ls).map lpt)::All Ln (lbs.zip ls)::L):=hs
 refine wp_loop_ghost (λμ a w=>∃ (i:Nat),(μ=ls.length-i∧i≤ls.length)∧Fr a 31 [(3,.int .i64 (frontN ls i:Nat)),(19,.slice ad ls.length c),(20,.int .i64 ls.length),(21,.int .i64 i)]∧St W w (blk qb 234 [.slice ad ls.length c]::Sl 226 1 ad ls.length c ((lbs.zip ls).map lpt)::All Ln (lbs.zip ls)::L)) (ls.length) (⟨0,⟨rfl,by omega⟩,ha.keep [3,19,20,21],hs⟩) ?_
 clear ha hs
 rintro μ a w ⟨i,⟨rfl,hi⟩,ha,hs⟩
 refine IF 3 ha hs (λhc1 a ha=>?_) λhc1 a ha=>?_
 ·
  obtain⟨b2,o2,rfl,hr2⟩:=hs.slRd ad (by omega)
  have hil:i<ls.length:=by omega
  have hz:=zip_at hl hil
  obtain⟨hzi,hze⟩:=List.getElem?_eq_some_iff.1 hz
  refine RN 3 ha hs λa ha=>?_
  refine SS ha (ld1 ha (hr2 i _ (zp_at hl hil))) λa ha=>?_
  refine RN 1 ha hs λa ha=>?_
  replace hs:=(hs.pick (All Ln (lbs.zip ls))).allOut hzi
  rw[hze]at hs
  refine CL 2 ha hs (line_len hs) λa w ha hs=>?_
  replace hs:=(hze ▸ hs:St W w (Ln (lbs.zip ls)[i]::_)).allPut hzi
  rw[List.set_getElem_self]at hs
  refine RN 1 ha hs λa ha=>?_
  rw[show min ((frontN ls i:Nat):Int) ((ls.getD i []).length:Int)=((frontN ls (i+1):Nat):Int) from by rw[frontN];omega]at ha
  refine RN 3 ha hs λa ha=>?_
  exact⟨ls.length-(i+1),by omega,i+1,⟨rfl,by omega⟩,ha.keep [3,19,20,21],hs.sub⟩
 obtain rfl:i=ls.length:=by omega
 refine RT 3 ha hs ?_
 exact⟨rfl,Qu.close hs hl⟩
theorem queue_joint (hs:St W w (Qu qb lbs ls::L))(h0:ls≠[])(hf:f<frontL ls)(hl8:ls.length≤8):Calls Tryz.prog 173 #[pt qb,.int .i64 f] w λe w'=>∃ ad' c',e=.returned (.tuple #[.slice ad' (jointL ls f).length c',.bool true]) ∧
   St W w' (Sl 5 1 ad' (jointL ls f).length c' (bc (jointL ls f))::Qu qb lbs ls::L):=by
 refine EN Tryz.func173 Tryz.ntmps173 rfl rfl λa ha=>?_
 refine RN 8 ha hs λa ha=>?_
 rw[decide_eq_false (by omega)]at ha
 refine CL 2 ha hs (queue_front hs h0 hl8) λa w ha hs=>?_
 refine RN 2 ha hs λa ha=>?_
 rw[decide_eq_false (by omega)]at ha
 refine RN 5 ha hs λa ha=>?_
 obtain⟨ad,c,hl,hs⟩:=Qu.open hs
 refine RN 6 ha hs λa ha=>?_
 refine wp_loop_ghost (λμ a w=>∃ (i:Nat) (ad2:Option Addr) (c2:Nat),(μ=ls.length-i∧i≤ls.length)∧Fr a 40 [(1,.int .i64 f),(6,.slice ad2 (jointN ls f i).length c2),(22,.slice ad ls.length c),(23,.int .i64 ls.length),(24,.int .i64 i)]∧St W w (Sl 5 1 ad2 (jointN ls f i).length c2 (bc (jointN ls f i))::blk qb 234 [.slice ad ls.length c]::Sl 226 1 ad ls.length c ((lbs.zip ls).map lpt)::All Ln (lbs.zip ls)::L)) (ls.length) (⟨0,none,0,⟨rfl,by omega⟩,ha.keep [1,6,22,23,24],hs.sl0 5 1 none⟩) ?_
 clear ha hs
 rintro μ a w ⟨i,ad2,c2,⟨rfl,hi⟩,ha,hs⟩
 refine IF 3 ha hs (λhc1 a ha=>?_) λhc1 a ha=>?_
 ·
  obtain⟨b2,o2,rfl,hr2⟩:=hs.slRd ad (by omega)
  have hil:i<ls.length:=by omega
  have hz:=zip_at hl hil
  obtain⟨hzi,hze⟩:=List.getElem?_eq_some_iff.1 hz
  have hjl:=jointN_len (ls:=ls) (f:=f) (i:=i) hi
  refine RN 3 ha hs λa ha=>?_
  refine SS ha (ld1 ha (hr2 i _ (zp_at hl hil))) λa ha=>?_
  refine RN 2 ha hs λa ha=>?_
  replace hs:=(hs.pick (All Ln (lbs.zip ls))).allOut hzi
  rw[hze]at hs
  refine CL 2 ha hs (line_at hs) λa w ha hs=>?_
  replace hs:=(hze ▸ hs:St W w (Ln (lbs.zip ls)[i]::_)).allPut hzi
  rw[List.set_getElem_self]at hs
  refine RN 7 ha hs λa ha=>?_
  refine st_buildSlice ha rfl hs Tryz.underlying22 Ty.t5 rfl rfl rfl rfl (by decide) (by decide) λb36 a w ha hs ho=>?_
  clear ho
  refine RN 0 ha hs λa ha=>?_
  refine st_append ha rfl hs Tryz.underlying22 Ty.t5 rfl rfl hs.rdAll rfl (bc_one [(ls.getD i []).getD f 0]) (by decide) (by decide) (by omega) λad37 c37 a w ha hs=>?_
  rw[show bc (jointN ls f i)++_=bc (jointN ls f (i+1)) from by rw[jointN_succ hil,bc_app,List.getD_eq_getElem?_getD (l:=ls),List.getElem?_eq_getElem hil];rfl,show (jointN ls f i).length+1=(jointN ls f (i+1)).length from by rw[jointN_len hi,jointN_len (by omega)]]at hs
  rw[show (jointN ls f i).length+1=(jointN ls f (i+1)).length from by rw[jointN_len hi,jointN_len (by omega)]]at ha
  refine RN 3 ha hs λa ha=>?_
  exact⟨ls.length-(i+1),by omega,i+1,_,_,⟨rfl,by omega⟩,ha.keep [1,6,22,23,24],hs.sub⟩
 obtain rfl:i=ls.length:=by omega
 rw[jointN_all]at ha hs
 refine RT 4 ha hs ?_
 exact⟨_,_,rfl,(Qu.mk' (L':=Sl 5 1 ad2 (jointL ls f).length c2 (bc (jointL ls f))::L) hs ad c hl).perm (List.Perm.swap _ _ _)⟩
theorem queue_new {d:Nat}(hs:St W w L)(hn:2≤n∧n≤8)(hd:d≤8):Calls Tryz.prog 170 #[.int .i64 n,.int .i64 d] w λe w'=>∃ qb lbs,e=.returned (pt qb)∧St W w' (Qu qb lbs (List.replicate n (List.replicate d 0))::L):=by
 refine EN Tryz.func170 Tryz.ntmps170 rfl rfl λa ha=>?_
 refine BX 4 ha hs λb7 a w ha hs=>?_
 refine RN 6 ha hs λa ha=>?_
 rw[show min (max (n:Int) 2) 8=(n:Int) from by omega]at ha
 refine RN 1 ha hs λa ha=>?_
 replace hs:=hs.sl0 226 1 none
 replace hs:=St.allNil (f:=Ln) hs
 refine wp_loop_ghost (λμ a w=>∃ (i:Nat) (xs:List Lx) (ad:Option Addr) (c:Nat),(μ=n-i∧i≤n∧xs.map (·.2)=List.replicate i (List.replicate d 0))∧Fr a 26 [(1,.int .i64 d),(5,pt b7),(10,.int .i64 n),(11,.int .i64 i)]∧St W w (blk b7 234 [.slice ad i c]::Sl 226 1 ad i c (xs.map lpt)::All Ln xs::L)) (n) (⟨0,[],none,0,⟨rfl,by omega,rfl⟩,ha.keep [1,5,10,11],(hs.sub:St W w (blk b7 234 [.slice none 0 0]::Sl 226 1 none 0 0 []::All Ln []::L))⟩) ?_
 clear ha hs
 rintro μ a w ⟨i,xs,ad,c,⟨rfl,hi,hxs⟩,ha,hs⟩
 refine IF 3 ha hs (λhc0 a ha=>?_) λhc0 a ha=>?_
 ·
  refine DWC 1 (λw0 w'=>Rd w' b7 0 [.slice ad i c]) [6,7] [0,1,2,3,5,3004,1006,1007,1008,9,10,1011] ha hs λa w ha hs hH=>?_
  have hC:=hH.at w hs.rdAll
  refine RH 5 ha hs hH hC λa ha=>?_
  refine QH ha (λw hc=>ld1 ha (hc 0 _ rfl)) hC λa ha=>?_
  refine RH 0 ha hs hH hC λa ha=>?_
  refine CL1 0 ha hs (line_new hs hd) λlb a w ha hs=>?_
  replace hC:=hH.at w hs.rdAll
  refine RH 0 ha hs hH hC λa ha=>?_
  refine st_buildSlice ha rfl hs Tryz.underlying232 Ty.t226 rfl rfl rfl rfl (by decide) (by decide) λb20 a w ha hs ho=>?_
  clear ho
  replace hC:=hH.at w hs.rdAll
  refine RH 0 ha hs hH hC λa ha=>?_
  refine st_append ha rfl hs Tryz.underlying232 Ty.t226 rfl rfl hs.rdAll rfl (by simp[Value.oneCell']) (by decide) (by decide) (by omega) λad21 c21 a w ha hs=>?_
  rw[show List.map lpt xs++_=List.map lpt (xs++[(lb,List.replicate d 0)]) from by rw[List.map_append];rfl]at hs
  refine ST 2 ha hs (λa w ha hs=>?_)
  refine RN 2 ha hs λa ha=>?_
  have hs2:=St.allPush (x:=(lb,List.replicate d 0)) (hs.sub (M:=Ln (lb,List.replicate d 0)::All Ln xs::blk b7 234 [.slice ad21 (i+1) c21]::Sl 226 1 ad21 (i+1) c21 ((xs++[(lb,List.replicate d 0)]).map lpt)::L))
  exact⟨n-(i+1),by omega,i+1,xs++[(lb,List.replicate d 0)],ad21,c21,⟨rfl,by omega,by rw[List.map_append,hxs,List.replicate_succ'];rfl⟩,ha.keep [1,5,10,11],hs2.sub⟩
 obtain rfl:i=n:=by omega
 refine RT 3 ha hs ?_
 have hxl:xs.length=i:=by rw[← List.length_map (f:=(·.2)),hxs,List.length_replicate]
 have hz:(xs.map (·.1)).zip (List.replicate i (List.replicate d 0))=xs:=by
   rw[← hxs]
   clear hxs hs ha hxl
   induction xs with
   | nil=>rfl
   | cons x xs ih=>rw[List.map_cons,List.map_cons,List.zip_cons_cons,ih]
 have hll:(List.replicate i (List.replicate d (0:UInt8))).length=i:=List.length_replicate
 refine⟨b7,xs.map (·.1),rfl,?_⟩
 refine Qu.close (ad:=ad) (c:=c) ?_ (by rw[List.length_map,hxl,hll])
 rw[hll,hz];exact hs
end
end
end Go.Proofs.YtdilfdkendjjhaaGreat
