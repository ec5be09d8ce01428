/- Lines of presses: input.New, Len, At, Add, Put, From, All. -/
import Derived.Test.YtagpkhbkdbaigaaGreatEnc
import Derived.Test.YtagpkhbkdbaigaaGreatLinP
import Derived.Test.YtagpkhbkdbaigaaGreatMake
namespace Go.Proofs.YtagpkhbkdbaigaaGreat
open Go.RowKit
set_option linter.unusedVariables false
set_option linter.unusedSimpArgs false
set_option maxRecDepth 10000
set_option synthInstance.maxSize 4000
set_option synthInstance.maxHeartbeats 400000
abbrev Lx:=Nat × List UInt8
def Ln (x : Lx) : SP:=fun h=>∃ (ad : Option Addr) (c : Nat),sepL [blk x.1 169 [.slice ad x.2.length c],Sl 5 1 ad x.2.length c (bc x.2)] h
section
variable {W w : World} {L L' R : List SP} {n c m lb : Nat} {ad : Option Addr} {l bs : List UInt8} {x : UInt8}
theorem Ln.open (hs : St W w (Ln (lb,l)::L)) : ∃ (ad : Option Addr) (c : Nat),St W w (blk lb 169 [.slice ad l.length c]::Sl 5 1 ad l.length c (bc l)::L):=by
 obtain ⟨ad,_,hs⟩:=hs.exi (p:=fun _=>True) (B:=fun ad h=>∃ c,sepL [blk lb 169 [.slice ad l.length c],Sl 5 1 ad l.length c (bc l)] h) fun _ ⟨ad,c,h⟩=>⟨ad,trivial,c,h⟩
 obtain ⟨c,_,hs⟩:=hs.exi (p:=fun _=>True) (B:=fun c h=>sepL [blk lb 169 [.slice ad l.length c],Sl 5 1 ad l.length c (bc l)] h) fun _ ⟨c,h⟩=>⟨c,trivial,h⟩
 exact ⟨ad,c,hs.open (M:=[_,_]) fun _ h=>h⟩
theorem Ln.close (hs : St W w (blk lb 169 [.slice ad l.length c]::Sl 5 1 ad l.length c (bc l)::L)) : St W w (Ln (lb,l)::L) :=
 St.shut (M:=[_,_]) hs fun _ h=>⟨ad,c,h⟩
theorem Ln.mk' (hs : St W w L) (ad : Option Addr) (c : Nat) [k : Arr L (blk lb 169 [.slice ad l.length c]::Sl 5 1 ad l.length c (bc l)::L') R] : St W w (Ln (lb,l)::L'):=Ln.close (ad:=ad) (c:=c) hs.sub
theorem made8 (d : Nat) : (madeCells (Value.int .u8 0).cells (d*1)).toList=bc (List.replicate d 0):=by
 apply List.ext_getElem?
 intro i
 by_cases h : i < d
 · rw [bc_at (by simpa using h)]
   rw [madeCells,Array.getElem?_toList,Array.getElem?_map,Array.getElem?_range]
   simp [h,Value.cells,Nat.mod_one]
 · rw [List.getElem?_eq_none (by simp [madeCells]; omega),List.getElem?_eq_none (by rw [bc_len]; simp; omega)]
theorem St.slWhole {b e sz m : Nat} {cs : List Value} (hs : St W w (blk b e cs::L)) (h : cs.length=m*sz) : St W w (Sl e sz (some ⟨b,0,none⟩) m m cs::L) :=
 St.slShut (pre:=[]) (post:=[]) (n:=m) (c:=m) (sz:=sz) (cs:=cs) (by simpa using hs) h (Nat.le_refl _) (by rw [Nat.sub_self,Nat.zero_mul]; exact Nat.zero_le _)
theorem RdB.cutLH {w : World} {ad : Option Addr} {bs : List UInt8} {c lo n : Nat} (h : RdB w ad bs.length bs) (hl : lo+n≤bs.length) (hc : bs.length≤c) : RdB w (cutAd ad lo c 1) n ((bs.drop lo).take n) :=
 (h.cutL (lo:=lo) (by omega) hc).cutH (by rw [List.length_drop]; omega)
theorem line_new {d : Nat} (hs : St W w L) (hd : d≤8) : Calls Tryz.prog 122 #[.int .i64 d] w fun e w'=>∃ lb,e=.returned (.pointer (some ⟨lb,0,none⟩))∧St W w' (Ln (lb,List.replicate d 0)::L):=by
 refine calls_enter Tryz.func122 rfl Tryz.ntmps122 (Nat.le_of_ble_eq_true rfl) ?_
 intro a ha
 replace ha : Fr a 9 [(0,_)]:=ha
 refine WS<|WR ?_
 refine S1 ha fun a ha=>?_
 refine LN<|TN<|WS<|WR ?_
 refine S1 ha fun a ha=>?_
 refine SK (st_set ha rfl (ex_max ha) rfl fun a ha=>?_)
 refine SK (st_set ha rfl (ex_min ha) rfl fun a ha=>?_)
 rw [show min (max (d : Int) 0) 8=(d : Int) from by omega] at ha
 refine SK (st_makeSlice ha rfl hs Tryz.underlying22 Ty.t5 rfl (by omega) (by omega) fun b6 a w ha hs ho=>?_)
 clear ho
 rw [made8] at hs
 replace hs:=hs.slWhole (m:=d) (sz:=1) (by rw [bc_len,List.length_replicate,Nat.mul_one])
 refine SK (st_set ha rfl (ex_build ha Ty.b169 Ty.t169 rfl) rfl fun a ha=>?_)
 refine SK (st_box ha rfl hs rfl fun b8 a w ha hs ho=>?_)
 clear ho
 refine S1d ha fun a ha=>?_
 refine LN ?_
 replace hs : St W w (blk b8 169 [.slice (some ⟨b6,0,none⟩) (List.replicate d (0 : UInt8)).length d]::Sl 5 1 (some ⟨b6,0,none⟩) (List.replicate d (0 : UInt8)).length d (bc (List.replicate d 0))::L):=by
   rw [List.length_replicate]; exact hs
 refine TN<|wp_ret ?_
 refine ret1 ha rfl ?_
 exact ⟨b8,rfl,Ln.close hs⟩
theorem line_len (hs : St W w (Ln (lb,l)::L)) : Calls Tryz.prog 62 #[.pointer (some ⟨lb,0,none⟩)] w fun e w'=>e=.returned (.int .i64 l.length)∧St W w' (Ln (lb,l)::L):=by
 obtain ⟨ad,c,hs⟩:=Ln.open hs
 refine calls_enter Tryz.func62 rfl Tryz.ntmps62 (Nat.le_of_ble_eq_true rfl) ?_
 intro a ha
 replace ha : Fr a 10 [(0,_)]:=ha
 refine WS<|WR ?_
 refine S1 ha fun a ha=>?_
 refine LN<|TN<|WS<|WS<|WR ?_
 iterate 2 (refine S1 ha fun a ha=>?_)
 refine LN<|TN<|WFa ha<|WK<|TN<|WS<|WR ?_
 iterate 3 (refine S1 ha fun a ha=>?_)
 refine SL ha (hs.rd1 rfl) fun a ha=>?_
 refine S1 ha fun a ha=>?_
 refine S1d ha fun a ha=>?_
 refine LN<|TN<|wp_ret ?_
 refine ret1 ha rfl ?_
 exact ⟨rfl,Ln.close hs⟩
theorem line_at {f : Nat} (hs : St W w (Ln (lb,l)::L)) : Calls Tryz.prog 125 #[.pointer (some ⟨lb,0,none⟩),.int .i64 f] w fun e w'=>e=.returned (.tuple #[.int .u8 ((l.getD f 0).toNat : Nat),.bool (decide (f < l.length))])∧St W w' (Ln (lb,l)::L):=by
 refine calls_enter Tryz.func125 rfl Tryz.ntmps125 (Nat.le_of_ble_eq_true rfl) ?_
 intro a ha
 replace ha : Fr a 21 [(0,_),(1,_)]:=ha
 refine WS<|WR ?_
 iterate 2 (refine S1 ha fun a ha=>?_)
 refine LN<|TN<|WS<|WS<|WR ?_
 iterate 3 (refine S1 ha fun a ha=>?_)
 rw [decide_eq_false (by omega)] at ha
 iterate 2 (refine S1g (s:=8) ha fun a ha=>?_)
 refine SK (st_call ha (wgT ha rfl (s:=8)) Ty.c62 rfl (line_len hs) ?_); clear ha hs
 rintro e w ⟨rfl,hs⟩
 refine ⟨_,rfl,?_⟩
 intro a ha
 refine S1g (s:=8) ha fun a ha=>?_
 refine PF ha fun a ha=>?_
 refine LN<|TN ?_
 refine WI ha (fun hc0=>?_) (fun hc0=>?_)
 ·
  refine WS<|WR ?_
  iterate 2 (refine S1d ha fun a ha=>?_)
  refine LN<|TN<|wp_ret<|TR ?_
  refine ret2 ha rfl ?_
  exact ⟨by rw [List.getD_eq_getElem?_getD,List.getElem?_eq_none (by omega),decide_eq_false (by omega)]; rfl,hs⟩
 ·
  obtain ⟨ad,c,hs⟩:=Ln.open hs
  have hfl : f < l.length:=by omega
  obtain ⟨b,o,rfl,hr⟩:=(hs.rdB ad l rfl rfl).get (by omega)
  refine WK<|TN<|WS<|WR ?_
  iterate 3 (refine S1 ha fun a ha=>?_)
  refine SL ha (hs.rd1 rfl) fun a ha=>?_
  refine S1 ha fun a ha=>?_
  refine SK (st_set ha rfl (ex_indexAddr ha Tryz.underlying22 Ty.t5 (by omega)) rfl fun a ha=>?_)
  rw [Nat.mul_one] at ha
  refine SL ha (hr f _ (bc_atD hfl)) fun a ha=>?_
  iterate 2 (refine S1d ha fun a ha=>?_)
  refine LN<|TN<|wp_ret ?_
  refine ret2 ha rfl ?_
  exact ⟨by rw [decide_eq_true hfl],Ln.close hs⟩
theorem line_add (hs : St W w (Ln (lb,l)::L)) (hl : l.length≤1000) : Calls Tryz.prog 88 #[.pointer (some ⟨lb,0,none⟩),.int .u8 (x.toNat : Nat)] w fun e w'=>e=.returned (.int .i64 (if l.length < 1000 then 0 else 4))∧St W w' (Ln (lb,if l.length < 1000 then l++[x] else l)::L):=by
 obtain ⟨ad,c,hs⟩:=Ln.open hs
 refine calls_enter Tryz.func88 rfl Tryz.ntmps88 (Nat.le_of_ble_eq_true rfl) ?_
 intro a ha
 replace ha : Fr a 25 [(0,_),(1,_)]:=ha
 refine WS<|WR ?_
 refine S1 ha fun a ha=>?_
 refine LN<|TN<|WS<|wp_block<|WS<|WR ?_
 iterate 3 (refine S1 ha fun a ha=>?_)
 refine LN<|TN<|WFa ha<|WS<|WR ?_
 iterate 3 (refine S1 ha fun a ha=>?_)
 refine SL ha (hs.rd1 rfl) fun a ha=>?_
 iterate 3 (refine S1 ha fun a ha=>?_)
 refine LN<|TN ?_
 refine WI ha (fun hc1=>?_) (fun hc1=>?_)
 ·
  refine WS<|WR ?_
  refine S1d ha fun a ha=>?_
  refine LN<|TN<|wp_ret<|BR<|TR ?_
  refine ret1 ha rfl ?_
  exact ⟨by rw [if_neg (by omega)],by rw [if_neg (by omega)]; exact Ln.close hs⟩
 ·
  refine WK<|BN<|TN<|WS<|WR ?_
  iterate 4 (refine S1 ha fun a ha=>?_)
  refine SL ha (hs.rd1 rfl) fun a ha=>?_
  refine S1 ha fun a ha=>?_
  refine SK (st_buildSlice ha rfl hs Tryz.underlying22 Ty.t5 rfl rfl rfl rfl (by decide) (by decide) fun b21 a w ha hs ho=>?_)
  clear ho
  refine SK (st_append ha rfl hs Tryz.underlying22 Ty.t5 rfl rfl hs.rdAll rfl (bc_one [x]) (by decide) (by decide) (by omega) fun ad22 c22 a w ha hs=>?_)
  rw [show bc l++_=bc (l++[x]) from (bc_app l [x]).symm] at hs
  iterate 2 (refine S1 ha fun a ha=>?_)
  refine SK (st_store ha rfl hs Ty.t22 rfl (by simp) fun a w ha hs=>?_)
  refine LN ?_
  rw [show l.length+1=(l++[x]).length from by simp] at hs
  replace hs:=hs.sub (M:=blk lb 169 [.slice ad22 (l++[x]).length c22]::Sl 5 1 ad22 (l++[x]).length c22 (bc (l++[x]))::L)
  refine TN<|WS<|WR ?_
  refine S1d ha fun a ha=>?_
  refine LN<|TN<|wp_ret ?_
  refine ret1 ha rfl ?_
  exact ⟨by rw [if_pos (by omega)],by rw [if_pos (by omega)]; exact Ln.close hs⟩
theorem line_put {f : Nat} (hs : St W w (Ln (lb,l)::L)) (hl : l.length≤1000) (hb : bs.length≤65536) (hp : ∀ w',St W w' L→RdB w' ad bs.length bs) :
   Calls Tryz.prog 91 #[.pointer (some ⟨lb,0,none⟩),.int .i64 f,.slice ad bs.length c] w fun e w'=>∃ n er : Int,e=.returned (.tuple #[.int .i64 n,.int .i64 er])∧St W w' (Ln (lb,putLn l f bs)::L):=by
 refine calls_enter Tryz.func91 rfl Tryz.ntmps91 (Nat.le_of_ble_eq_true rfl) ?_
 intro a ha
 replace ha : Fr a 51 [(0,_),(1,_),(2,_)]:=ha
 refine WS<|WR ?_
 iterate 2 (refine S1 ha fun a ha=>?_)
 refine LN<|TN<|WS<|wp_block<|WS<|WR ?_
 iterate 3 (refine S1 ha fun a ha=>?_)
 refine LN<|TN<|WFa ha<|WS<|WR ?_
 iterate 3 (refine S1 ha fun a ha=>?_)
 refine LN<|TN ?_
 rw [decide_eq_false (by omega)] at ha
 refine WFa ha<|WS ?_
 obtain ⟨adl,cl,hs⟩:=Ln.open hs
 refine WR ?_
 iterate 4 (refine S1 ha fun a ha=>?_)
 refine SL ha (hs.rd1 rfl) fun a ha=>?_
 iterate 3 (refine S1 ha fun a ha=>?_)
 refine LN<|TN ?_
 refine WI ha (fun hc2=>?_) (fun hc2=>?_)
 ·
  replace hs:=Ln.close hs
  refine WS<|WR ?_
  iterate 2 (refine S1d ha fun a ha=>?_)
  refine LN<|TN<|wp_ret<|BR<|TR ?_
  refine ret2 ha rfl ?_
  exact ⟨_,_,rfl,by rw [putLn,if_pos (by omega)]; exact hs⟩
 ·
  refine WK<|BN<|TN<|WS<|WR ?_
  refine S1 ha fun a ha=>?_
  refine LN<|TN<|WS<|WS<|WR ?_
  iterate 3 (refine S1 ha fun a ha=>?_)
  refine SL ha (hs.rd1 rfl) fun a ha=>?_
  iterate 2 (refine S1 ha fun a ha=>?_)
  refine SK (st_set ha rfl (ex_subI ha (by omega) (by omega)) rfl fun a ha=>?_)
  rw [show ((l.length : Nat) : Int) - (f : Int)=((l.length - f : Nat) : Int) from by omega] at ha
  refine S1 ha fun a ha=>?_
  refine LN ?_
  replace hs:=Ln.close hs
  have hfl : f≤l.length:=by omega
  refine TN<|wp_block ?_
  refine wp_loop_ghost (fun μ a w=>∃ (i : Nat),(μ=bs.length - i∧l.length - f≤i∧(i≤bs.length∨i=l.length - f)∧l.length+(i - (l.length - f))≤1000)∧Fr a 51 [(0,.pointer (some ⟨lb,0,none⟩)),(2,.slice ad bs.length c),(8,.int .i64 (i - (l.length - f) : Nat)),(9,.int .i64 i)]∧St W w (Ln (lb,l++(bs.drop (l.length - f)).take (i - (l.length - f)))::L)) (bs.length - (l.length - f)) ?_ ?_
  · exact ⟨l.length - f,⟨rfl,Nat.le_refl _,.inr rfl,by omega⟩,by rw [Nat.sub_self]; exact ha.keep [0,2,8,9],by rw [Nat.sub_self,List.take_zero,List.append_nil]; exact hs⟩
  ·
   clear ha hs
   rintro μ a w ⟨i,⟨rfl,hi,hib,hi1⟩,ha,hs⟩
   refine WS<|WS<|WR ?_
   iterate 4 (refine S1 ha fun a ha=>?_)
   refine LN<|TN ?_
   refine WI ha (fun hc3=>?_) (fun hc3=>?_)
   ·
    obtain ⟨bb,oo,rfl,hr⟩:=(hp _ hs.tail).get (by omega)
    have hil : i < bs.length:=by omega
    have hlen : (l++(bs.drop (l.length - f)).take (i - (l.length - f))).length=l.length+(i - (l.length - f)):=by rw [List.length_append,List.length_take,List.length_drop]; omega
    refine WK<|TN<|WS<|wp_block<|WS<|WS<|WR ?_
    iterate 3 (refine S1 ha fun a ha=>?_)
    refine SK (st_set ha rfl (ex_indexAddr ha Tryz.underlying22 Ty.t5 (by omega)) rfl fun a ha=>?_)
    rw [Nat.mul_one] at ha
    refine SL ha (hr i _ (bc_at hil)) fun a ha=>?_
    refine SK (st_call ha rfl Ty.c88 rfl (line_add hs (by rw [hlen]; omega)) ?_); clear ha hs
    rintro e w ⟨rfl,hs⟩
    refine ⟨_,rfl,?_⟩
    intro a ha
    rw [hlen] at ha hs
    refine S1 ha fun a ha=>?_
    refine LN<|TN<|WS<|WR ?_
    iterate 2 (refine S1 ha fun a ha=>?_)
    refine LN<|TN ?_
    refine WI ha (fun hc4=>?_) (fun hc4=>?_)
    ·
     have h9 : ¬ l.length+(i - (l.length - f)) < 1000:=fun h=>hc4 (if_pos h)
     rw [if_neg h9] at hs
     refine WS<|WR ?_
     iterate 4 (refine S1 ha fun a ha=>?_)
     refine LN<|TN<|wp_ret<|TR<|BR<|TR<|TR<|BR<|TR ?_
     refine ret2 ha rfl ?_
     exact ⟨_,_,rfl,by rw [putLn,if_neg (by omega),show 1000 - l.length=i - (l.length - f) from by omega]; exact hs⟩
    ·
     have h9 : l.length+(i - (l.length - f)) < 1000:=Decidable.of_not_not fun h=>by rw [if_neg h] at hc4; cases hc4
     rw [if_pos h9] at hs
     refine WK<|TN<|WR ?_
     refine S1 ha fun a ha=>?_
     refine SK (st_set ha rfl (ex_addI ha (by omega) (by omega)) rfl fun a ha=>?_)
     refine S1d ha fun a ha=>?_
     refine LN<|BN<|TN<|WR ?_
     refine S1 ha fun a ha=>?_
     refine SK (st_set ha rfl (ex_addI ha (by omega) (by omega)) rfl fun a ha=>?_)
     refine S1d ha fun a ha=>?_
     refine LN<|TN ?_
     exact ⟨bs.length - (i+1),by omega,i+1,⟨rfl,by omega,by omega,by omega⟩,by rw [show ((i+1 - (l.length - f) : Nat) : Int)=((i - (l.length - f) : Nat) : Int)+1 from by omega]; exact ha.keep [0,2,8,9],by rw [putLn_add hfl hil hi h9]; exact hs⟩
   ·
    refine wp_exit<|TE<|TE<|blk_e<|TN<|WS<|WR ?_
    iterate 3 (refine S1 ha fun a ha=>?_)
    refine LN<|TN<|wp_ret ?_
    refine ret2 ha rfl ?_
    exact ⟨_,_,rfl,by rw [putLn,if_neg (by omega),List.take_of_length_le (by rw [List.length_drop]; omega)]; rw [List.take_of_length_le (by rw [List.length_drop]; omega)] at hs; exact hs⟩
theorem line_from {f k : Nat} (hs : St W w (Ln (lb,l)::L)) (hl : l.length≤1000) (hf : f≤1000) (hk : 1≤k∧k≤1000) :
   Calls Tryz.prog 139 #[.pointer (some ⟨lb,0,none⟩),.int .i64 f,.int .i64 k] w fun e w'=>∃ ad' c',e=.returned (.slice ad' ((l.drop f).take k).length c')∧St W w' (Sl 5 1 ad' ((l.drop f).take k).length c' (bc ((l.drop f).take k))::Ln (lb,l)::L):=by
 have htl : ((l.drop f).take k).length=min l.length (f+k) - f:=by rw [List.length_take,List.length_drop]; omega
 refine calls_enter Tryz.func139 rfl Tryz.ntmps139 (Nat.le_of_ble_eq_true rfl) ?_
 intro a ha
 replace ha : Fr a 36 [(0,_),(1,_),(2,_)]:=ha
 refine WS<|WR ?_
 refine S1 ha fun a ha=>?_
 refine LN<|TN<|WS<|WS<|WR ?_
 iterate 3 (refine S1 ha fun a ha=>?_)
 rw [decide_eq_false (by omega)] at ha
 iterate 2 (refine S1g (s:=9) ha fun a ha=>?_)
 refine SK (st_call ha (wgT ha rfl (s:=9)) Ty.c62 rfl (line_len hs) ?_); clear ha hs
 rintro e w ⟨rfl,hs⟩
 refine ⟨_,rfl,?_⟩
 intro a ha
 refine S1g (s:=9) ha fun a ha=>?_
 refine PF ha fun a ha=>?_
 refine S1 ha fun a ha=>?_
 refine ha.by (s:=15) (fun hg8 ha=>?_) (fun hg8 ha=>?_)
 ·
  have hz : (l.drop f).take k=[]:=by rw [List.drop_eq_nil_of_le (by omega),List.take_nil]
  iterate 2 (refine SO (s:=15) ha fun a ha=>?_)
  refine PT ha fun a ha=>?_
  refine LN<|TN<|WTr ha<|WS<|WR ?_
  refine S1d ha fun a ha=>?_
  refine LN<|TN<|wp_ret<|TR ?_
  refine ret1 ha rfl ?_
  rw [hz]; exact ⟨_,_,rfl,hs.sl0 _ _ none⟩
 ·
  iterate 2 (refine S1g (s:=15) ha fun a ha=>?_)
  refine PF ha fun a ha=>?_
  refine LN<|TN ?_
  rw [decide_eq_false (by omega)] at ha
  refine WFa ha<|WK<|TN<|WS ?_
  obtain ⟨adl,cl,hs⟩:=Ln.open hs
  have hcl:=(hs.sl adl).2
  refine DW (m:=18) (Old w.drew) [8,9,14] [0,1,2,4,5,6,7,10,11,12,13,3,8,9,14,15,16,17] Ty.mixed (pk_then pk_body) (fun hpk=>?_)
  replace hs:=hs.drew
  have hC:=Old.refl w.drew
  generalize w.drew=w at hs hC hpk ⊢
  iterate 9 (refine DP hpk ha rfl fun a ha=>?_)
  refine DQ hpk ha rfl rfl (fun w=>ex_min ha) fun a ha=>?_
  rw [show min (k : Int) 1000=(k : Int) from by omega] at ha
  refine DQ hpk ha rfl rfl (fun w=>ex_addI ha (by omega) (by omega)) fun a ha=>?_
  refine DL hpk ha rfl (fun w hc=>hc.cell (hs.rd1 rfl)) hC fun a ha=>?_
  refine D1 rfl (st_set ha rfl (ex_load1 ha Tryz.underlying22 rfl (hs.rd1 rfl)) rfl fun a ha=>?_)
  refine ⟨fun _=>hC,?_⟩
  refine D1 rfl (st_set ha rfl (ex_len ha Tryz.underlying22) rfl fun a ha=>?_)
  refine ⟨fun _=>hC,?_⟩
  refine D1 rfl (st_set ha rfl (ex_min ha) rfl fun a ha=>?_)
  refine ⟨fun _=>hC,?_⟩
  rw [show min (l.length : Int) ((f : Int)+(k : Int))=((min l.length (f+k) : Nat) : Int) from by omega] at ha
  refine DQ hpk ha rfl rfl (fun w=>ex_sliceLH ha Tryz.underlying22 Ty.t5 (by omega) (by omega)) fun a ha=>?_
  refine D1 rfl (st_call ha rfl Ty.c35 rfl (bytes_clone (bs:=(l.drop f).take k) hs (fun w' hw=>by have h1:=(hw.rdB adl l rfl rfl).cutLH (c:=cl) (lo:=f) (n:=min l.length (f+k) - f) (by omega) hcl; rw [show (l.drop f).take (min l.length (f+k) - f)=(l.drop f).take k from by rw [← htl,List.take_eq_take_iff,List.length_take,List.length_drop]; omega] at h1; exact h1) (by omega)) ?_); clear ha hs
  rintro e w ⟨ad3,c3,rfl,hs⟩
  refine ⟨_,rfl,?_⟩
  intro a ha
  refine ⟨fun h=>absurd h (by decide),?_⟩
  replace ha:=ha.del 6
  refine DP hpk ha rfl fun a ha=>?_
  refine DD<|TN<|wp_ret ?_
  refine ret1 ha rfl ?_
  exact ⟨ad3,c3,by rw [htl],by rw [htl]; exact (Ln.mk' (L':=Sl 5 1 ad3 (min l.length (f+k) - f) c3 (bc ((l.drop f).take k))::L) hs adl cl).perm (List.Perm.swap _ _ _)⟩
theorem line_all (hs : St W w (Ln (lb,l)::L)) (hl : l.length≤1000) :
   Calls Tryz.prog 104 #[.pointer (some ⟨lb,0,none⟩)] w fun e w'=>∃ ad' c',e=.returned (.slice ad' l.length c')∧St W w' (Sl 5 1 ad' l.length c' (bc l)::Ln (lb,l)::L):=by
 have hta : (l.drop 0).take 1000=l:=by rw [List.drop_zero,List.take_of_length_le hl]
 refine calls_enter Tryz.func104 rfl Tryz.ntmps104 (Nat.le_of_ble_eq_true rfl) ?_
 intro a ha
 replace ha : Fr a 5 [(0,_)]:=ha
 refine WS<|WR ?_
 refine S1 ha fun a ha=>?_
 refine LN<|TN<|WS<|WR ?_
 refine S1 ha fun a ha=>?_
 refine SK (st_call ha rfl Ty.c139 rfl (line_from (f:=0) (k:=1000) hs hl (by decide) (by decide)) ?_); clear ha hs
 rintro e w ⟨ad3,c3,rfl,hs⟩
 refine ⟨_,rfl,?_⟩
 intro a ha
 rw [hta] at ha hs
 refine S1d ha fun a ha=>?_
 refine LN<|TN<|wp_ret ?_
 refine ret1 ha rfl ?_
 exact ⟨_,_,rfl,hs⟩
end
end Go.Proofs.YtagpkhbkdbaigaaGreat
