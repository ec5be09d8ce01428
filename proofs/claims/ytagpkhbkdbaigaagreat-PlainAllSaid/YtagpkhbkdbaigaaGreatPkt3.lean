/- Packets out of bytes: packet.Decode. -/
import Derived.Test.YtagpkhbkdbaigaaGreatPkt2
namespace Go.Proofs.YtagpkhbkdbaigaaGreat
open Go.RowKit
set_option linter.unusedVariables false
set_option linter.unusedSimpArgs false
set_option maxRecDepth 10000
set_option synthInstance.maxSize 4000
set_option synthInstance.maxHeartbeats 400000
def i64P (x : Int) : Prop := -9223372036854775808≤x∧x≤9223372036854775807
def fourB (l : List UInt8) : Nat:=l.foldl (fun n b=>n*256+b.toNat) 0
theorem fourB_lt : ∀ (l : List UInt8) (a : Nat),l.foldl (fun n b=>n*256+b.toNat) a < (a+1)*256 ^ l.length
 | [],a=>by simp
 | b::l,a=>by
   have h1:=fourB_lt l (a*256+b.toNat)
   have h2:=u8_lt b
   rw [List.foldl_cons,List.length_cons]
   refine Nat.lt_of_lt_of_le h1 ?_
   rw [Nat.pow_succ,Nat.mul_comm (256 ^ l.length) 256,← Nat.mul_assoc]
   exact Nat.mul_le_mul_right _ (by omega)
theorem fourB_four {x : Nat} (h : x < 4294967296) : fourB (fourL x)=x:=by
 have:=fourL_back h
 simpa [fourB,fourL,fourN] using this
theorem fourB_take {l : List UInt8} {i : Nat} (h : i < l.length) : fourB (l.take (i+1))=fourB (l.take i)*256+l[i].toNat:=by
 rw [fourB,List.take_succ_eq_append_getElem h,List.foldl_append]; rfl
theorem fourB_bd (l : List UInt8) (n : Nat) (h : l.length≤n) : fourB l < 256 ^ n:=by
 have:=fourB_lt l 0
 rw [Nat.zero_add,Nat.one_mul] at this
 exact Nat.lt_of_lt_of_le this (Nat.pow_le_pow_right (by decide) h)
theorem shl8 {n : Nat} (h : n < 16777216) (b : UInt8) : IntKind.u32.wrap (((BitVec.ofInt IntKind.u32.bits (IntKind.u32.wrap ((n : Int)*2 ^ 8)) ||| BitVec.ofInt IntKind.u32.bits (b.toNat : Int)).toNat : Nat) : Int)=((n*256+b.toNat : Nat) : Int):=by
 have hb:=u8_lt b
 rw [show IntKind.u32.wrap ((n : Int)*2 ^ 8)=((n*256 : Nat) : Int) from by rw [wrap_u32]; omega,bv32,bv32]
 show IntKind.u32.wrap (((BitVec.ofNat 32 (n*256) ||| BitVec.ofNat 32 b.toNat).toNat : Nat) : Int)=_
 rw [BitVec.toNat_or,BitVec.toNat_ofNat,BitVec.toNat_ofNat,Nat.mod_eq_of_lt (show n*256 < 2 ^ 32 by omega),Nat.mod_eq_of_lt (show b.toNat < 2 ^ 32 by omega),wrap_u32]
 have h1:=Nat.two_pow_add_eq_or_of_lt (i:=8) (b:=b.toNat) hb n
 rw [show n*256=2 ^ 8*n from by omega,← h1]
 omega
structure Rdr (W : World) (L : List SP) (ad : Option Addr) (c : Nat) (rest : List UInt8) : Prop where
 len : rest.length≤65536
 cap : rest.length≤c
 rd : ∀ w',St W w' L→RdB w' ad rest.length rest
section
variable {W w : World} {L L' R : List SP} {n c m rb : Nat} {ad : Option Addr} {bs rest : List UInt8} {p : Pk} {bad : Bool}
theorem Rdr.cut {k : Nat} (h : Rdr W L ad c rest) (hk : k≤rest.length) : Rdr W L (cutAd ad k c 1) (c - k) (rest.drop k) :=
 ⟨by rw [List.length_drop]; have:=h.len; omega,by rw [List.length_drop]; have:=h.cap; omega,fun w' hw=>(h.rd w' hw).cutL hk h.cap⟩
theorem rd_num (hs : St W w (blk rb 194 [.slice ad rest.length c,.bool bad]::L')) (hup : ∀ w',St W w' L'→St W w' L) (hr : Rdr W L ad c rest) :
   Calls Tryz.prog 128 #[.pointer (some ⟨rb,0,none⟩)] w fun e w'=>∃ (x : Int) (ad' : Option Addr) (c' : Nat) (rest' : List UInt8) (bad' : Bool),e=.returned (.int .i64 x)∧i64P x∧Rdr W L ad' c' rest' ∧
     (∀ (n : Int) (r : List UInt8),i64P n→rest=putL (zz n)++r→bad=false→x=n∧rest'=r∧bad'=false)∧St W w' (blk rb 194 [.slice ad' rest'.length c',.bool bad']::L'):=by
 have hlen:=hr.len
 refine calls_enter Tryz.func128 rfl Tryz.ntmps128 (Nat.le_of_ble_eq_true rfl) ?_
 intro a ha
 replace ha : Fr a 41 [(0,_)]:=ha
 refine WS<|WR ?_
 refine S1 ha fun a ha=>?_
 refine LN<|TN<|WS<|WR ?_
 iterate 3 (refine S1 ha fun a ha=>?_)
 refine SL ha (hs.rd1 rfl) fun a ha=>?_
 refine SK (st_call ha rfl Ty.c153 rfl (num_get (bs:=rest) hs (by omega) (fun w' hw=>hr.rd w' (hup _ hw.tail))) ?_); clear ha hs
 rintro e w ⟨x,k,er,rfl,hg,hs⟩
 refine ⟨_,rfl,?_⟩
 intro a ha
 iterate 7 (refine S1 ha fun a ha=>?_)
 refine LN ?_
 have hgk:=hg.2.2.1
 have hge:=hg.2.1
 have hkl : k≤rest.length:=by
   by_cases h0 : er=0
   · have:=hgk h0; omega
   · have:=(hg.2.2.2.1 h0).1; omega
 refine TN ?_
 refine wp_seq_cut (M:=fun a w=>∃ (z : Bool) (ad' : Option Addr) (c' : Nat) (rest' : List UInt8),(er=0→bad=false→z=false)∧Rdr W L ad' c' rest'∧(z=false→rest'=rest.drop k)∧Fr a 41 [(3,.int .i64 x)]∧St W w (blk rb 194 [.slice ad' rest'.length c',.bool z]::L')) ?_ ?_
 ·
  refine wp_seq_cut (M:=fun a w=>∃ z : Bool,(bad=true→z=true)∧(er=0→bad=false→z=false)∧Fr a 41 [(0,.pointer (some ⟨rb,0,none⟩)),(3,.int .i64 x),(4,.int .i64 k)]∧St W w (blk rb 194 [.slice ad rest.length c,.bool z]::L')) ?_ ?_
  ·
   refine WR ?_
   iterate 4 (refine S1 ha fun a ha=>?_)
   refine SL ha (hs.rd1 rfl) fun a ha=>?_
   refine S1 ha fun a ha=>?_
   refine ha.by (s:=20) (fun hg5 ha=>?_) (fun hg5 ha=>?_)
   ·
    iterate 2 (refine SO (s:=20) ha fun a ha=>?_)
    refine PT ha fun a ha=>?_
    iterate 2 (refine S1 ha fun a ha=>?_)
    refine SK (st_store ha rfl hs Ty.t4 rfl (by simp) fun a w ha hs=>?_)
    refine LN<|TN ?_
    exact ⟨_,fun _=>rfl,fun _ h=>(by rw [h] at hg5; cases hg5),ha.keep [0,3,4],hs⟩
   ·
    iterate 2 (refine S1g (s:=20) ha fun a ha=>?_)
    refine PF ha fun a ha=>?_
    iterate 2 (refine S1 ha fun a ha=>?_)
    refine SK (st_store ha rfl hs Ty.t4 rfl (by simp) fun a w ha hs=>?_)
    refine LN<|TN ?_
    exact ⟨_,fun h=>(by rw [h] at hg5; cases hg5),fun h _=>decide_eq_false (by omega),ha.keep [0,3,4],hs⟩
  ·
   clear ha; (try clear hs)
   intro a w hcut
   obtain ⟨z,hz1,hz0,ha,hs⟩:=hcut
   refine WS<|WR ?_
   iterate 3 (refine S1 ha fun a ha=>?_)
   refine SL ha (hs.rd1 rfl) fun a ha=>?_
   refine S1 ha fun a ha=>?_
   refine LN<|TN ?_
   refine WI ha (fun hc0=>?_) (fun hc0=>?_)
   ·
    have hz : z=false:=hc0
    refine WR ?_
    iterate 4 (refine S1 ha fun a ha=>?_)
    refine SL ha (hs.rd1 rfl) fun a ha=>?_
    refine S1 ha fun a ha=>?_
    refine SK (st_set ha rfl (ex_sliceL ha Tryz.underlying22 Ty.t5 (by omega)) rfl fun a ha=>?_)
    rw [show rest.length - k=(rest.drop k).length from by simp] at ha
    iterate 2 (refine S1 ha fun a ha=>?_)
    refine SK (st_store ha rfl hs Ty.t22 rfl (by simp) fun a w ha hs=>?_)
    refine LN<|TN ?_
    exact ⟨_,_,_,_,hz0,hr.cut hkl,fun _=>rfl,ha.keep [3],hs⟩
   ·
    refine WK<|TN ?_
    exact ⟨_,_,_,_,hz0,hr,fun h=>(by rw [h] at hc0; cases hc0),ha.keep [3],hs⟩
 ·
  clear ha; (try clear hs)
  intro a w hcut
  obtain ⟨z,ad',c',rest',hz0,hr',hd',ha,hs⟩:=hcut
  refine WS<|WR ?_
  iterate 2 (refine S1 ha fun a ha=>?_)
  refine LN<|TN<|wp_ret ?_
  refine ret1 ha rfl ?_
  refine ⟨x,ad',c',rest',z,rfl,hg.1,hr',fun n r hn e hb=>?_,hs⟩
  obtain ⟨rfl,rfl,rfl⟩:=hg.2.2.2.2 n r hn.1 hn.2 e
  have hz:=hz0 rfl hb
  refine ⟨rfl,?_,hz⟩
  rw [hd' hz,e,List.drop_left]
theorem rd_four (hs : St W w (blk rb 194 [.slice ad rest.length c,.bool bad]::L')) (hup : ∀ w',St W w' L'→St W w' L) (hr : Rdr W L ad c rest) :
   Calls Tryz.prog 129 #[.pointer (some ⟨rb,0,none⟩)] w fun e w'=>∃ (x : Nat) (ad' : Option Addr) (c' : Nat) (rest' : List UInt8) (bad' : Bool),e=.returned (.int .u32 x)∧x < 4294967296∧Rdr W L ad' c' rest' ∧
     (∀ (n : Nat) (r : List UInt8),n < 4294967296→rest=fourL n++r→bad=false→x=n∧rest'=r∧bad'=false)∧St W w' (blk rb 194 [.slice ad' rest'.length c',.bool bad']::L'):=by
 have hlen:=hr.len
 have hcap:=hr.cap
 refine calls_enter Tryz.func129 rfl Tryz.ntmps129 (Nat.le_of_ble_eq_true rfl) ?_
 intro a ha
 replace ha : Fr a 50 [(0,_)]:=ha
 refine WS<|WR ?_
 refine S1 ha fun a ha=>?_
 refine LN<|TN<|WS ?_
 refine wp_seq_cut (M:=fun a w=>∃ z : Bool,(z=true ↔ (bad=true∨rest.length < 4))∧Fr a 50 [(0,.pointer (some ⟨rb,0,none⟩))]∧St W w (blk rb 194 [.slice ad rest.length c,.bool z]::L')) ?_ ?_
 ·
  refine WR ?_
  iterate 4 (refine S1 ha fun a ha=>?_)
  refine SL ha (hs.rd1 rfl) fun a ha=>?_
  refine S1 ha fun a ha=>?_
  refine ha.by (s:=11) (fun hg5 ha=>?_) (fun hg5 ha=>?_)
  ·
   iterate 6 (refine SO (s:=11) ha fun a ha=>?_)
   refine PT ha fun a ha=>?_
   iterate 2 (refine S1 ha fun a ha=>?_)
   refine SK (st_store ha rfl hs Ty.t4 rfl (by simp) fun a w ha hs=>?_)
   refine LN<|TN ?_
   exact ⟨_,⟨fun _=>.inl hg5,fun _=>rfl⟩,ha.keep [0],hs⟩
  ·
   iterate 3 (refine S1g (s:=11) ha fun a ha=>?_)
   refine SLg (s:=11) ha (hs.rd1 rfl) fun a ha=>?_
   iterate 2 (refine S1g (s:=11) ha fun a ha=>?_)
   refine PF ha fun a ha=>?_
   iterate 2 (refine S1 ha fun a ha=>?_)
   refine SK (st_store ha rfl hs Ty.t4 rfl (by simp) fun a w ha hs=>?_)
   refine LN<|TN ?_
   exact ⟨_,(by rw [decide_eq_true_iff,hg5]; simp; omega),ha.keep [0],hs⟩
 ·
  clear ha; (try clear hs)
  intro a w hcut
  obtain ⟨z,hz,ha,hs⟩:=hcut
  refine WS<|WR ?_
  iterate 3 (refine S1 ha fun a ha=>?_)
  refine SL ha (hs.rd1 rfl) fun a ha=>?_
  refine LN<|TN ?_
  refine WI ha (fun hc0=>?_) (fun hc0=>?_)
  ·
   have hzt:=hz.1 hc0
   refine WS<|WR ?_
   refine S1 ha fun a ha=>?_
   refine LN<|TN<|wp_ret<|TR ?_
   refine ret1 ha rfl ?_
   refine ⟨0,ad,c,rest,true,rfl,by decide,hr,fun n r hn e hb=>?_,by rw [hc0] at hs; exact hs⟩
   rcases hzt with h | h
   · rw [hb] at h; cases h
   · rw [e,List.length_append,fourL_len] at h; omega
  ·
   have hzf : ¬ (bad=true∨rest.length < 4):=fun h=>by rw [hz.2 h] at hc0; cases hc0
   have h4 : 4≤rest.length:=Nat.le_of_not_lt fun h=>hzf (.inr h)
   obtain ⟨bb,oo,rfl,_⟩:=(hr.rd _ (hup _ hs.tail)).get (by omega)
   have htl : (rest.take 4).length=4:=by rw [List.length_take]; omega
   refine WK<|TN<|WS<|WR ?_
   refine S1 ha fun a ha=>?_
   refine LN<|TN<|WS<|WS<|WR ?_
   iterate 3 (refine S1 ha fun a ha=>?_)
   refine SL ha (hs.rd1 rfl) fun a ha=>?_
   refine SK (st_set ha rfl (ex_sliceH ha Tryz.underlying22 Ty.t5 (by omega)) rfl fun a ha=>?_)
   rw [cutAd_zero,Nat.sub_zero,Nat.sub_zero] at ha
   iterate 2 (refine S1 ha fun a ha=>?_)
   refine LN<|TN<|wp_block ?_
   refine wp_loop_ghost (fun μ a w=>∃ (i : Nat),(μ=4 - i∧i≤4)∧Fr a 50 [(0,.pointer (some ⟨rb,0,none⟩)),(3,.int .u32 (fourB (rest.take i))),(29,.slice (some ⟨bb,oo,none⟩) 4 c),(30,.int .i64 4),(31,.int .i64 i)]∧St W w (blk rb 194 [.slice (some ⟨bb,oo,none⟩) rest.length c,.bool z]::L')) (4) ?_ ?_
   · exact ⟨0,⟨rfl,by omega⟩,ha.keep [0,3,29,30,31],hs⟩
   ·
    clear ha hs
    rintro μ a w ⟨i,⟨rfl,hi⟩,ha,hs⟩
    refine WS<|WR ?_
    refine S1 ha fun a ha=>?_
    refine LN<|TN<|WS ?_
    refine WI ha (fun hc1=>?_) (fun hc1=>?_)
    ·
     have hil : i < rest.length:=by omega
     have hbd:=fourB_bd (rest.take i) 3 (by rw [List.length_take]; omega)
     rw [show (256 : Nat) ^ 3=16777216 from by decide] at hbd
     have hb8:=u8_lt rest[i]
     refine WK<|TN<|WS<|wp_block<|WS<|WR ?_
     refine SK (st_set ha rfl (ex_indexAddr ha Tryz.underlying22 Ty.t5 (by omega)) rfl fun a ha=>?_)
     rw [Nat.mul_one] at ha
     refine SL ha (((hr.rd _ (hup _ hs.tail)).rd (by omega)) i _ (bc_at hil)) fun a ha=>?_
     refine S1 ha fun a ha=>?_
     refine LN<|TN<|WR ?_
     refine S1 ha fun a ha=>?_
     refine SK (st_set ha rfl (ex_shl ha (by decide)) rfl fun a ha=>?_)
     refine S1 ha fun a ha=>?_
     refine SK (st_set ha rfl (ex_convIIs ha Tryz.underlying5 Tryz.underlying38 (by rw [wrap_u32]; omega)) rfl fun a ha=>?_)
     refine SK (st_set ha rfl (ex_or ha) rfl fun a ha=>?_)
     rw [shl8 hbd,← fourB_take hil] at ha
     refine S1d ha fun a ha=>?_
     refine LN<|BN<|TN<|WR ?_
     refine SK (st_set ha rfl (ex_addI ha (by omega) (by omega)) rfl fun a ha=>?_)
     refine S1d ha fun a ha=>?_
     refine LN<|TN ?_
     exact ⟨4 - (i+1),by omega,i+1,⟨rfl,by omega⟩,ha.keep [0,3,29,30,31],hs⟩
    ·
     obtain rfl : i=4:=by omega
     refine wp_exit<|TE<|TE<|blk_e<|TN<|WS<|WR ?_
     iterate 4 (refine S1 ha fun a ha=>?_)
     refine SL ha (hs.rd1 rfl) fun a ha=>?_
     refine SK (st_set ha rfl (ex_sliceL ha Tryz.underlying22 Ty.t5 (by omega)) rfl fun a ha=>?_)
     rw [show rest.length - 4=(rest.drop 4).length from by simp] at ha
     iterate 2 (refine S1 ha fun a ha=>?_)
     refine SK (st_store ha rfl hs Ty.t22 rfl (by simp) fun a w ha hs=>?_)
     refine LN<|TN<|WS<|WR ?_
     iterate 2 (refine S1 ha fun a ha=>?_)
     refine LN<|TN<|wp_ret ?_
     refine ret1 ha rfl ?_
     have hbd:=fourB_bd (rest.take 4) 4 (by rw [List.length_take]; omega)
     rw [show (256 : Nat) ^ 4=4294967296 from by decide] at hbd
     refine ⟨_,_,_,_,z,rfl,hbd,hr.cut h4,fun n r hn e hb=>?_,hs⟩
     have ht : rest.take 4=fourL n:=by rw [e]; rfl
     have hd : rest.drop 4=r:=by rw [e]; rfl
     exact ⟨by rw [ht,fourB_four hn],hd,hc0⟩
theorem bytes_equalS {a b : List UInt8} {ad2 : Option Addr} {m n c2 : Nat} (hs : St W w L) (ha' : RdB w ad m a) (hb' : RdB w ad2 n b) :
   Calls Tryz.prog 132 #[.slice ad m c,.slice ad2 n c2] w fun e w'=>e=.returned (.bool (a == b))∧St W w' L :=
 (bytes_equal ha' hb').mono fun e w' h=>⟨h.1,by rw [h.2]; exact hs⟩
theorem decP_head {bs : List UInt8} {q : Pk} (h : decP bs q) : (q.kind=((bs.getD 0 0).toNat : Int)∧q.from'=((bs.getD 1 0).toNat : Int)∧q.to=((bs.getD 2 0).toNat : Int))∧(bs.drop 3).take (bs.length - 7)=midPk q:=by
 have h1:=encPk_head h.2.2
 obtain ⟨f1,t1,n1,i1,k1⟩:=h.1
 refine ⟨?_,encPk_mid h.2.2⟩
 simp only [List.getD_eq_getElem?_getD,h1.1,h1.2.1,h1.2.2,Option.getD_some,UInt8.toNat_ofNat']
 omega
theorem i64u8 (b : UInt8) : IntKind.i64.wrap (b.toNat : Int)=(b.toNat : Int):=wrap_in (by omega) (by have:=u8_lt b; omega)
theorem decP_bad {bs : List UInt8} (h : ¬ ∃ q,decP bs q) : decO bs=none:=decO_none fun q hq=>h ⟨q,hq⟩
def Dec (bs : List UInt8) (p : Pk) (adP : Option Addr) (cP : Nat) (ok : Bool) : Prop:=(ok=true∧decO bs=some p)∨(ok=false∧decO bs=none∧p=pk0∧adP=none∧cP=0)
theorem packet_dec (hs : St W w L) (hb : bs.length≤65536) (hc : bs.length≤c) (hp : ∀ w',St W w' L→RdB w' ad bs.length bs) :
   Calls Tryz.prog 89 #[.slice ad bs.length c] w fun e w'=>∃ (p : Pk) (adP : Option Addr) (cP : Nat) (ok : Bool),e=.returned (.tuple #[.agg (pkC p adP cP).toArray,.int .i64 (if ok=true then 0 else 1)])∧Dec bs p adP cP ok∧St W w' (Sl 5 1 adP p.press.length cP (bc p.press)::L):=by
 refine calls_enter Tryz.func89 rfl Tryz.ntmps89 (Nat.le_of_ble_eq_true rfl) ?_
 intro a ha
 replace ha : Fr a 91 [(0,_)]:=ha
 refine WS<|WR ?_
 refine SK (st_alloc ha rfl hs Ty.t40 rfl fun b2 a w ha hs ho=>?_)
 clear ho
 refine S1 ha fun a ha=>?_
 refine LN<|TN<|WS<|WS<|WR ?_
 iterate 3 (refine S1 ha fun a ha=>?_)
 refine LN<|TN ?_
 refine WI ha (fun hc0=>?_) (fun hc0=>?_)
 ·
  have hno : decO bs=none:=decO_none fun q hq=>by
    have:=congrArg List.length hq.2.2
    rw [encPk_len] at this; omega
  refine WS<|WR ?_
  refine SK (st_set ha rfl (ex_build ha Ty.b40 Ty.t40 rfl) rfl fun a ha=>?_)
  refine SK (st_storeAll ha rfl hs Ty.t40 (by simp [Value.oneCell']) (by rfl) fun a w ha hs=>?_)
  refine S1d ha fun a ha=>?_
  refine LN<|TN<|wp_ret<|TR ?_
  refine retC2 ha rfl (run_loadN Tryz.underlying40 rfl Ty.t40 (hs.rdAll)) ?_
  exact ⟨pk0,none,0,false,rfl,.inr ⟨rfl,hno,rfl,rfl,rfl⟩,hs.tail.sl0 _ _ _⟩
 ·
  obtain ⟨bb,oo,rfl,_⟩:=(hp _ hs.tail).get (by omega)
  have h7 : 7≤bs.length:=by omega
  refine WK<|TN<|WS ?_
  refine DW (m:=15) (fun w=>Rd w bb oo (bc bs)) [6,7,10,11,13] [0,1,4,5,8,9,2,3,6,7,10,11,12,13,14] Ty.mixed (pk_then pk_body) (fun hpk=>?_)
  replace hs:=hs.drew
  generalize w.drew=w at hs hpk ⊢
  have hC : Rd w bb oo (bc bs):=(hp _ hs.tail).rd (by omega)
  refine DP hpk ha rfl fun a ha=>?_
  refine DQ hpk ha rfl rfl (fun w=>ex_indexAddr ha Tryz.underlying22 Ty.t5 (by omega)) fun a ha=>?_
  rw [Nat.mul_one] at ha
  refine DP hpk ha rfl fun a ha=>?_
  refine DQ hpk ha rfl rfl (fun w=>ex_indexAddr ha Tryz.underlying22 Ty.t5 (by omega)) fun a ha=>?_
  rw [Nat.mul_one] at ha
  refine DP hpk ha rfl fun a ha=>?_
  refine DQ hpk ha rfl rfl (fun w=>ex_indexAddr ha Tryz.underlying22 Ty.t5 (by omega)) fun a ha=>?_
  rw [Nat.mul_one] at ha
  refine DL hpk ha rfl (fun w hc=>hc 0 _ (bc_atD (by omega))) hC fun a ha=>?_
  refine DQ hpk ha rfl rfl (fun w=>ex_convIIs ha Tryz.underlying5 Tryz.underlying3 (i64u8 _)) fun a ha=>?_
  refine DL hpk ha rfl (fun w hc=>hc 1 _ (bc_atD (by omega))) hC fun a ha=>?_
  refine DH hpk ha rfl rfl (fun w hc=>ex_convIIs ha Tryz.underlying5 Tryz.underlying3 (i64u8 _)) hC fun a ha=>?_
  refine DL hpk ha rfl (fun w hc=>hc 2 _ (bc_atD (by omega))) hC fun a ha=>?_
  refine DH hpk ha rfl rfl (fun w hc=>ex_convIIs ha Tryz.underlying5 Tryz.underlying3 (i64u8 _)) hC fun a ha=>?_
  refine DQ hpk ha rfl rfl (fun w=>ex_build ha Ty.b40 Ty.t40 rfl) fun a ha=>?_
  refine D1 rfl (st_alloc ha rfl hs Ty.t40 rfl fun b4 a w ha hs ho=>?_)
  (try replace hC:=hC.trans ho); clear ho
  replace hC : (fun w=>Rd w bb oo (bc bs)) w:=((hp _ hs.tail.tail).rd (by omega))
  refine ⟨fun _=>hC,?_⟩
  refine D1 rfl (st_storeAll ha rfl hs Ty.t40 (by simp [Value.oneCell']) (by rfl) fun a w ha hs=>?_)
  refine ⟨fun h=>absurd h (by decide),?_⟩
  refine DD<|TN<|WS<|WR ?_
  iterate 3 (refine S1 ha fun a ha=>?_)
  refine SK (st_set ha rfl (ex_subI ha (by omega) (by omega)) rfl fun a ha=>?_)
  rw [show (bs.length : Int) - 4=((bs.length - 4 : Nat) : Int) from by omega] at ha
  refine SK (st_set ha rfl (ex_sliceLH ha Tryz.underlying22 Ty.t5 (by omega) (by omega)) rfl fun a ha=>?_)
  obtain ⟨R1,hR1⟩ : ∃ R1,R1=(bs.drop 3).take (bs.length - 7):=⟨_,rfl⟩
  have hl1 : R1.length=bs.length - 7:=by rw [hR1,List.length_take,List.length_drop]; omega
  have hr1 : Rdr W L (cutAd (some ⟨bb,oo,none⟩) 3 c 1) (c - 3) R1:=⟨by omega,by omega,fun w' hw=>by
    rw [hl1,hR1]
    exact ((hp w' hw).cutL (lo:=3) (by omega) hc).cutH (by rw [List.length_drop]; omega)⟩
  have hq1 : ∀ q,decP bs q→(q.kind=((bs.getD 0 0).toNat : Int)∧q.from'=((bs.getD 1 0).toNat : Int)∧q.to=((bs.getD 2 0).toNat : Int))∧R1=midPk q:=fun q h=>by
    rw [hR1]; exact decP_head h
  rw [show bs.length - 4 - 3=R1.length from by omega] at ha
  generalize cutAd (some ⟨bb,oo,none⟩) 3 c 1=ad1 at ha hr1
  generalize c - 3=c1 at ha hr1
  generalize R1=R1 at ha hr1 hq1
  refine SK (st_set ha rfl (ex_build ha Ty.b194 Ty.t194 rfl) rfl fun a ha=>?_)
  refine SK (st_box ha rfl hs rfl fun b33 a w ha hs ho=>?_)
  clear ho
  refine S1 ha fun a ha=>?_
  refine LN<|TN<|WS<|WR ?_
  refine S1 ha fun a ha=>?_
  refine SK (st_call ha rfl Ty.c128 rfl (rd_num (L:=L) hs (fun _ h=>h.tail.tail) hr1) ?_); clear ha hs
  rintro e w ⟨x1,ad2,c2,R2,z2,rfl,hx1,hr2,hq2,hs⟩
  refine ⟨_,rfl,?_⟩
  intro a ha
  refine S1 ha fun a ha=>?_
  refine SK (st_store ha rfl hs Ty.t2 rfl (by simp) fun a w ha hs=>?_)
  refine LN ?_
  replace hq2 : ∀ q,decP bs q→(q.kind=((bs.getD 0 0).toNat : Int)∧q.from'=((bs.getD 1 0).toNat : Int)∧q.to=((bs.getD 2 0).toNat : Int)∧q.id=x1)∧R2=numsPk q∧z2=false:=fun q h=>by
    obtain ⟨h1,h2⟩:=hq1 q h
    obtain ⟨e1,e2,e3⟩:=hq2 q.id (numsPk q) ⟨by have:=h.1.2.2.2.1; omega,by have:=h.1.2.2.2.1; omega⟩ (by rw [h2,midPk]) rfl
    exact ⟨⟨h1.1,h1.2.1,h1.2.2,e1.symm⟩,e2,e3⟩
  refine TN ?_
  refine wp_seq_cut (M:=fun a w=>∃ (p : Pk) (adP : Option Addr) (cP : Nat) (ad' : Option Addr) (c' : Nat) (R' : List UInt8) (z : Bool),p.sum < 4294967296∧(∀ q,decP bs q→p=q∧z=false)∧Fr a 91 [(0,.slice (some ⟨bb,oo,none⟩) bs.length c),(2,.pointer (some ⟨b2,0,none⟩)),(4,.pointer (some ⟨b4,0,none⟩)),(5,.pointer (some ⟨b33,0,none⟩))]∧St W w (blk b4 40 (pkC p adP cP)::Sl 5 1 adP p.press.length cP (bc p.press)::blk b33 194 [.slice ad' R'.length c',.bool z]::blk b2 40 (pkC pk0 none 0)::L)) ?_ ?_
  ·
   refine WS<|WR ?_
   refine S1 ha fun a ha=>?_
   refine SL ha (hs.rd1 rfl) fun a ha=>?_
   refine S1 ha fun a ha=>?_
   refine LN<|TN ?_
   refine WI ha (fun hc1=>?_) (fun hc1=>?_)
   ·
    have hn1 : ∀ q,decP bs q→numsPk q=putL (zz q.first)++(putL (zz q.ack)++(putL (zz q.frame)++tailPk q))∧(i64P q.first∧i64P q.ack∧i64P q.frame)∧q.press.length≤32:=fun q h=>by
      have hk:=(hq2 q h).1.1
      rw [hc1] at hk
      rcases h.1.2.2.2.2 with k | k
      · obtain ⟨_,k1,k2,k3,k4⟩:=k
        unfold frP at k1 k2 k3
        exact ⟨by rw [numsPk,if_pos hk],⟨⟨by omega,by omega⟩,⟨by omega,by omega⟩,⟨by omega,by omega⟩⟩,k4⟩
      · omega
    refine WS<|WR ?_
    refine S1 ha fun a ha=>?_
    refine SK (st_call ha rfl Ty.c128 rfl (rd_num (L:=L) (hs.perm (List.Perm.swap _ _ _)) (fun _ h=>h.tail.tail) hr2) ?_); clear ha hs
    rintro e w ⟨x2,ad3,c3,R3,z3,rfl,hx2,hr3,hq3,hs⟩
    refine ⟨_,rfl,?_⟩
    intro a ha
    replace hq3 : ∀ q,decP bs q→q.first=x2∧R3=putL (zz q.ack)++(putL (zz q.frame)++tailPk q)∧z3=false:=fun q h=>by
      obtain ⟨_,h2,h3⟩:=hq2 q h
      obtain ⟨e1,e2,e3⟩:=hq3 q.first _ (hn1 q h).2.1.1 (by rw [h2,(hn1 q h).1]) h3
      exact ⟨e1.symm,e2,e3⟩
    refine S1 ha fun a ha=>?_
    refine SK (st_store ha rfl hs Ty.t3 rfl (by simp) fun a w ha hs=>?_)
    refine LN<|TN<|WS<|WR ?_
    refine S1 ha fun a ha=>?_
    refine SK (st_call ha rfl Ty.c128 rfl (rd_num (L:=L) (hs.perm (List.Perm.swap _ _ _)) (fun _ h=>h.tail.tail) hr3) ?_); clear ha hs
    rintro e w ⟨x3,ad4,c4,R4,z4,rfl,hx3,hr4,hq4,hs⟩
    refine ⟨_,rfl,?_⟩
    intro a ha
    replace hq4 : ∀ q,decP bs q→q.ack=x3∧R4=putL (zz q.frame)++tailPk q∧z4=false:=fun q h=>by
      obtain ⟨_,h2,h3⟩:=hq3 q h
      obtain ⟨e1,e2,e3⟩:=hq4 q.ack _ (hn1 q h).2.1.2.1 h2 h3
      exact ⟨e1.symm,e2,e3⟩
    refine S1 ha fun a ha=>?_
    refine SK (st_store ha rfl hs Ty.t3 rfl (by simp) fun a w ha hs=>?_)
    refine LN<|TN<|WS<|WR ?_
    refine S1 ha fun a ha=>?_
    refine SK (st_call ha rfl Ty.c128 rfl (rd_num (L:=L) (hs.perm (List.Perm.swap _ _ _)) (fun _ h=>h.tail.tail) hr4) ?_); clear ha hs
    rintro e w ⟨x4,ad5,c5,R5,z5,rfl,hx4,hr5,hq5,hs⟩
    refine ⟨_,rfl,?_⟩
    intro a ha
    replace hq5 : ∀ q,decP bs q→q.frame=x4∧R5=fourL q.sum++(putL (zz (q.press.length : Int))++runsL q.press 0)∧z5=false:=fun q h=>by
      obtain ⟨_,h2,h3⟩:=hq4 q h
      obtain ⟨e1,e2,e3⟩:=hq5 q.frame _ (hn1 q h).2.1.2.2 h2 h3
      exact ⟨e1.symm,by rw [e2,tailPk],e3⟩
    refine S1 ha fun a ha=>?_
    refine SK (st_store ha rfl hs Ty.t3 rfl (by simp) fun a w ha hs=>?_)
    refine LN<|TN<|WS<|WR ?_
    refine S1 ha fun a ha=>?_
    refine SK (st_call ha rfl Ty.c129 rfl (rd_four (L:=L) (hs.perm (List.Perm.swap _ _ _)) (fun _ h=>h.tail.tail) hr5) ?_); clear ha hs
    rintro e w ⟨x5,ad6,c6,R6,z6,rfl,hx5,hr6,hq6,hs⟩
    refine ⟨_,rfl,?_⟩
    intro a ha
    replace hq6 : ∀ q,decP bs q→q.sum=x5∧R6=putL (zz (q.press.length : Int))++runsL q.press 0∧z6=false:=fun q h=>by
      obtain ⟨_,h2,h3⟩:=hq5 q h
      obtain ⟨e1,e2,e3⟩:=hq6 q.sum _ h.2.1 h2 h3
      exact ⟨e1.symm,e2,e3⟩
    refine S1 ha fun a ha=>?_
    refine SK (st_store ha rfl hs Ty.t38 rfl (by simp) fun a w ha hs=>?_)
    refine LN<|TN<|WS<|WR ?_
    refine S1 ha fun a ha=>?_
    refine SK (st_call ha rfl Ty.c128 rfl (rd_num (L:=L) (hs.perm (List.Perm.swap _ _ _)) (fun _ h=>h.tail.tail) hr6) ?_); clear ha hs
    rintro e w ⟨x6,ad7,c7,R7,z7,rfl,hx6,hr7,hq7,hs⟩
    refine ⟨_,rfl,?_⟩
    intro a ha
    replace hq7 : ∀ q,decP bs q→(q.press.length : Int)=x6∧R7=runsL q.press 0∧z7=false:=fun q h=>by
      obtain ⟨_,h2,h3⟩:=hq6 q h
      have hpl:=(hn1 q h).2.2
      obtain ⟨e1,e2,e3⟩:=hq7 q.press.length _ ⟨by omega,by omega⟩ h2 h3
      exact ⟨e1.symm,e2,e3⟩
    refine S1 ha fun a ha=>?_
    refine LN<|TN<|WS<|WR ?_
    iterate 3 (refine S1 ha fun a ha=>?_)
    refine SL ha (hs.rd1 rfl) fun a ha=>?_
    refine SK (st_call ha rfl Ty.c130 rfl (runs_dec (m:=32) hs hr7.len hr7.cap (by omega) (fun w' hw=>hr7.rd w' hw.tail.tail.tail)) ?_); clear ha hs
    rintro e w ⟨out,adO,cO,er,rfl,hun,hs⟩
    refine ⟨_,rfl,?_⟩
    intro a ha
    iterate 5 (refine S1 ha fun a ha=>?_)
    refine LN<|TN<|WS<|WS<|WR ?_
    iterate 3 (refine S1 ha fun a ha=>?_)
    refine ha.by (s:=64) (fun hg2 ha=>?_) (fun hg2 ha=>?_)
    ·
     iterate 4 (refine SO (s:=64) ha fun a ha=>?_)
     refine PT ha fun a ha=>?_
     refine LN<|TN<|WTr ha<|WS<|WR ?_
     refine SK (st_set ha rfl (ex_build ha Ty.b40 Ty.t40 rfl) rfl fun a ha=>?_)
     refine SK (st_storeAll ha rfl hs Ty.t40 (by simp [Value.oneCell']) (by rfl) fun a w ha hs=>?_)
     refine S1d ha fun a ha=>?_
     refine LN<|TN<|wp_ret<|TR<|TR ?_
     refine retC2 ha rfl (run_loadN Tryz.underlying40 rfl Ty.t40 (hs.rdAll)) ?_
     have hno : decO bs=none:=decP_bad fun ⟨q,h⟩=>by
       obtain ⟨_,e2,_⟩:=hq7 q h
       have:=(hun.2.2 q.press (hn1 q h).2.2 e2).2
       simp [this] at hg2
     exact ⟨pk0,none,0,false,rfl,.inr ⟨rfl,hno,rfl,rfl,rfl⟩,hs.sub.sl0 _ _ _⟩
    ·
     iterate 4 (refine S1g (s:=64) ha fun a ha=>?_)
     refine PF ha fun a ha=>?_
     refine LN<|TN ?_
     refine WI ha (fun hc2=>?_) (fun hc2=>?_)
     ·
      refine WS<|WR ?_
      refine SK (st_set ha rfl (ex_build ha Ty.b40 Ty.t40 rfl) rfl fun a ha=>?_)
      refine SK (st_storeAll ha rfl hs Ty.t40 (by simp [Value.oneCell']) (by rfl) fun a w ha hs=>?_)
      refine S1d ha fun a ha=>?_
      refine LN<|TN<|wp_ret<|TR<|TR ?_
      refine retC2 ha rfl (run_loadN Tryz.underlying40 rfl Ty.t40 (hs.rdAll)) ?_
      have hno : decO bs=none:=decP_bad fun ⟨q,h⟩=>by
        obtain ⟨e1,e2,_⟩:=hq7 q h
        have:=(hun.2.2 q.press (hn1 q h).2.2 e2).1
        rw [this] at hc2
        omega
      exact ⟨pk0,none,0,false,rfl,.inr ⟨rfl,hno,rfl,rfl,rfl⟩,hs.sub.sl0 _ _ _⟩
     ·
      refine WK<|TN<|WR ?_
      iterate 2 (refine S1 ha fun a ha=>?_)
      refine SK (st_store ha rfl hs Ty.t22 rfl (by simp) fun a w ha hs=>?_)
      refine LN<|TN ?_
      refine ⟨⟨((bs.getD 0 0).toNat : Int),((bs.getD 1 0).toNat : Int),((bs.getD 2 0).toNat : Int),x1,x2,x3,x4,x5,out⟩,adO,cO,ad7,c7,R7,z7,by assumption,fun q h=>?_,ha.keep [0,2,4,5],hs⟩
      obtain ⟨h1,h2,h3,h4⟩:=(hq2 q h).1
      have h5:=(hq3 q h).1
      have h6:=(hq4 q h).1
      have h7:=(hq5 q h).1
      have h8:=(hq6 q h).1
      have h9:=hq7 q h
      have h10:=(hun.2.2 q.press (hn1 q h).2.2 h9.2.1).1
      refine ⟨?_,h9.2.2⟩
      rw [← h1,← h2,← h3,← h4,← h5,← h6,← h7,← h8,h10]
   ·
    refine WK<|TN ?_
    refine ⟨⟨((bs.getD 0 0).toNat : Int),((bs.getD 1 0).toNat : Int),((bs.getD 2 0).toNat : Int),x1,0,0,0,0,[]⟩,none,0,ad2,c2,R2,z2,by show 0 < 4294967296; decide,fun q h=>?_,ha.keep [0,2,4,5],(hs.sl0 5 1 none).perm (List.Perm.swap _ _ _)⟩
    obtain ⟨⟨h1,h2,h3,h4⟩,_,h5⟩:=hq2 q h
    rw [← h1] at hc1
    rcases h.1.2.2.2.2 with k | k
    · exact absurd k.1 hc1
    · obtain ⟨k0,k1,k2,k3,k4,k5⟩:=k
      have k4:=List.eq_nil_of_length_eq_zero k4
      refine ⟨?_,h5⟩
      rw [← h1,← h2,← h3,← h4]
      cases q
      simp_all
  ·
   clear ha; (try clear hs)
   intro a w hcut
   obtain ⟨p,adP,cP,ad8,c8,R8,z8,hsum,hq8,ha,hs⟩:=hcut
   refine WS<|WS<|WR ?_
   refine SK (st_set ha rfl (ex_loadN ha Tryz.underlying40 rfl Ty.t40 (hs.rdAll)) rfl fun a ha=>?_)
   refine SK (st_call ha rfl Ty.c131 rfl (packet_enc (p:=p) hs hsum (fun w' hw=>hw.rdB adP p.press rfl rfl)) ?_); clear ha hs
   rintro e w ⟨adE,cE,rfl,hs⟩
   refine ⟨_,rfl,?_⟩
   intro a ha
   refine S1 ha fun a ha=>?_
   refine LN<|TN<|WS<|WR ?_
   iterate 3 (refine S1 ha fun a ha=>?_)
   refine SL ha (hs.rd1 rfl) fun a ha=>?_
   refine S1 ha fun a ha=>?_
   refine ha.by (s:=79) (fun hg4 ha=>?_) (fun hg4 ha=>?_)
   ·
    iterate 2 (refine SO (s:=79) ha fun a ha=>?_)
    refine PT ha fun a ha=>?_
    refine S1 ha fun a ha=>?_
    iterate 4 (refine SO (s:=83) ha fun a ha=>?_)
    refine PT ha fun a ha=>?_
    refine LN<|TN<|WTr ha<|WS<|WR ?_
    refine SK (st_set ha rfl (ex_build ha Ty.b40 Ty.t40 rfl) rfl fun a ha=>?_)
    refine SK (st_storeAll ha rfl hs Ty.t40 (by simp [Value.oneCell']) (by rfl) fun a w ha hs=>?_)
    refine S1 ha fun a ha=>?_
    refine LN<|TN<|wp_ret<|TR ?_
    refine retC2 ha rfl (run_loadN Tryz.underlying40 rfl Ty.t40 (hs.rdAll)) ?_
    have hno : decO bs=none:=decP_bad fun ⟨q,h⟩=>by
      rw [(hq8 q h).2] at hg4; cases hg4
    exact ⟨pk0,none,0,false,rfl,.inr ⟨rfl,hno,rfl,rfl,rfl⟩,hs.sub.sl0 _ _ _⟩
   ·
    refine S1g (s:=79) ha fun a ha=>?_
    refine SK (st_set ha (wgT ha rfl (s:=79)) (ex_eqnilS ha Tryz.underlying22) rfl fun a ha=>?_)
    refine PF ha fun a ha=>?_
    refine S1 ha fun a ha=>?_
    refine ha.by (s:=83) (fun hg8 ha=>?_) (fun hg8 ha=>?_)
    ·
     iterate 4 (refine SO (s:=83) ha fun a ha=>?_)
     refine PT ha fun a ha=>?_
     refine LN<|TN<|WTr ha<|WS<|WR ?_
     refine SK (st_set ha rfl (ex_build ha Ty.b40 Ty.t40 rfl) rfl fun a ha=>?_)
     refine SK (st_storeAll ha rfl hs Ty.t40 (by simp [Value.oneCell']) (by rfl) fun a w ha hs=>?_)
     refine S1 ha fun a ha=>?_
     refine LN<|TN<|wp_ret<|TR ?_
     refine retC2 ha rfl (run_loadN Tryz.underlying40 rfl Ty.t40 (hs.rdAll)) ?_
     have hno : decO bs=none:=decP_bad fun ⟨q,h⟩=>by
       have hn:=(hs.rdB adE (encO p) rfl rfl).2.1 (by cases adE with
         | none=>rfl
         | some _=>cases hg8)
       rw [(hq8 q h).1,encO,if_pos h.1,encPk_len] at hn; omega
     exact ⟨pk0,none,0,false,rfl,.inr ⟨rfl,hno,rfl,rfl,rfl⟩,hs.sub.sl0 _ _ _⟩
    ·
     iterate 2 (refine S1g (s:=83) ha fun a ha=>?_)
     refine SK (st_call ha (wgT ha rfl (s:=83)) Ty.c132 rfl (bytes_equalS hs (hs.rdB adE (encO p) rfl rfl) (hp _ hs.tail.tail.tail.tail.tail)) ?_); clear ha hs
     rintro e w ⟨rfl,hs⟩
     refine ⟨_,rfl,?_⟩
     intro a ha
     refine S1g (s:=83) ha fun a ha=>?_
     refine PF ha fun a ha=>?_
     refine LN<|TN ?_
     refine WI ha (fun hc3=>?_) (fun hc3=>?_)
     ·
      refine WS<|WR ?_
      refine SK (st_set ha rfl (ex_build ha Ty.b40 Ty.t40 rfl) rfl fun a ha=>?_)
      refine SK (st_storeAll ha rfl hs Ty.t40 (by simp [Value.oneCell']) (by rfl) fun a w ha hs=>?_)
      refine S1 ha fun a ha=>?_
      refine LN<|TN<|wp_ret<|TR ?_
      refine retC2 ha rfl (run_loadN Tryz.underlying40 rfl Ty.t40 (hs.rdAll)) ?_
      have hno : decO bs=none:=decP_bad fun ⟨q,h⟩=>by
        have e : encO p=bs:=by rw [(hq8 q h).1,encO,if_pos h.1]; exact h.2.2
        rw [e] at hc3; simp at hc3
      exact ⟨pk0,none,0,false,rfl,.inr ⟨rfl,hno,rfl,rfl,rfl⟩,hs.sub.sl0 _ _ _⟩
     ·
      refine WK<|TN<|WS<|WR ?_
      refine SK (st_set ha rfl (ex_loadN ha Tryz.underlying40 rfl Ty.t40 (hs.rdN 9)) rfl fun a ha=>?_)
      refine SK (st_storeAll ha rfl hs Ty.t40 (pkC_one p adP cP) (by rfl) fun a w ha hs=>?_)
      refine S1 ha fun a ha=>?_
      refine LN<|TN<|wp_ret ?_
      refine retC2 ha rfl (run_loadN Tryz.underlying40 rfl Ty.t40 (hs.rdAll)) ?_
      exact ⟨p,adP,cP,true,rfl,.inl ⟨rfl,decO_some ((decP_iff (fun e=>by rw [e] at h7; simp at h7) hsum).2 (by simpa using hc3))⟩,hs.sub⟩
end
end Go.Proofs.YtagpkhbkdbaigaaGreat
