/- Bytes: bits of numbers, sums, numbers of four bytes, games as bytes. -/
import Derived.Test.YtagpkhbkdbaigaaGreatNum
import Derived.Test.YtagpkhbkdbaigaaGreatBB
namespace Go.Proofs.YtagpkhbkdbaigaaGreat
open Go.RowKit
set_option linter.unusedVariables false
set_option linter.unusedSimpArgs false
set_option maxRecDepth 10000
set_option synthInstance.maxSize 4000
set_option synthInstance.maxHeartbeats 400000
theorem ret3 {P : Program} {a : Act} {w : World} {n : Nat} {l : List (Nat × Value)} {fn : Func} {t u x v v2 v3} {X : Ending→World→Prop} (ha : Fr a n l) (hr : fn.results=#[.tmp t,.tmp u,.tmp x]) [k : Get l t v] [k2 : Get l u v2] [k3 : Get l x v3] (h : X (.returned (.tuple #[v,v2,v3])) w) : bodyPost P fn X .ret a w:=by
 refine bodyPost_ret ?_ ha.defers h
 have h1:=ha.has _ k.mem
 have h2:=ha.has _ k2.mem
 have h3:=ha.has _ k3.mem
 simp [results,hr,Array.getD_eq_getD_getElem?,h1,h2,h3]
section
variable {P : Program} {ops : Array Oper} {Q : Exit→Act→World→Prop} {a : Act} {w w' W : World} {K : Act→World→Prop} {o : Oper} {n d : Nat} {l : List (Nat × Value)} {v : Value} {L R : List SP}
theorem st_appendT {s x t z sz by' e ad k c ad2 m c2 news ty ps af g} {cs : List Value} (ha : Fr a n l) (hw : Region.wanted ⟨some d,.call ⟨.builtin .append,#[s,x],#[t,t]⟩,ty,ps,af,g⟩ (yielded ops a.tmps)=true) (hs : St W w L)
   (ht : P.underlying t=some (.slice e)) (hi : TI P e z sz by') (hf : okB d n l=true) (hz : z.cells.size=sz) (hb : 0 < by')
   [e1 : Ev l s (.slice ad k c)] [pk : PickSl L ad k c e sz cs R] [e2 : Ev l x (.slice ad2 m c2)] (hr : 0 < m→∃ b2 off2,ad2=some ⟨b2,off2,none⟩∧Rd w b2 off2 news) (hl : news.length=m*sz) (h1 : ∀ v∈news,v.oneCell'=true)
   (hsz : (k+m)*by'≤140737488355328)
   (h : ∀ ad' c' a' w',Fr a' n ((d,.slice ad' (k+m) c')::l)→St W w' (Sl e sz ad' (k+m) c' (cs++news)::R)→K a' w') :
   StepK P ops Q ⟨some d,.call ⟨.builtin .append,#[s,x],#[t,t]⟩,ty,ps,af,g⟩ K a w:=by
 rcases Nat.eq_zero_or_pos m with h0 | h0
 · subst h0
   have hkc:=(hs.sl ad).2
   obtain rfl : news=[]:=List.eq_nil_of_length_eq_zero (by rw [hl,Nat.zero_mul])
   refine st_append0 (ad:=ad) (k:=k) (c:=c) (ad2:=ad2) (c2:=c2) ha hw ht hi hf hkc fun a' ha'=>h ad c a' w ha' ?_
   rw [List.append_nil]
   exact hs.perm pk.perm
 · obtain ⟨b2,off2,rfl,hrd⟩:=hr h0
   exact st_append ha hw hs ht hi hz hf hrd hl h1 h0 hb hsz h
end
theorem St.litS {W w : World} {L : List SP} {b e n : Nat} {cs : List Value} {l : List UInt8} (hs : St W w (blk b e cs::L)) (he : e=5) (hl : l.length=n) (h : cs=bc l) : St W w (Sl 5 1 (some ⟨b,0,none⟩) n n (bc l)::L):=by
 subst h; subst he
 have h2 : St W w (blk b 5 ([]++bc l++[])::L):=by simpa using hs
 exact St.slShut (pre:=[]) (post:=[]) (n:=n) (c:=n) (sz:=1) (cs:=bc l) h2 (by rw [bc_len,hl,Nat.mul_one]) (Nat.le_refl _) (by simp)
instance Ex.ext30 {P : Program} {l x v1 v2 v3} [Ev l x (.tuple #[v1,v2,v3])] : Ex P l (.extract x 0) v1:=⟨fun _ _ ha _ _ _ _ _ _=>ex_extract ha rfl⟩
instance Ex.ext31 {P : Program} {l x v1 v2 v3} [Ev l x (.tuple #[v1,v2,v3])] : Ex P l (.extract x 1) v2:=⟨fun _ _ ha _ _ _ _ _ _=>ex_extract ha rfl⟩
instance Ex.ext32 {P : Program} {l x v1 v2 v3} [Ev l x (.tuple #[v1,v2,v3])] : Ex P l (.extract x 2) v3:=⟨fun _ _ ha _ _ _ _ _ _=>ex_extract ha rfl⟩
theorem bc_at {bs : List UInt8} {i : Nat} (h : i < bs.length) : (bc bs)[i]?=some (.int .u8 ((bs[i]).toNat : Int)):=by simp [bc,h]
theorem bc_app (a b : List UInt8) : bc (a++b)=bc a++bc b:=by simp [bc]
theorem RdB.get {w : World} {ad : Option Addr} {m : Nat} {bs : List UInt8} (h : RdB w ad m bs) (h0 : 0 < m) : ∃ b o,ad=some ⟨b,o,none⟩∧Rd w b o (bc bs):=by
 obtain ⟨_,h2,h3⟩:=h
 cases hh : ad with
 | none=>have:=h2 hh; omega
 | some a =>
   obtain ⟨b,o,rfl,h1⟩:=h3 a hh h0
   exact ⟨b,o,rfl,h1⟩
theorem RdB.rd {w : World} {b o m : Nat} {bs : List UInt8} (h : RdB w (some ⟨b,o,none⟩) m bs) (h0 : 0 < m) : Rd w b o (bc bs):=by
 obtain ⟨b',o',e,h1⟩:=h.get h0
 cases e; exact h1
theorem RdB.cutL {w : World} {ad : Option Addr} {bs : List UInt8} {c : Nat} (h : RdB w ad bs.length bs) {lo : Nat} (hl : lo≤bs.length) (hc : bs.length≤c) : RdB w (cutAd ad lo c 1) (bs.drop lo).length (bs.drop lo):=by
 refine ⟨rfl,fun e=>?_,fun x hx h0=>?_⟩
 · rw [List.length_drop]
   rcases Nat.eq_zero_or_pos (bs.length - lo) with h0 | h0
   · exact h0
   · obtain ⟨b,o,rfl,_⟩:=h.get (by omega)
     rw [cutAd_some (by omega)] at e; cases e
 · rw [List.length_drop] at h0
   obtain ⟨b,o,rfl,hr⟩:=h.get (by omega)
   rw [cutAd_some (by omega)] at hx
   cases hx
   refine ⟨b,o+lo*1,rfl,fun j v hj=>?_⟩
   have h1:=hr (lo+j) v (by rw [bc,List.getElem?_map,← List.getElem?_drop,← List.getElem?_map]; exact hj)
   rwa [show o+lo*1+j=o+(lo+j) from by omega]
theorem RdB.cutH {w : World} {ad : Option Addr} {bs : List UInt8} {m : Nat} (h : RdB w ad m bs) {hi : Nat} (hl : hi≤bs.length) : RdB w ad hi (bs.take hi):=by
 obtain ⟨h1,h2,h3⟩:=h
 refine ⟨by rw [List.length_take]; omega,fun e=>by have:=h2 e; omega,fun x hx h0=>?_⟩
 obtain ⟨b,o,e,hr⟩:=h3 x hx (by omega)
 refine ⟨b,o,e,fun j v hj=>hr j v ?_⟩
 rw [bc,List.map_take,List.getElem?_take] at hj
 split at hj
 · exact hj
 · cases hj
/-! Bits. -/
theorem bv32 (x : Nat) : BitVec.ofInt IntKind.u32.bits (x : Int)=BitVec.ofNat 32 x:=BitVec.ofInt_natCast 32 x
theorem bv64 (x : Nat) : BitVec.ofInt IntKind.u64.bits (x : Int)=BitVec.ofNat 64 x:=BitVec.ofInt_natCast 64 x
theorem xor_u32 {x y : Nat} (hx : x < 4294967296) (hy : y < 4294967296) : IntKind.u32.wrap (((BitVec.ofInt IntKind.u32.bits (x : Int) ^^^ BitVec.ofInt IntKind.u32.bits (y : Int)).toNat : Nat) : Int)=((x ^^^ y : Nat) : Int):=by
 rw [bv32,bv32]
 show IntKind.u32.wrap (((BitVec.ofNat 32 x ^^^ BitVec.ofNat 32 y).toNat : Nat) : Int)=_
 rw [BitVec.toNat_xor,BitVec.toNat_ofNat,BitVec.toNat_ofNat,Nat.mod_eq_of_lt (show x < 2 ^ 32 from hx),Nat.mod_eq_of_lt (show y < 2 ^ 32 from hy),wrap_u32]
 have:=Nat.xor_lt_two_pow (n:=32) hx hy
 omega
theorem and_u32 {x y : Nat} (hx : x < 4294967296) (hy : y < 4294967296) : IntKind.u32.wrap (((BitVec.ofInt IntKind.u32.bits (x : Int) &&& BitVec.ofInt IntKind.u32.bits (y : Int)).toNat : Nat) : Int)=((x &&& y : Nat) : Int):=by
 rw [bv32,bv32]
 show IntKind.u32.wrap (((BitVec.ofNat 32 x &&& BitVec.ofNat 32 y).toNat : Nat) : Int)=_
 rw [BitVec.toNat_and,BitVec.toNat_ofNat,BitVec.toNat_ofNat,Nat.mod_eq_of_lt (show x < 2 ^ 32 from hx),Nat.mod_eq_of_lt (show y < 2 ^ 32 from hy),wrap_u32]
 have : x &&& y≤x:=Nat.and_le_left
 omega
theorem com_u32 {x : Nat} (h : x < 4294967296) : IntKind.u32.wrap (((BitVec.ofInt IntKind.u32.bits (if IntKind.u32.signed then -1 else IntKind.u32.max) ^^^ BitVec.ofInt IntKind.u32.bits (x : Int)).toNat : Nat) : Int)=((4294967295 - x : Nat) : Int):=by
 have e : BitVec.ofInt IntKind.u32.bits (if IntKind.u32.signed then -1 else IntKind.u32.max)=BitVec.allOnes 32:=by
   show BitVec.ofInt 32 IntKind.u32.max=_
   decide
 rw [e,bv32]
 show IntKind.u32.wrap (((BitVec.allOnes 32 ^^^ BitVec.ofNat 32 x).toNat : Nat) : Int)=_
 rw [BitVec.allOnes_xor,BitVec.toNat_not,BitVec.toNat_ofNat,wrap_u32]
 rw [Nat.mod_eq_of_lt (show x < 2 ^ 32 from h)]
 omega
theorem or_u64 {x y : Nat} (hx : x < 18446744073709551616) (hy : y < 18446744073709551616) : IntKind.u64.wrap (((BitVec.ofInt IntKind.u64.bits (x : Int) ||| BitVec.ofInt IntKind.u64.bits (y : Int)).toNat : Nat) : Int)=((x ||| y : Nat) : Int):=by
 rw [bv64,bv64]
 show IntKind.u64.wrap (((BitVec.ofNat 64 x ||| BitVec.ofNat 64 y).toNat : Nat) : Int)=_
 rw [BitVec.toNat_or,BitVec.toNat_ofNat,BitVec.toNat_ofNat,Nat.mod_eq_of_lt (show x < 2 ^ 64 from hx),Nat.mod_eq_of_lt (show y < 2 ^ 64 from hy),wrap_u64]
 have:=Nat.or_lt_two_pow (n:=64) hx hy
 omega
theorem and_u64 {x y : Nat} (hx : x < 18446744073709551616) (hy : y < 18446744073709551616) : IntKind.u64.wrap (((BitVec.ofInt IntKind.u64.bits (x : Int) &&& BitVec.ofInt IntKind.u64.bits (y : Int)).toNat : Nat) : Int)=((x &&& y : Nat) : Int):=by
 rw [bv64,bv64]
 show IntKind.u64.wrap (((BitVec.ofNat 64 x &&& BitVec.ofNat 64 y).toNat : Nat) : Int)=_
 rw [BitVec.toNat_and,BitVec.toNat_ofNat,BitVec.toNat_ofNat,Nat.mod_eq_of_lt (show x < 2 ^ 64 from hx),Nat.mod_eq_of_lt (show y < 2 ^ 64 from hy),wrap_u64]
 have : x &&& y≤x:=Nat.and_le_left
 omega
theorem u8_lt (b : UInt8) : b.toNat < 256:=b.toNat_lt
/-! Sums. -/
def crcBit (x : Nat) : Nat:=if x % 2=1 then x / 2 ^^^ 3988292384 else x / 2
def crcBits : Nat→Nat→Nat
 | 0,y=>y
 | k+1,y=>crcBit (crcBits k y)
def crcByte (x : Nat) (b : UInt8) : Nat:=crcBits 8 (x ^^^ b.toNat)
def crcL (bs : List UInt8) : Nat:=bs.foldl crcByte 4294967295
def crcSum (bs : List UInt8) : Nat:=4294967295 - crcL bs
theorem crcBit_lt {x : Nat} (h : x < 4294967296) : crcBit x < 4294967296:=by
 unfold crcBit
 split
 · exact Nat.xor_lt_two_pow (n:=32) (by show x / 2 < 4294967296; omega) (by decide)
 · omega
theorem crcBits_lt {x : Nat} (h : x < 4294967296) : ∀ k,crcBits k x < 4294967296
 | 0=>h
 | k+1=>crcBit_lt (crcBits_lt h k)
theorem crcByte_lt {x : Nat} (b : UInt8) (h : x < 4294967296) : crcByte x b < 4294967296:=by
 refine crcBits_lt (Nat.xor_lt_two_pow (n:=32) h ?_) 8
 have:=u8_lt b
 show b.toNat < 4294967296
 omega
theorem crcFold_lt (bs : List UInt8) : ∀ {x : Nat},x < 4294967296→bs.foldl crcByte x < 4294967296:=by
 induction bs with
 | nil=>exact fun h=>h
 | cons b bs ih=>exact fun h=>ih (crcByte_lt b h)
theorem crcL_lt (bs : List UInt8) : crcL bs < 4294967296:=crcFold_lt bs (by decide)
theorem crcSum_lt (bs : List UInt8) : crcSum bs < 4294967296:=by unfold crcSum; omega
theorem crcL_succ {bs : List UInt8} {i : Nat} (h : i < bs.length) : crcL (bs.take (i+1))=crcByte (crcL (bs.take i)) bs[i]:=by
 rw [crcL,List.take_succ_eq_append_getElem h,List.foldl_append]; rfl
theorem crc_and1 {x : Nat} (h : x < 4294967296) : IntKind.u32.wrap (((BitVec.ofInt IntKind.u32.bits (x : Int) &&& BitVec.ofInt IntKind.u32.bits 1).toNat : Nat) : Int)=((x % 2 : Nat) : Int):=by
 have h1:=and_u32 (y:=1) h (by decide)
 rw [Nat.and_one_is_mod] at h1; exact h1
theorem crc_neg {m : Nat} (h : m < 2) : IntKind.u32.wrap (0 - (m : Int))=((if m=1 then 4294967295 else 0 : Nat) : Int):=by
 rcases (by omega : m=0∨m=1) with rfl | rfl <;> decide
theorem crc_poly (m : Nat) : IntKind.u32.wrap (((BitVec.ofInt IntKind.u32.bits 3988292384 &&& BitVec.ofInt IntKind.u32.bits ((if m=1 then 4294967295 else 0 : Nat) : Int)).toNat : Nat) : Int)=((if m=1 then 3988292384 else 0 : Nat) : Int):=by
 by_cases h : m=1
 · rw [if_pos h,if_pos h]; decide
 · rw [if_neg h,if_neg h]; decide
theorem crc_xor {x m : Nat} (hx : x < 4294967296) : IntKind.u32.wrap (((BitVec.ofInt IntKind.u32.bits ((x / 2 : Nat) : Int) ^^^ BitVec.ofInt IntKind.u32.bits ((if x % 2=1 then 3988292384 else 0 : Nat) : Int)).toNat : Nat) : Int)=((crcBit x : Nat) : Int):=by
 rw [xor_u32 (by omega) (by split <;> decide),crcBit]
 split
 · rfl
 · rw [Nat.xor_zero]
theorem crc_xorP {x : Nat} (hx : x < 4294967296) : IntKind.u32.wrap (((BitVec.ofInt IntKind.u32.bits ((x / 2 : Nat) : Int) ^^^ BitVec.ofInt IntKind.u32.bits 3988292384).toNat : Nat) : Int)=((x / 2 ^^^ 3988292384 : Nat) : Int):=xor_u32 (y:=3988292384) (by omega) (by decide)
def fourL (x : Nat) : List UInt8:=[UInt8.ofNat (x / 16777216),UInt8.ofNat (x / 65536),UInt8.ofNat (x / 256),UInt8.ofNat x]
theorem u8nat (n : Nat) : IntKind.u8.wrap (n : Int)=((UInt8.ofNat n).toNat : Int):=by
 rw [wrap_u8,UInt8.toNat_ofNat']; omega
def unI (x : Int) : Nat:=(x % 4294967296).toNat
theorem wrap_un (x : Int) : IntKind.u32.wrap x=((unI x : Nat) : Int):=by rw [wrap_u32,unI]; omega
def gameB (g : Nat→Int) : List UInt8:=(List.range 32).flatMap fun i=>fourL (unI (g i))
def gameBn (g : Nat→Int) (n : Nat) : List UInt8:=(List.range n).flatMap fun i=>fourL (unI (g i))
theorem gameBn_succ (g : Nat→Int) (n : Nat) : gameBn g (n+1)=gameBn g n++fourL (unI (g n)):=by simp [gameBn,List.range_succ]
theorem gameBn_len (g : Nat→Int) (n : Nat) : (gameBn g n).length=4*n:=by
 induction n with
 | zero=>rfl
 | succ n ih=>rw [gameBn_succ,List.length_append,ih]; simp [fourL]; omega
theorem gameB_len (g : Nat→Int) : (gameB g).length=128:=gameBn_len g 32
section
variable {W w : World} {L L' R : List SP} {n c m : Nat} {ad : Option Addr} {bs : List UInt8}
theorem crc_more (hs : St W w L) (hb : bs.length≤1099511627776) (hp : ∀ w',St W w' L→RdB w' ad bs.length bs) :
   Calls Tryz.prog 152 #[.int .u32 0,.slice ad bs.length c] w fun e w'=>e=.returned (.int .u32 (crcSum bs))∧St W w' L:=by
 refine calls_enter Tryz.func152 rfl Tryz.ntmps152 (Nat.le_of_ble_eq_true rfl) ?_
 intro a ha
 replace ha : Fr a 33 [(0,_),(1,_)]:=ha
 refine WS<|WR ?_
 refine S1 ha fun a ha=>?_
 refine LN<|TN<|WS<|WR ?_
 refine S1 ha fun a ha=>?_
 refine SK (st_set ha rfl (ex_com ha) rfl fun a ha=>?_)
 refine S1 ha fun a ha=>?_
 refine LN ?_
 rw [show IntKind.u32.wrap ((BitVec.ofInt IntKind.u32.bits (if IntKind.u32.signed then -1 else IntKind.u32.max) ^^^ BitVec.ofInt IntKind.u32.bits 0).toNat : Int)=((crcL (bs.take 0) : Nat) : Int) from rfl] at ha
 refine TN<|WS<|WS<|WR ?_
 iterate 3 (refine S1 ha fun a ha=>?_)
 refine LN<|TN<|wp_block ?_
 refine wp_loop_ghost (fun μ a w=>∃ (i : Nat),(μ=bs.length - i∧i≤bs.length)∧Fr a 33 [(5,.int .u32 (crcL (bs.take i))),(10,.slice ad bs.length c),(11,.int .i64 bs.length),(12,.int .i64 i)]∧St W w L) (bs.length) ?_ ?_
 · exact ⟨0,⟨rfl,by omega⟩,ha.keep [5,10,11,12],hs⟩
 ·
  clear ha hs
  rintro μ a w ⟨i,⟨rfl,hi⟩,ha,hs⟩
  refine WS<|WR ?_
  refine S1 ha fun a ha=>?_
  refine LN<|TN<|WS ?_
  refine WI ha (fun hc0=>?_) (fun hc0=>?_)
  ·
   obtain ⟨bb,oo,rfl,hr⟩:=(hp _ hs).get (by omega)
   have hil : i < bs.length:=by omega
   have hx:=crcL_lt (bs.take i)
   have hb8:=u8_lt bs[i]
   refine WK<|TN<|WS<|wp_block<|WS<|WR ?_
   refine SK (st_set ha rfl (ex_indexAddr ha Tryz.underlying22 Ty.t5 (by omega)) rfl fun a ha=>?_)
   rw [Nat.mul_one] at ha
   refine SL ha (hr i _ (bc_at hil)) fun a ha=>?_
   refine S1 ha fun a ha=>?_
   refine LN<|TN<|WS<|WR ?_
   iterate 2 (refine S1 ha fun a ha=>?_)
   refine SK (st_set ha rfl (ex_convIIs ha Tryz.underlying5 Tryz.underlying38 (by rw [wrap_u32]; omega)) rfl fun a ha=>?_)
   refine SK (st_set ha rfl (ex_xor ha) rfl fun a ha=>?_)
   rw [xor_u32 hx (by omega)] at ha
   refine S1d ha fun a ha=>?_
   refine LN<|TN<|WS<|WR ?_
   refine S1 ha fun a ha=>?_
   refine LN ?_
   have hy : crcL (bs.take i) ^^^ bs[i].toNat < 4294967296:=Nat.xor_lt_two_pow (n:=32) hx (by show _ < 4294967296; omega)
   have hcs:=crcL_succ hil
   rw [crcByte] at hcs
   generalize crcL (bs.take i) ^^^ bs[i].toNat=y at ha hy hcs
   refine TN<|wp_block ?_
   refine wp_loop_ghost (fun μ a w=>∃ (k : Nat),(μ=8 - k∧k≤8)∧Fr a 33 [(5,.int .u32 (crcBits k y)),(10,.slice (some ⟨bb,oo,none⟩) bs.length c),(11,.int .i64 bs.length),(12,.int .i64 i),(20,.int .i64 k)]∧St W w L) (8) ?_ ?_
   · exact ⟨0,⟨rfl,by omega⟩,ha.keep [5,10,11,12,20],hs⟩
   ·
    clear ha hs
    rintro μ a w ⟨k,⟨rfl,hk⟩,ha,hs⟩
    refine WS<|WR ?_
    refine S1 ha fun a ha=>?_
    refine LN<|TN<|WS ?_
    refine WI ha (fun hc1=>?_) (fun hc1=>?_)
    ·
     have hyk:=crcBits_lt hy k
     refine WK<|TN<|WS<|wp_block<|WR ?_
     refine S1 ha fun a ha=>?_
     refine SK (st_set ha rfl (ex_shr ha (by decide)) rfl fun a ha=>?_)
     rw [show ((crcBits k y : Nat) : Int).fdiv (2 ^ 1)=((crcBits k y / 2 : Nat) : Int) from fdivN _ 2] at ha
     refine S1 ha fun a ha=>?_
     refine SK (st_set ha rfl (ex_and ha) rfl fun a ha=>?_)
     rw [crc_and1 hyk] at ha
     refine SK (st_set ha rfl (ex_neg ha) rfl fun a ha=>?_)
     rw [crc_neg (Nat.mod_lt _ (by decide))] at ha
     refine SK (st_set ha rfl (ex_and ha) rfl fun a ha=>?_)
     rw [crc_poly] at ha
     refine SK (st_set ha rfl (ex_xor ha) rfl fun a ha=>?_)
     rw [crc_xor (m:=0) hyk] at ha
     refine S1d ha fun a ha=>?_
     refine LN<|BN<|TN<|WR ?_
     refine SK (st_set ha rfl (ex_addI ha (by omega) (by omega)) rfl fun a ha=>?_)
     refine S1d ha fun a ha=>?_
     refine LN<|TN ?_
     exact ⟨8 - (k+1),by omega,k+1,⟨rfl,by omega⟩,ha.keep [5,10,11,12,20],hs⟩
    ·
     obtain rfl : k=8:=by omega
     rw [← hcs] at ha
     refine wp_exit<|TE<|TE<|blk_e<|BN<|TN<|WR ?_
     refine SK (st_set ha rfl (ex_addI ha (by omega) (by omega)) rfl fun a ha=>?_)
     refine S1d ha fun a ha=>?_
     refine LN<|TN ?_
     exact ⟨bs.length - (i+1),by omega,i+1,⟨rfl,by omega⟩,ha.keep [5,10,11,12],hs⟩
  ·
   obtain rfl : i=bs.length:=by omega
   rw [List.take_length] at ha
   refine wp_exit<|TE<|TE<|blk_e<|TN<|WS<|WR ?_
   refine S1 ha fun a ha=>?_
   refine SK (st_set ha rfl (ex_com ha) rfl fun a ha=>?_)
   rw [com_u32 (crcL_lt bs)] at ha
   refine S1 ha fun a ha=>?_
   refine LN<|TN<|wp_ret ?_
   refine ret1 ha rfl ?_
   exact ⟨rfl,hs⟩
theorem crc_sum (hs : St W w L) (hb : bs.length≤1099511627776) (hp : ∀ w',St W w' L→RdB w' ad bs.length bs) :
   Calls Tryz.prog 127 #[.slice ad bs.length c] w fun e w'=>e=.returned (.int .u32 (crcSum bs))∧St W w' L:=by
 refine calls_enter Tryz.func127 rfl Tryz.ntmps127 (Nat.le_of_ble_eq_true rfl) ?_
 intro a ha
 replace ha : Fr a 5 [(0,_)]:=ha
 refine WS<|WR ?_
 refine S1 ha fun a ha=>?_
 refine LN<|TN<|WS<|WR ?_
 refine S1 ha fun a ha=>?_
 refine SK (st_call ha rfl Ty.c152 rfl (crc_more hs hb hp) ?_); clear ha hs
 rintro e w ⟨rfl,hs⟩
 refine ⟨_,rfl,?_⟩
 intro a ha
 refine S1d ha fun a ha=>?_
 refine LN<|TN<|wp_ret ?_
 refine ret1 ha rfl ?_
 exact ⟨rfl,hs⟩
theorem refSum_spec (hs : St W w L) (hb : bs.length≤1099511627776) (hp : ∀ w',St W w' L→RdB w' ad bs.length bs) :
   Calls Tryz.prog 46 #[.slice ad bs.length c] w fun e w'=>e=.returned (.int .u32 (crcSum bs))∧St W w' L:=by
 refine calls_enter Tryz.func46 rfl Tryz.ntmps46 (Nat.le_of_ble_eq_true rfl) ?_
 intro a ha
 replace ha : Fr a 33 [(0,_)]:=ha
 refine WS<|WR ?_
 refine S1 ha fun a ha=>?_
 refine LN<|TN<|WS<|WR ?_
 refine S1 ha fun a ha=>?_
 refine LN<|TN<|WS<|WS<|WR ?_
 refine S1 ha fun a ha=>?_
 refine LN<|TN<|wp_block ?_
 refine wp_loop_ghost (fun μ a w=>∃ (i : Nat),(μ=bs.length - i∧i≤bs.length)∧Fr a 33 [(0,.slice ad bs.length c),(3,.int .u32 (crcL (bs.take i))),(4,.int .i64 i)]∧St W w L) (bs.length) ?_ ?_
 · exact ⟨0,⟨rfl,by omega⟩,ha.keep [0,3,4],hs⟩
 ·
  clear ha hs
  rintro μ a w ⟨i,⟨rfl,hi⟩,ha,hs⟩
  refine WS<|WS<|WR ?_
  iterate 4 (refine S1 ha fun a ha=>?_)
  refine LN<|TN ?_
  refine WI ha (fun hc0=>?_) (fun hc0=>?_)
  ·
   obtain ⟨bb,oo,rfl,hr⟩:=(hp _ hs).get (by omega)
   have hil : i < bs.length:=by omega
   have hx:=crcL_lt (bs.take i)
   have hb8:=u8_lt bs[i]
   refine WK<|TN<|WS<|wp_block<|WS<|WR ?_
   iterate 3 (refine S1 ha fun a ha=>?_)
   refine SK (st_set ha rfl (ex_indexAddr ha Tryz.underlying22 Ty.t5 (by omega)) rfl fun a ha=>?_)
   rw [Nat.mul_one] at ha
   refine SL ha (hr i _ (bc_at hil)) fun a ha=>?_
   refine SK (st_set ha rfl (ex_convIIs ha Tryz.underlying5 Tryz.underlying38 (by rw [wrap_u32]; omega)) rfl fun a ha=>?_)
   refine SK (st_set ha rfl (ex_xor ha) rfl fun a ha=>?_)
   rw [xor_u32 hx (by omega)] at ha
   refine S1d ha fun a ha=>?_
   refine LN<|TN<|WS<|WR ?_
   refine S1 ha fun a ha=>?_
   refine LN ?_
   have hy : crcL (bs.take i) ^^^ bs[i].toNat < 4294967296:=Nat.xor_lt_two_pow (n:=32) hx (by show _ < 4294967296; omega)
   have hcs:=crcL_succ hil
   rw [crcByte] at hcs
   generalize crcL (bs.take i) ^^^ bs[i].toNat=y at ha hy hcs
   refine TN<|wp_block ?_
   refine wp_loop_ghost (fun μ a w=>∃ (k : Nat),(μ=8 - k∧k≤8)∧Fr a 33 [(0,.slice (some ⟨bb,oo,none⟩) bs.length c),(3,.int .u32 (crcBits k y)),(4,.int .i64 i),(5,.int .i64 k)]∧St W w L) (8) ?_ ?_
   · exact ⟨0,⟨rfl,by omega⟩,ha.keep [0,3,4,5],hs⟩
   ·
    clear ha hs
    rintro μ a w ⟨k,⟨rfl,hk⟩,ha,hs⟩
    refine WS<|WS<|WR ?_
    iterate 2 (refine S1 ha fun a ha=>?_)
    refine LN<|TN ?_
    refine WI ha (fun hc1=>?_) (fun hc1=>?_)
    ·
     have hyk:=crcBits_lt hy k
     have hb1 : crcBits (k+1) y=crcBit (crcBits k y):=rfl
     refine WK<|TN<|WS<|wp_block<|WS<|WR ?_
     refine S1 ha fun a ha=>?_
     refine SK (st_set ha rfl (ex_rem ha (by decide)) rfl fun a ha=>?_)
     rw [show ((crcBits k y : Nat) : Int).tmod 2=((crcBits k y % 2 : Nat) : Int) from remN _ 2] at ha
     refine S1 ha fun a ha=>?_
     refine LN<|TN ?_
     refine WI ha (fun hc2=>?_) (fun hc2=>?_)
     ·
      rw [crcBit,if_pos (by omega)] at hb1
      refine WR ?_
      refine S1 ha fun a ha=>?_
      refine SK (st_set ha rfl (ex_shr ha (by decide)) rfl fun a ha=>?_)
      rw [show ((crcBits k y : Nat) : Int).fdiv (2 ^ 1)=((crcBits k y / 2 : Nat) : Int) from fdivN _ 2] at ha
      refine SK (st_set ha rfl (ex_xor ha) rfl fun a ha=>?_)
      rw [crc_xorP hyk,← hb1] at ha
      refine S1d ha fun a ha=>?_
      refine LN<|BN<|TN<|WR ?_
      refine S1 ha fun a ha=>?_
      refine SK (st_set ha rfl (ex_addI ha (by omega) (by omega)) rfl fun a ha=>?_)
      refine S1d ha fun a ha=>?_
      refine LN<|TN ?_
      exact ⟨8 - (k+1),by omega,k+1,⟨rfl,by omega⟩,ha.keep [0,3,4,5],hs⟩
     ·
      rw [crcBit,if_neg (by omega)] at hb1
      refine WR ?_
      refine S1 ha fun a ha=>?_
      refine SK (st_set ha rfl (ex_shr ha (by decide)) rfl fun a ha=>?_)
      rw [show ((crcBits k y : Nat) : Int).fdiv (2 ^ 1)=((crcBits k y / 2 : Nat) : Int) from fdivN _ 2,← hb1] at ha
      refine S1d ha fun a ha=>?_
      refine LN<|BN<|TN<|WR ?_
      refine S1 ha fun a ha=>?_
      refine SK (st_set ha rfl (ex_addI ha (by omega) (by omega)) rfl fun a ha=>?_)
      refine S1d ha fun a ha=>?_
      refine LN<|TN ?_
      exact ⟨8 - (k+1),by omega,k+1,⟨rfl,by omega⟩,ha.keep [0,3,4,5],hs⟩
    ·
     obtain rfl : k=8:=by omega
     rw [← hcs] at ha
     refine wp_exit<|TE<|TE<|blk_e<|BN<|TN<|WR ?_
     refine S1 ha fun a ha=>?_
     refine SK (st_set ha rfl (ex_addI ha (by omega) (by omega)) rfl fun a ha=>?_)
     refine S1d ha fun a ha=>?_
     refine LN<|TN ?_
     exact ⟨bs.length - (i+1),by omega,i+1,⟨rfl,by omega⟩,ha.keep [0,3,4],hs⟩
  ·
   obtain rfl : i=bs.length:=by omega
   rw [List.take_length] at ha
   refine wp_exit<|TE<|TE<|blk_e<|TN<|WS<|WR ?_
   refine S1 ha fun a ha=>?_
   refine SK (st_set ha rfl (ex_com ha) rfl fun a ha=>?_)
   rw [com_u32 (crcL_lt bs)] at ha
   refine S1 ha fun a ha=>?_
   refine LN<|TN<|wp_ret ?_
   refine ret1 ha rfl ?_
   exact ⟨rfl,hs⟩
theorem four_shape {x : Nat} : [[Value.int .u8 (IntKind.u8.wrap ((x / 16777216 : Nat) : Int))],[Value.int .u8 (IntKind.u8.wrap ((x / 65536 : Nat) : Int))],[Value.int .u8 (IntKind.u8.wrap ((x / 256 : Nat) : Int))],[Value.int .u8 (IntKind.u8.wrap ((x : Nat) : Int))]].flatten=bc (fourL x):=by
 simp only [u8nat]; rfl
theorem St.fourS {b : Nat} {cs : List Value} {l : List UInt8} {e : Nat} (hs : St W w (blk b e cs::L)) (he : e=5) (hl : l.length=4) (h : cs=bc l) : St W w (Sl 5 1 (some ⟨b,0,none⟩) 4 4 (bc l)::L):=by
 subst h; subst he
 have h2 : St W w (blk b 5 ([]++bc l++[])::L):=by simpa using hs
 exact St.slShut (pre:=[]) (post:=[]) (n:=4) (c:=4) (sz:=1) (cs:=bc l) h2 (by rw [bc_len,hl]) (Nat.le_refl _) (Nat.zero_le _)
theorem num_four {x : Nat} (hs : St W w L) :
   Calls Tryz.prog 155 #[.int .u32 x] w fun e w'=>∃ ad,e=.returned (.slice ad 4 4)∧St W w' (Sl 5 1 ad 4 4 (bc (fourL x))::L):=by
 refine calls_enter Tryz.func155 rfl Tryz.ntmps155 (Nat.le_of_ble_eq_true rfl) ?_
 intro a ha
 replace ha : Fr a 15 [(0,_)]:=ha
 refine WS<|WR ?_
 refine S1 ha fun a ha=>?_
 refine LN<|TN<|WS<|WR ?_
 refine S1 ha fun a ha=>?_
 refine SK (st_set ha rfl (ex_shr ha (by decide)) rfl fun a ha=>?_)
 rw [show ((x : Nat) : Int).fdiv (2 ^ 24)=((x / 16777216 : Nat) : Int) from fdivN _ 16777216] at ha
 refine SK (st_set ha rfl (ex_convII ha Tryz.underlying38 Tryz.underlying5) rfl fun a ha=>?_)
 refine S1 ha fun a ha=>?_
 refine SK (st_set ha rfl (ex_shr ha (by decide)) rfl fun a ha=>?_)
 rw [show ((x : Nat) : Int).fdiv (2 ^ 16)=((x / 65536 : Nat) : Int) from fdivN _ 65536] at ha
 refine SK (st_set ha rfl (ex_convII ha Tryz.underlying38 Tryz.underlying5) rfl fun a ha=>?_)
 refine S1 ha fun a ha=>?_
 refine SK (st_set ha rfl (ex_shr ha (by decide)) rfl fun a ha=>?_)
 rw [show ((x : Nat) : Int).fdiv (2 ^ 8)=((x / 256 : Nat) : Int) from fdivN _ 256] at ha
 refine SK (st_set ha rfl (ex_convII ha Tryz.underlying38 Tryz.underlying5) rfl fun a ha=>?_)
 refine S1 ha fun a ha=>?_
 refine SK (st_set ha rfl (ex_convII ha Tryz.underlying38 Tryz.underlying5) rfl fun a ha=>?_)
 refine SK (st_buildSlice ha rfl hs Tryz.underlying22 Ty.t5 rfl rfl rfl rfl (by decide) (by decide) fun b14 a w ha hs ho=>?_)
 clear ho
 refine S1d ha fun a ha=>?_
 refine LN<|TN<|wp_ret ?_
 refine ret1 ha rfl ?_
 exact ⟨_,rfl,hs.fourS rfl rfl four_shape⟩
theorem refFour_spec {x : Nat} (hs : St W w L) :
   Calls Tryz.prog 44 #[.int .u32 x] w fun e w'=>∃ ad,e=.returned (.slice ad 4 4)∧St W w' (Sl 5 1 ad 4 4 (bc (fourL x))::L):=by
 refine calls_enter Tryz.func44 rfl Tryz.ntmps44 (Nat.le_of_ble_eq_true rfl) ?_
 intro a ha
 replace ha : Fr a 15 [(0,_)]:=ha
 refine WS<|WR ?_
 refine S1 ha fun a ha=>?_
 refine LN<|TN<|WS<|WR ?_
 refine S1 ha fun a ha=>?_
 refine SK (st_set ha rfl (ex_shr ha (by decide)) rfl fun a ha=>?_)
 rw [show ((x : Nat) : Int).fdiv (2 ^ 24)=((x / 16777216 : Nat) : Int) from fdivN _ 16777216] at ha
 refine SK (st_set ha rfl (ex_convII ha Tryz.underlying38 Tryz.underlying5) rfl fun a ha=>?_)
 refine S1 ha fun a ha=>?_
 refine SK (st_set ha rfl (ex_shr ha (by decide)) rfl fun a ha=>?_)
 rw [show ((x : Nat) : Int).fdiv (2 ^ 16)=((x / 65536 : Nat) : Int) from fdivN _ 65536] at ha
 refine SK (st_set ha rfl (ex_convII ha Tryz.underlying38 Tryz.underlying5) rfl fun a ha=>?_)
 refine S1 ha fun a ha=>?_
 refine SK (st_set ha rfl (ex_shr ha (by decide)) rfl fun a ha=>?_)
 rw [show ((x : Nat) : Int).fdiv (2 ^ 8)=((x / 256 : Nat) : Int) from fdivN _ 256] at ha
 refine SK (st_set ha rfl (ex_convII ha Tryz.underlying38 Tryz.underlying5) rfl fun a ha=>?_)
 refine S1 ha fun a ha=>?_
 refine SK (st_set ha rfl (ex_convII ha Tryz.underlying38 Tryz.underlying5) rfl fun a ha=>?_)
 refine SK (st_buildSlice ha rfl hs Tryz.underlying22 Ty.t5 rfl rfl rfl rfl (by decide) (by decide) fun b14 a w ha hs ho=>?_)
 clear ho
 refine S1d ha fun a ha=>?_
 refine LN<|TN<|wp_ret ?_
 refine ret1 ha rfl ?_
 exact ⟨_,rfl,hs.fourS rfl rfl four_shape⟩
theorem word_put {x : Int} (hs : St W w L) :
   Calls Tryz.prog 94 #[.int .i32 x] w fun e w'=>∃ ad,e=.returned (.slice ad 4 4)∧St W w' (Sl 5 1 ad 4 4 (bc (fourL (unI x)))::L):=by
 refine calls_enter Tryz.func94 rfl Tryz.ntmps94 (Nat.le_of_ble_eq_true rfl) ?_
 intro a ha
 replace ha : Fr a 18 [(0,_)]:=ha
 refine WS<|WR ?_
 refine S1 ha fun a ha=>?_
 refine LN<|TN<|WS<|WR ?_
 refine S1 ha fun a ha=>?_
 refine SK (st_set ha rfl (ex_convII ha Tryz.underlying21 Tryz.underlying38) rfl fun a ha=>?_)
 rw [wrap_un] at ha
 generalize unI x=x at ha ⊢
 refine S1 ha fun a ha=>?_
 refine LN<|TN<|WS<|WR ?_
 refine S1 ha fun a ha=>?_
 refine SK (st_set ha rfl (ex_shr ha (by decide)) rfl fun a ha=>?_)
 rw [show ((x : Nat) : Int).fdiv (2 ^ 24)=((x / 16777216 : Nat) : Int) from fdivN _ 16777216] at ha
 refine SK (st_set ha rfl (ex_convII ha Tryz.underlying38 Tryz.underlying5) rfl fun a ha=>?_)
 refine S1 ha fun a ha=>?_
 refine SK (st_set ha rfl (ex_shr ha (by decide)) rfl fun a ha=>?_)
 rw [show ((x : Nat) : Int).fdiv (2 ^ 16)=((x / 65536 : Nat) : Int) from fdivN _ 65536] at ha
 refine SK (st_set ha rfl (ex_convII ha Tryz.underlying38 Tryz.underlying5) rfl fun a ha=>?_)
 refine S1 ha fun a ha=>?_
 refine SK (st_set ha rfl (ex_shr ha (by decide)) rfl fun a ha=>?_)
 rw [show ((x : Nat) : Int).fdiv (2 ^ 8)=((x / 256 : Nat) : Int) from fdivN _ 256] at ha
 refine SK (st_set ha rfl (ex_convII ha Tryz.underlying38 Tryz.underlying5) rfl fun a ha=>?_)
 refine S1 ha fun a ha=>?_
 refine SK (st_set ha rfl (ex_convII ha Tryz.underlying38 Tryz.underlying5) rfl fun a ha=>?_)
 refine SK (st_buildSlice ha rfl hs Tryz.underlying22 Ty.t5 rfl rfl rfl rfl (by decide) (by decide) fun b17 a w ha hs ho=>?_)
 clear ho
 refine S1d ha fun a ha=>?_
 refine LN<|TN<|wp_ret ?_
 refine ret1 ha rfl ?_
 exact ⟨_,rfl,hs.fourS rfl rfl four_shape⟩
end
end Go.Proofs.YtagpkhbkdbaigaaGreat
