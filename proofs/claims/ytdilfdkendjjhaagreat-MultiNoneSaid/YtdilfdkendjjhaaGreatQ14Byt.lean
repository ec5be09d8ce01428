/- Bytes: bits of numbers, sums, numbers of four bytes, games as bytes. -/
import Derived.Test.YtdilfdkendjjhaaGreatQ11Num
import Derived.Test.YtdilfdkendjjhaaGreatQ04Ty
import Derived.Test.YtdilfdkendjjhaaGreatQ02More2
namespace Go.Proofs.YtdilfdkendjjhaaGreat
open Go.RowKit
set_option linter.unusedVariables false
set_option linter.unusedSimpArgs false
set_option maxRecDepth 10000
set_option synthInstance.maxSize 4000
set_option synthInstance.maxHeartbeats 400000
section
section
variable {P:Program}{ops:Array Oper}{Q:Exit→Act→World→Prop}{a:Act}{w w' W:World}{K:Act→World→Prop}{n d:Nat}{l:List (Nat×Value)}{v:Value}{L R:List SP}
theorem st_appendT {s x t z sz by' e ad k c ad2 m c2 news ty ps af g}{cs:List Value}(ha:Fr a n l)(hw:Region.wanted ⟨some d,.call ⟨.builtin .append,#[s,x],#[t,t]⟩,ty,ps,af,g⟩ (yielded ops a.tmps)=true)(hs:St W w L)
   (ht:P.underlying t=some (.slice e)) (hi:TI P e z sz by') (hf:okB d n l=true) (hz:z.cells.size=sz) (hb:0<by')
   [e1:Ev l s (.slice ad k c)] [pk:PickSl L ad k c e sz cs R] [e2:Ev l x (.slice ad2 m c2)] (hr:0<m→∃ b2 off2,ad2=some ⟨b2,off2,none⟩∧Rd w b2 off2 news) (hl:news.length=m*sz) (h1:∀ v∈news,v.oneCell'=true)
   (hsz:(k+m)*by'≤140737488355328)
   (h:∀ ad' c' a' w',Fr a' n ((d,.slice ad' (k+m) c')::l)→St W w' (Sl e sz ad' (k+m) c' (cs++news)::R)→K a' w') :
   StepK P ops Q ⟨some d,.call ⟨.builtin .append,#[s,x],#[t,t]⟩,ty,ps,af,g⟩ K a w:=by
 rcases Nat.eq_zero_or_pos m with h0 | h0
 · subst h0
   have hkc:=(hs.sl ad).2
   obtain rfl:news=[]:=List.eq_nil_of_length_eq_zero (by rw[hl,Nat.zero_mul])
   refine st_append0 (ad:=ad) (k:=k) (c:=c) (ad2:=ad2) (c2:=c2) ha hw ht hi hf hkc λa' ha'=>h ad c a' w ha' ?_
   rw[List.append_nil]
   exact hs.perm pk.perm
 · obtain⟨b2,off2,rfl,hrd⟩:=hr h0
   exact st_append ha hw hs ht hi hz hf hrd hl h1 h0 hb hsz h
end
theorem bc_at {bs:List UInt8}{i:Nat}(h:i<bs.length):(bc bs)[i]?=some (.int .u8 ((bs[i]).toNat:Int)):=by simp[bc,h]
theorem bc_app (a b:List UInt8):bc (a++b)=bc a++bc b:=by simp[bc]
theorem RdB.get {w:World}{ad:Option Addr}{m:Nat}{bs:List UInt8}(h:RdB w ad m bs)(h0:0<m):∃ b o,ad=some ⟨b,o,none⟩∧Rd w b o (bc bs):=by
 obtain⟨_,h2,h3⟩:=h
 cases hh:ad with
 | none=>have:=h2 hh;omega
 | some a =>
   obtain⟨b,o,rfl,h1⟩:=h3 a hh h0
   exact⟨b,o,rfl,h1⟩
theorem RdB.cutL {w:World}{ad:Option Addr}{bs:List UInt8}{c:Nat}(h:RdB w ad bs.length bs){lo:Nat}(hl:lo≤bs.length)(hc:bs.length≤c):RdB w (cutAd ad lo c 1) (bs.drop lo).length (bs.drop lo):=by
 refine⟨rfl,λe=>?_,λx hx h0=>?_⟩
 · rw[List.length_drop]
   rcases Nat.eq_zero_or_pos (bs.length-lo) with h0 | h0
   · exact h0
   · obtain⟨b,o,rfl,_⟩:=h.get (by omega)
     rw[cutAd_some (by omega)]at e;cases e
 · rw[List.length_drop]at h0
   obtain⟨b,o,rfl,hr⟩:=h.get (by omega)
   rw[cutAd_some (by omega)]at hx
   cases hx
   refine⟨b,o+lo*1,rfl,λj v hj=>?_⟩
   have h1:=hr (lo+j) v (by rw[bc,List.getElem?_map,← List.getElem?_drop,← List.getElem?_map];exact hj)
   rwa [show o+lo*1+j=o+(lo+j) from by omega]
theorem RdB.cutH {w:World}{ad:Option Addr}{bs:List UInt8}{m:Nat}(h:RdB w ad m bs){hi:Nat}(hl:hi≤bs.length):RdB w ad hi (bs.take hi):=by
 obtain⟨h1,h2,h3⟩:=h
 refine⟨by rw[List.length_take];omega,λe=>by have:=h2 e;omega,λx hx h0=>?_⟩
 obtain⟨b,o,e,hr⟩:=h3 x hx (by omega)
 refine⟨b,o,e,λj v hj=>hr j v ?_⟩
 rw[bc,List.map_take,List.getElem?_take]at hj
 split at hj
 · exact hj
 · cases hj
theorem bv32 (x:Nat):BitVec.ofInt IntKind.u32.bits (x:Int)=BitVec.ofNat 32 x:=BitVec.ofInt_natCast 32 x
theorem xor_u32 {x y:Nat}(hx:x<4294967296)(hy:y<4294967296):IntKind.u32.wrap (((BitVec.ofInt IntKind.u32.bits (x:Int) ^^^ BitVec.ofInt IntKind.u32.bits (y:Int)).toNat:Nat):Int)=((x ^^^ y:Nat):Int):=by
 rw[bv32,bv32]
 show IntKind.u32.wrap (((BitVec.ofNat 32 x ^^^ BitVec.ofNat 32 y).toNat:Nat):Int)=_
 rw[BitVec.toNat_xor,BitVec.toNat_ofNat,BitVec.toNat_ofNat,Nat.mod_eq_of_lt (show x<2 ^ 32 from hx),Nat.mod_eq_of_lt (show y<2 ^ 32 from hy),wrap_u32]
 have:=Nat.xor_lt_two_pow (n:=32) hx hy
 omega
theorem and_u32 {x y:Nat}(hx:x<4294967296)(hy:y<4294967296):IntKind.u32.wrap (((BitVec.ofInt IntKind.u32.bits (x:Int) &&& BitVec.ofInt IntKind.u32.bits (y:Int)).toNat:Nat):Int)=((x &&& y:Nat):Int):=by
 rw[bv32,bv32]
 show IntKind.u32.wrap (((BitVec.ofNat 32 x &&& BitVec.ofNat 32 y).toNat:Nat):Int)=_
 rw[BitVec.toNat_and,BitVec.toNat_ofNat,BitVec.toNat_ofNat,Nat.mod_eq_of_lt (show x<2 ^ 32 from hx),Nat.mod_eq_of_lt (show y<2 ^ 32 from hy),wrap_u32]
 have:x &&& y≤x:=Nat.and_le_left
 omega
theorem com_u32 {x:Nat}(h:x<4294967296):IntKind.u32.wrap (((BitVec.ofInt IntKind.u32.bits (if IntKind.u32.signed then -1 else IntKind.u32.max) ^^^ BitVec.ofInt IntKind.u32.bits (x:Int)).toNat:Nat):Int)=((4294967295-x:Nat):Int):=by
 have e:BitVec.ofInt IntKind.u32.bits (if IntKind.u32.signed then -1 else IntKind.u32.max)=BitVec.allOnes 32:=by
   show BitVec.ofInt 32 IntKind.u32.max=_
   decide
 rw[e,bv32]
 show IntKind.u32.wrap (((BitVec.allOnes 32 ^^^ BitVec.ofNat 32 x).toNat:Nat):Int)=_
 rw[BitVec.allOnes_xor,BitVec.toNat_not,BitVec.toNat_ofNat,wrap_u32]
 rw[Nat.mod_eq_of_lt (show x<2 ^ 32 from h)]
 omega
theorem u8_lt (b:UInt8):b.toNat<256:=b.toNat_lt
def crcBit (x:Nat):Nat:=if x%2=1 then x/2 ^^^ 3988292384 else x/2
def crcBits:Nat→Nat→Nat
 | 0,y=>y
 | k+1,y=>crcBit (crcBits k y)
def crcByte (x:Nat)(b:UInt8):Nat:=crcBits 8 (x ^^^ b.toNat)
def crcL (bs:List UInt8):Nat:=bs.foldl crcByte 4294967295
def crcSum (bs:List UInt8):Nat:=4294967295-crcL bs
theorem crcBit_lt {x:Nat}(h:x<4294967296):crcBit x<4294967296:=by
 unfold crcBit
 split
 · exact Nat.xor_lt_two_pow (n:=32) (by show x/2<4294967296;omega) (by decide)
 · omega
theorem crcBits_lt {x:Nat}(h:x<4294967296):∀ k,crcBits k x<4294967296
 | 0=>h
 | k+1=>crcBit_lt (crcBits_lt h k)
theorem crcByte_lt {x:Nat}(b:UInt8)(h:x<4294967296):crcByte x b<4294967296:=by
 refine crcBits_lt (Nat.xor_lt_two_pow (n:=32) h ?_) 8
 have:=u8_lt b
 show b.toNat<4294967296
 omega
theorem crcFold_lt (bs:List UInt8):∀ {x:Nat},x<4294967296→bs.foldl crcByte x<4294967296:=by
 induction bs with
 | nil=>exact λh=>h
 | cons b bs ih=>exact λh=>ih (crcByte_lt b h)
theorem crcL_lt (bs:List UInt8):crcL bs<4294967296:=crcFold_lt bs (by decide)
theorem crcSum_lt (bs:List UInt8):crcSum bs<4294967296:=by unfold crcSum;omega
theorem crcL_succ {bs:List UInt8}{i:Nat}(h:i<bs.length):crcL (bs.take (i+1))=crcByte (crcL (bs.take i)) bs[i]:=by
 rw[crcL,List.take_succ_eq_append_getElem h,List.foldl_append];rfl
theorem crc_and1 {x:Nat}(h:x<4294967296):IntKind.u32.wrap (((BitVec.ofInt IntKind.u32.bits (x:Int) &&& BitVec.ofInt IntKind.u32.bits 1).toNat:Nat):Int)=((x%2:Nat):Int):=by
 have h1:=and_u32 (y:=1) h (by decide)
 rw[Nat.and_one_is_mod]at h1;exact h1
theorem crc_neg {m:Nat}(h:m<2):IntKind.u32.wrap (0-(m:Int))=((if m=1 then 4294967295 else 0:Nat):Int):=by
 rcases (by omega:m=0∨m=1) with rfl | rfl <;> decide
theorem crc_poly (m:Nat):IntKind.u32.wrap (((BitVec.ofInt IntKind.u32.bits 3988292384 &&& BitVec.ofInt IntKind.u32.bits ((if m=1 then 4294967295 else 0:Nat):Int)).toNat:Nat):Int)=((if m=1 then 3988292384 else 0:Nat):Int):=by
 by_cases h:m=1
 · rw[if_pos h,if_pos h];decide
 · rw[if_neg h,if_neg h];decide
theorem crc_xor {x m:Nat}(hx:x<4294967296):IntKind.u32.wrap (((BitVec.ofInt IntKind.u32.bits ((x/2:Nat):Int) ^^^ BitVec.ofInt IntKind.u32.bits ((if x%2=1 then 3988292384 else 0:Nat):Int)).toNat:Nat):Int)=((crcBit x:Nat):Int):=by
 rw[xor_u32 (by omega) (by split <;> decide),crcBit]
 split
 · rfl
 · rw[Nat.xor_zero]
def fourL (x:Nat):List UInt8:=[UInt8.ofNat (x/16777216),UInt8.ofNat (x/65536),UInt8.ofNat (x/256),UInt8.ofNat x]
theorem u8nat (n:Nat):IntKind.u8.wrap (n:Int)=((UInt8.ofNat n).toNat:Int):=by
 rw[wrap_u8,UInt8.toNat_ofNat'];omega
def unI (x:Int):Nat:=(x%4294967296).toNat
theorem wrap_un (x:Int):IntKind.u32.wrap x=((unI x:Nat):Int):=by rw[wrap_u32,unI];omega
def gameB (g:Nat→Int):List UInt8:=(List.range 32).flatMap λi=>fourL (unI (g i))
def gameBn (g:Nat→Int)(n:Nat):List UInt8:=(List.range n).flatMap λi=>fourL (unI (g i))
theorem gameBn_succ (g:Nat→Int)(n:Nat):gameBn g (n+1)=gameBn g n++fourL (unI (g n)):=by simp[gameBn,List.range_succ]
theorem gameBn_len (g:Nat→Int)(n:Nat):(gameBn g n).length=4*n:=by
 induction n with
 | zero=>rfl
 | succ n ih=>rw[gameBn_succ,List.length_append,ih];simp[fourL];omega
theorem gameB_len (g:Nat→Int):(gameB g).length=128:=gameBn_len g 32
section
variable {W w:World}{L:List SP}{n c m:Nat}{ad:Option Addr}{bs:List UInt8}
theorem crc_more (hs:St W w L)(hb:bs.length≤1099511627776)(hp:∀ w',St W w' L→RdB w' ad bs.length bs) :
   Calls Tryz.prog 267 #[.int .u32 0,.slice ad bs.length c] w λe w'=>e=.returned (.int .u32 (crcSum bs))∧St W w' L:=by
 refine EN Tryz.func267 Tryz.ntmps267 rfl rfl λa ha=>?_
 refine RN 6 ha hs λa ha=>?_
 rw[show IntKind.u32.wrap ((BitVec.ofInt IntKind.u32.bits (if IntKind.u32.signed then -1 else IntKind.u32.max) ^^^ BitVec.ofInt IntKind.u32.bits 0).toNat:Int)=((crcL (bs.take 0):Nat):Int) from rfl]at ha
 refine RN 5 ha hs λa ha=>?_
 refine wp_loop_ghost (λμ a w=>∃ (i:Nat),(μ=bs.length-i∧i≤bs.length)∧Fr a 33 [(5,.int .u32 (crcL (bs.take i))),(10,.slice ad bs.length c),(11,.int .i64 bs.length),(12,.int .i64 i)]∧St W w L) (bs.length) (⟨0,⟨rfl,by omega⟩,ha.keep [5,10,11,12],hs⟩) ?_
 clear ha hs
 rintro μ a w ⟨i,⟨rfl,hi⟩,ha,hs⟩
 refine IF 3 ha hs (λhc0 a ha=>?_) λhc0 a ha=>?_
 ·
  obtain⟨bb,oo,rfl,hr⟩:=(hp _ hs).get (by omega)
  have hil:i<bs.length:=by omega
  have hx:=crcL_lt (bs.take i)
  have hb8:=u8_lt bs[i]
  refine RN 3 ha hs λa ha=>?_
  refine SS ha (ld1 ha (hr i _ (bc_at hil))) λa ha=>?_
  refine SX 4 ha hs (by rw[wrap_u32];omega) λa ha=>?_
  refine RN 1 ha hs λa ha=>?_
  rw[xor_u32 hx (by omega)]at ha
  refine RN 3 ha hs λa ha=>?_
  have hy:crcL (bs.take i) ^^^ bs[i].toNat<4294967296:=Nat.xor_lt_two_pow (n:=32) hx (by show _<4294967296;omega)
  have hcs:=crcL_succ hil
  rw[crcByte]at hcs
  generalize crcL (bs.take i) ^^^ bs[i].toNat=y at ha hy hcs
  refine wp_loop_ghost (λμ a w=>∃ (k:Nat),(μ=8-k∧k≤8)∧Fr a 33 [(5,.int .u32 (crcBits k y)),(10,.slice (some ⟨bb,oo,none⟩) bs.length c),(11,.int .i64 bs.length),(12,.int .i64 i),(20,.int .i64 k)]∧St W w L) (8) (⟨0,⟨rfl,by omega⟩,ha.keep [5,10,11,12,20],hs⟩) ?_
  clear ha hs
  rintro μ a w ⟨k,⟨rfl,hk⟩,ha,hs⟩
  refine IF 3 ha hs (λhc1 a ha=>?_) λhc1 a ha=>?_
  ·
   have hyk:=crcBits_lt hy k
   refine RN 3 ha hs λa ha=>?_
   rw[show ((crcBits k y:Nat):Int).fdiv (2 ^ 1)=((crcBits k y/2:Nat):Int) from fdivN _ 2]at ha
   refine RN 2 ha hs λa ha=>?_
   rw[crc_and1 hyk]at ha
   refine RN 1 ha hs λa ha=>?_
   rw[crc_neg (Nat.mod_lt _ (by decide))]at ha
   refine RN 1 ha hs λa ha=>?_
   rw[crc_poly]at ha
   refine RN 1 ha hs λa ha=>?_
   rw[crc_xor (m:=0) hyk]at ha
   refine RN 3 ha hs λa ha=>?_
   exact⟨8-(k+1),by omega,k+1,⟨rfl,by omega⟩,ha.keep [5,10,11,12,20],hs⟩
  obtain rfl:k=8:=by omega
  rw[← hcs]at ha
  refine RN 2 ha hs λa ha=>?_
  exact⟨bs.length-(i+1),by omega,i+1,⟨rfl,by omega⟩,ha.keep [5,10,11,12],hs⟩
 obtain rfl:i=bs.length:=by omega
 rw[List.take_length]at ha
 refine RN 3 ha hs λa ha=>?_
 rw[com_u32 (crcL_lt bs)]at ha
 refine RT 1 ha hs ?_
 exact⟨rfl,hs⟩
theorem crc_sum (hs:St W w L)(hb:bs.length≤1099511627776)(hp:∀ w',St W w' L→RdB w' ad bs.length bs) :
   Calls Tryz.prog 224 #[.slice ad bs.length c] w λe w'=>e=.returned (.int .u32 (crcSum bs))∧St W w' L:=by
 refine EN Tryz.func224 Tryz.ntmps224 rfl rfl λa ha=>?_
 refine CL 4 ha hs (crc_more hs hb hp) λa w ha hs=>?_
 refine RT 1 ha hs ?_
 exact⟨rfl,hs⟩
theorem four_shape {x:Nat}:[[Value.int .u8 (IntKind.u8.wrap ((x/16777216:Nat):Int))],[Value.int .u8 (IntKind.u8.wrap ((x/65536:Nat):Int))],[Value.int .u8 (IntKind.u8.wrap ((x/256:Nat):Int))],[Value.int .u8 (IntKind.u8.wrap ((x:Nat):Int))]].flatten=bc (fourL x):=by
 simp only[u8nat];rfl
theorem St.fourS {b:Nat}{cs:List Value}{l:List UInt8}{e:Nat}(hs:St W w (blk b e cs::L))(he:e=5)(hl:l.length=4)(h:cs=bc l):St W w (Sl 5 1 (some ⟨b,0,none⟩) 4 4 (bc l)::L):=by
 subst h;subst he
 have h2:St W w (blk b 5 ([]++bc l++[])::L):=by simpa using hs
 exact St.slShut (pre:=[]) (post:=[]) (n:=4) (c:=4) (sz:=1) (cs:=bc l) h2 (by rw[bc_len,hl]) (Nat.le_refl _) (Nat.zero_le _)
theorem word_put {x:Int}(hs:St W w L) :
   Calls Tryz.prog 154 #[.int .i32 x] w λe w'=>∃ ad,e=.returned (.slice ad 4 4)∧St W w' (Sl 5 1 ad 4 4 (bc (fourL (unI x)))::L):=by
 refine EN Tryz.func154 Tryz.ntmps154 rfl rfl λa ha=>?_
 refine RN 4 ha hs λa ha=>?_
 refine SS ha (ex_convII ha Tryz.underlying21 Tryz.underlying68) λa ha=>?_
 rw[wrap_un]at ha
 generalize unI x=x at ha ⊢
 refine RN 4 ha hs λa ha=>?_
 rw[show ((x:Nat):Int).fdiv (2 ^ 24)=((x/16777216:Nat):Int) from fdivN _ 16777216]at ha
 refine SS ha (ex_convII ha Tryz.underlying68 Tryz.underlying5) λa ha=>?_
 refine RN 2 ha hs λa ha=>?_
 rw[show ((x:Nat):Int).fdiv (2 ^ 16)=((x/65536:Nat):Int) from fdivN _ 65536]at ha
 refine SS ha (ex_convII ha Tryz.underlying68 Tryz.underlying5) λa ha=>?_
 refine RN 2 ha hs λa ha=>?_
 rw[show ((x:Nat):Int).fdiv (2 ^ 8)=((x/256:Nat):Int) from fdivN _ 256]at ha
 refine SS ha (ex_convII ha Tryz.underlying68 Tryz.underlying5) λa ha=>?_
 refine RN 1 ha hs λa ha=>?_
 refine SS ha (ex_convII ha Tryz.underlying68 Tryz.underlying5) λa ha=>?_
 refine RN 0 ha hs λa ha=>?_
 refine st_buildSlice ha rfl hs Tryz.underlying22 Ty.t5 rfl rfl rfl rfl (by decide) (by decide) λb17 a w ha hs ho=>?_
 clear ho
 refine RT 1 ha hs ?_
 exact⟨_,rfl,hs.fourS rfl rfl four_shape⟩
end
end
section
structure Pk where
 kind:Int
 from':Int
 to:Int
 id:Int
 first:Int
 ack:Int
 frame:Int
 sum:Nat
 press:List UInt8
theorem fourL_len (x:Nat):(fourL x).length=4:=rfl
open Classical in
end
section
theorem bc_atD {bs:List UInt8}{i:Nat}(h:i<bs.length):(bc bs)[i]?=some (.int .u8 ((bs.getD i 0).toNat:Int)):=by rw[bc_at h,List.getD_eq_getElem?_getD,List.getElem?_eq_getElem h];rfl
end
section
section
variable {W w:World}{L:List SP}{n c m:Nat}{ad:Option Addr}
theorem bytes_equalS {a b:List UInt8}{ad2:Option Addr}{m n c2:Nat}(hs:St W w L)(ha':RdB w ad m a)(hb':RdB w ad2 n b) :
   Calls Tryz.prog 211 #[.slice ad m c,.slice ad2 n c2] w λe w'=>e=.returned (.bool (a==b))∧St W w' L :=
 (bytes_equal ha' hb').mono λe w' h=>⟨h.1,by rw[h.2];exact hs⟩
end
end
section
section
variable {W w:World}{L:List SP}{c:Nat}{ad:Option Addr}{g:Nat→Int}
theorem state_encode (hs:St W w L):Calls Tryz.prog 91 #[.agg (ints .i32 32 g).toArray] w λe w'=>∃ ad c,e=.returned (.slice ad 128 c)∧St W w' (Sl 5 1 ad 128 c (bc (gameB g))::L):=by
 refine EN Tryz.func91 Tryz.ntmps91 rfl rfl λa ha=>?_
 refine BX 1 ha hs λb1 a w ha hs=>?_
 refine RN 7 ha hs λa ha=>?_
 refine wp_loop_ghost (λμ a w=>∃ (i:Nat) (ad:Option Addr) (c:Nat),(μ=32-i∧i≤32)∧Fr a 16 [(3,.slice ad (gameBn g i).length c),(6,.agg (ints .i32 32 g).toArray),(7,.int .i64 i)]∧St W w (Sl 5 1 ad (gameBn g i).length c (bc (gameBn g i))::L)) (32) (⟨0,none,0,⟨rfl,by omega⟩,ha.keep [3,6,7],hs.tail.sl0 5 1 none⟩) ?_
 clear ha hs
 rintro μ a w ⟨i,ad,c,⟨rfl,hi⟩,ha,hs⟩
 refine IF 3 ha hs (λhc0 a ha=>?_) λhc0 a ha=>?_
 ·
  have hi32:i<32:=by omega
  have hgl:=gameBn_len g i
  refine RN 2 ha hs λa ha=>?_
  refine SS ha (ex_index1 ha Tryz.underlying116 Tryz.underlying21 rfl Ty.t21 (by omega) (ints_get g hi32)) λa ha=>?_
  refine CL1 3 ha hs (word_put hs) λad2 a w ha hs=>?_
  refine RN 0 ha hs λa ha=>?_
  refine st_appendT ha rfl hs Tryz.underlying22 Ty.t5 rfl rfl (by decide) (λh0=>(hs.rdB ad2 (fourL (unI (g i))) rfl rfl).get h0) (by rw[bc_len];rfl) (bc_one _) (by rw[fourL_len];omega) λad13 c13 a w ha hs=>?_
  rw[← bc_app,← gameBn_succ]at hs
  rw[show (gameBn g i).length+(fourL (unI (g i))).length=(gameBn g (i+1)).length from by rw[gameBn_len,gameBn_len,fourL_len];omega]at ha hs
  refine RN 3 ha hs λa ha=>?_
  exact⟨32-(i+1),by omega,i+1,_,_,⟨rfl,by omega⟩,ha.keep [3,6,7],hs.sub⟩
 obtain rfl:i=32:=by omega
 rw[show (gameBn g 32).length=128 from gameBn_len g 32]at ha hs
 refine RT 3 ha hs ?_
 exact⟨_,_,rfl,hs⟩
theorem state_sum (hs:St W w L):Calls Tryz.prog 175 #[.agg (ints .i32 32 g).toArray] w λe w'=>e=.returned (.int .u32 (crcSum (gameB g)))∧St W w' L:=by
 refine EN Tryz.func175 Tryz.ntmps175 rfl rfl λa ha=>?_
 refine BX 1 ha hs λb1 a w ha hs=>?_
 refine CL2 3 ha hs (state_encode hs) λad c a w ha hs=>?_
 rw[show 128=(gameB g).length from (gameB_len g).symm]at ha hs
 refine CL 0 ha hs (crc_sum hs (by rw[gameB_len];decide) (λw' hw=>hw.rdB ad (gameB g) rfl rfl)) λa w ha hs=>?_
 refine RT 1 ha hs ?_
 exact⟨rfl,hs.sub⟩
end
end
section
def frontN (ls:List (List UInt8)):Nat→Nat
 | 0=>(ls.headD []).length
 | i+1=>min (frontN ls i) (ls.getD i []).length
def frontL (ls:List (List UInt8)):Nat:=frontN ls ls.length
theorem frontN_le {ls:List (List UInt8)}:∀ {i j:Nat},j<i→frontN ls i≤(ls.getD j []).length
 | 0,_,h=>absurd h (by omega)
 | i+1,j,h=>by
   rw[frontN]
   by_cases hj:j=i
   · subst hj;exact Nat.min_le_right _ _
   · exact Nat.le_trans (Nat.min_le_left _ _) (frontN_le (by omega))
theorem frontL_le {ls:List (List UInt8)}{l:List UInt8}(h:l∈ls):frontL ls≤l.length:=by
 obtain⟨i,hi,rfl⟩:=List.getElem_of_mem h
 have:=frontN_le (ls:=ls) (i:=ls.length) hi
 rwa [List.getD_eq_getElem?_getD,List.getElem?_eq_getElem hi]at this
theorem frontN_some (ls:List (List UInt8)):∀ i,i≤ls.length→ls≠[]→∃ l∈ls,frontN ls i=l.length
 | 0,_,h=>by
   cases ls with
   | nil=>exact absurd rfl h
   | cons a r=>exact⟨a,by simp,rfl⟩
 | i+1,hi,h=>by
   obtain⟨l,hl,e⟩:=frontN_some ls i (by omega) h
   rw[frontN]
   rcases Nat.le_total (frontN ls i) (ls.getD i []).length with h1 | h1
   · rw[Nat.min_eq_left h1];exact⟨l,hl,e⟩
   · rw[Nat.min_eq_right h1,List.getD_eq_getElem?_getD,List.getElem?_eq_getElem (by omega)]
     exact⟨ls[i],List.getElem_mem _,rfl⟩
theorem frontL_some {ls:List (List UInt8)}(h:ls≠[]):∃ l∈ls,frontL ls=l.length:=frontN_some ls _ (Nat.le_refl _) h
theorem frontL_ge {ls:List (List UInt8)}{n:Nat}(h:ls≠[])(hn:∀ l∈ls,n≤l.length):n≤frontL ls:=by
 obtain⟨l,hl,e⟩:=frontL_some h
 rw[e];exact hn l hl
def jointN (ls:List (List UInt8))(f i:Nat):List UInt8:=(ls.take i).map (·.getD f 0)
def jointL (ls:List (List UInt8))(f:Nat):List UInt8:=ls.map (·.getD f 0)
theorem jointN_all (ls:List (List UInt8))(f:Nat):jointN ls f ls.length=jointL ls f:=by rw[jointN,List.take_length,jointL]
theorem jointN_succ {ls:List (List UInt8)}{f i:Nat}(h:i<ls.length):jointN ls f (i+1)=jointN ls f i++[ls[i].getD f 0]:=by
 rw[jointN,List.take_succ_eq_append_getElem h,List.map_append];rfl
theorem jointN_len {ls:List (List UInt8)}{f i:Nat}(h:i≤ls.length):(jointN ls f i).length=i:=by
 rw[jointN,List.length_map,List.length_take];omega
theorem jointL_len (ls:List (List UInt8))(f:Nat):(jointL ls f).length=ls.length:=by rw[jointL,List.length_map]
structure Gs where
 kind:Int
 order:Int
 table:List UInt8
def mayGs (b:Gs):Prop:=(b.kind=1∧b.order=0∧b.table.length=0)∨(b.kind=2∧0≤b.order∧b.order≤3∧b.table.length=0)∨(b.kind=3∧b.order=0∧1≤b.table.length∧b.table.length≤1000)
instance (b:Gs):Decidable (mayGs b):=inferInstanceAs (Decidable (_∨_))
def endsB (o:Nat)(past:List UInt8)(i:Nat):Bool:=(past.drop (i-o)).take o==past.drop (past.length-o)
def wtN (o:Nat)(past:List UInt8):Nat→Nat→Int
 | 0=>λ_=>0
 | i+1=>if o≤i∧endsB o past i=true then upd (wtN o past i) (past.getD i 0).toNat (wtN o past i (past.getD i 0).toNat+1) else wtN o past i
theorem wtN_low {o:Nat}{past:List UInt8}:∀ {i:Nat},i≤o→wtN o past i=λ_=>0
 | 0,_=>rfl
 | i+1,h=>by rw[wtN,if_neg (by omega),wtN_low (by omega)]
theorem wtN_bd (o:Nat)(past:List UInt8):∀ (i v:Nat),0≤wtN o past i v∧wtN o past i v≤i
 | 0,v=>⟨Int.le_refl _,Int.le_refl _⟩
 | i+1,v=>by
   have h:=wtN_bd o past i v
   have h2:=wtN_bd o past i (past.getD i 0).toNat
   rw[wtN]
   split
   · unfold upd
     split <;> omega
   · omega
def wtL (b:Gs)(past:List UInt8):Nat→Int:=if b.kind=2 then wtN b.order.toNat past past.length else λ_=>0
def lastB (past:List UInt8):UInt8:=past.getLastD 0
def bestN (w:Nat→Int)(last:Nat):Nat→Nat
 | 0=>last
 | i+1=>if w (bestN w last i)<w i then i else bestN w last i
theorem bestN_lt {w:Nat→Int}{last:Nat}(hl:last<256):∀ {i:Nat},i≤256→bestN w last i<256
 | 0,_=>hl
 | i+1,h=>by
   rw[bestN]
   split
   · omega
   · exact bestN_lt hl (by omega)
def firstB (b:Gs)(past:List UInt8):UInt8:=if b.kind=3 then b.table.getD (past.length%b.table.length) 0 else UInt8.ofNat (bestN (wtL b past) (lastB past).toNat 256)
def chainN (b:Gs)(past:List UInt8):Nat→List UInt8
 | 0=>past
 | i+1=>chainN b past i++[firstB b (chainN b past i)]
theorem chainN_len (b:Gs)(past:List UInt8):∀ i,(chainN b past i).length=past.length+i
 | 0=>rfl
 | i+1=>by rw[chainN,List.length_append,chainN_len b past i];rfl
theorem chainN_take (b:Gs)(past:List UInt8):∀ i,(chainN b past i).take past.length=past
 | 0=>List.take_length
 | i+1=>by
   rw[chainN,List.take_append_of_le_length (by rw[chainN_len];omega),chainN_take b past i]
def chainB (b:Gs)(past:List UInt8)(n:Nat):List UInt8:=(chainN b past n).drop past.length
theorem chainB_len (b:Gs)(past:List UInt8)(n:Nat):(chainB b past n).length=n:=by rw[chainB,List.length_drop,chainN_len];omega
theorem chain_all (b:Gs)(past:List UInt8)(n:Nat):past++chainB b past n=chainN b past n:=by
 conv=>lhs;lhs;rw[← chainN_take b past n]
 rw[chainB,List.take_append_drop]
def fullB (b:Gs)(past:List UInt8)(to:Nat):List UInt8:=chainN b past (to-past.length)
def fullL (b:Gs)(ls:List (List UInt8))(to:Nat):List (List UInt8):=ls.map λl=>fullB b l to
def aheadL (b:Gs)(ls:List (List UInt8))(to:Nat):List (List UInt8):=(List.range (to-frontL ls)).map λi=>jointL (fullL b ls to) (frontL ls+i)
theorem aheadL_len (b:Gs)(ls:List (List UInt8))(to:Nat):(aheadL b ls to).length=to-frontL ls:=by simp[aheadL]
end
section
abbrev Lx:=Nat×List UInt8
def Ln (x:Lx):SP:=λh=>∃ (ad:Option Addr)(c:Nat),sepL [blk x.1 296 [.slice ad x.2.length c],Sl 5 1 ad x.2.length c (bc x.2)] h
section
variable {W w:World}{L L' R:List SP}{n c m lb:Nat}{ad:Option Addr}{l bs:List UInt8}{x:UInt8}
theorem Ln.open (hs:St W w (Ln (lb,l)::L)):∃ (ad:Option Addr)(c:Nat),St W w (blk lb 296 [.slice ad l.length c]::Sl 5 1 ad l.length c (bc l)::L):=by
 obtain⟨ad,_,hs⟩:=hs.exi (p:=λ_=>True) (B:=λad h=>∃ c,sepL [blk lb 296 [.slice ad l.length c],Sl 5 1 ad l.length c (bc l)] h) λ_ ⟨ad,c,h⟩=>⟨ad,trivial,c,h⟩
 obtain⟨c,_,hs⟩:=hs.exi (p:=λ_=>True) (B:=λc h=>sepL [blk lb 296 [.slice ad l.length c],Sl 5 1 ad l.length c (bc l)] h) λ_ ⟨c,h⟩=>⟨c,trivial,h⟩
 exact⟨ad,c,hs.open (M:=[_,_]) λ_ h=>h⟩
theorem Ln.close (hs:St W w (blk lb 296 [.slice ad l.length c]::Sl 5 1 ad l.length c (bc l)::L)):St W w (Ln (lb,l)::L) :=
 St.shut (M:=[_,_]) hs λ_ h=>⟨ad,c,h⟩
theorem Ln.mk' (hs:St W w L)(ad:Option Addr)(c:Nat)[k:Arr L (blk lb 296 [.slice ad l.length c]::Sl 5 1 ad l.length c (bc l)::L') R]:St W w (Ln (lb,l)::L'):=Ln.close (ad:=ad) (c:=c) hs.sub
theorem made8 (d:Nat):(madeCells (Value.int .u8 0).cells (d*1)).toList=bc (List.replicate d 0):=by
 apply List.ext_getElem?
 intro i
 by_cases h:i<d
 · rw[bc_at (by simpa using h)]
   rw[madeCells,Array.getElem?_toList,Array.getElem?_map,Array.getElem?_range]
   simp[h,Value.cells,Nat.mod_one]
 · rw[List.getElem?_eq_none (by simp[madeCells];omega),List.getElem?_eq_none (by rw[bc_len];simp;omega)]
theorem St.slWhole {b e sz m:Nat}{cs:List Value}(hs:St W w (blk b e cs::L))(h:cs.length=m*sz):St W w (Sl e sz (some ⟨b,0,none⟩) m m cs::L) :=
 St.slShut (pre:=[]) (post:=[]) (n:=m) (c:=m) (sz:=sz) (cs:=cs) (by simpa using hs) h (Nat.le_refl _) (by rw[Nat.sub_self,Nat.zero_mul];exact Nat.zero_le _)
theorem RdB.cutLH {w:World}{ad:Option Addr}{bs:List UInt8}{c lo n:Nat}(h:RdB w ad bs.length bs)(hl:lo+n≤bs.length)(hc:bs.length≤c):RdB w (cutAd ad lo c 1) n ((bs.drop lo).take n) :=
 (h.cutL (lo:=lo) (by omega) hc).cutH (by rw[List.length_drop];omega)
theorem line_new {d:Nat}(hs:St W w L)(hd:d≤8):Calls Tryz.prog 221 #[.int .i64 d] w λe w'=>∃ lb,e=.returned (pt lb)∧St W w' (Ln (lb,List.replicate d 0)::L):=by
 refine EN Tryz.func221 Tryz.ntmps221 rfl rfl λa ha=>?_
 refine RN 6 ha hs λa ha=>?_
 rw[show min (max (d:Int) 0) 8=(d:Int) from by omega]at ha
 refine st_makeSlice ha rfl hs Tryz.underlying22 Ty.t5 rfl (by omega) (by omega) λb6 a w ha hs ho=>?_
 clear ho
 rw[made8]at hs
 replace hs:=hs.slWhole (m:=d) (sz:=1) (by rw[bc_len,List.length_replicate,Nat.mul_one])
 refine BX 1 ha hs λb8 a w ha hs=>?_
 refine RN 1 ha hs λa ha=>?_
 replace hs:St W w (blk b8 296 [.slice (some ⟨b6,0,none⟩) (List.replicate d (0:UInt8)).length d]::Sl 5 1 (some ⟨b6,0,none⟩) (List.replicate d (0:UInt8)).length d (bc (List.replicate d 0))::L):=by
   rw[List.length_replicate];exact hs
 refine RT 0 ha hs ?_
 exact⟨b8,rfl,Ln.close hs⟩
theorem line_len (hs:St W w (Ln (lb,l)::L)):Calls Tryz.prog 148 #[pt lb] w λe w'=>e=.returned (.int .i64 l.length)∧St W w' (Ln (lb,l)::L):=by
 obtain⟨ad,c,hs⟩:=Ln.open hs
 refine EN Tryz.func148 Tryz.ntmps148 rfl rfl λa ha=>?_
 refine RN 6 ha hs λa ha=>?_
 replace ha:=ha.isF 4
 refine RT 8 ha hs ?_
 exact⟨rfl,Ln.close hs⟩
theorem line_at {f:Nat}(hs:St W w (Ln (lb,l)::L)):Calls Tryz.prog 183 #[pt lb,.int .i64 f] w λe w'=>e=.returned (.tuple #[.int .u8 ((l.getD f 0).toNat:Nat),.bool (decide (f<l.length))])∧St W w' (Ln (lb,l)::L):=by
 refine EN Tryz.func183 Tryz.ntmps183 rfl rfl λa ha=>?_
 refine RN 8 ha hs λa ha=>?_
 rw[decide_eq_false (by omega)]at ha
 refine CL 2 ha hs (line_len hs) λa w ha hs=>?_
 refine IF 2 ha hs (λhc0 a ha=>?_) λhc0 a ha=>?_
 ·
  refine RT 3 ha hs ?_
  exact⟨by rw[List.getD_eq_getElem?_getD,List.getElem?_eq_none (by omega),decide_eq_false (by omega)];rfl,hs⟩
 obtain⟨ad,c,hs⟩:=Ln.open hs
 have hfl:f<l.length:=by omega
 obtain⟨b,o,rfl,hr⟩:=(hs.rdB ad l rfl rfl).get (by omega)
 refine RN 7 ha hs λa ha=>?_
 refine SS ha (ld1 ha (hr f _ (bc_atD hfl))) λa ha=>?_
 refine RT 2 ha hs ?_
 exact⟨by rw[decide_eq_true hfl],Ln.close hs⟩
theorem line_add (hs:St W w (Ln (lb,l)::L))(hl:l.length≤1000):Calls Tryz.prog 177 #[pt lb,.int .u8 (x.toNat:Nat)] w λe w'=>e=.returned (.int .i64 (if l.length<1000 then 0 else 4))∧St W w' (Ln (lb,if l.length<1000 then l++[x] else l)::L):=by
 obtain⟨ad,c,hs⟩:=Ln.open hs
 refine EN Tryz.func177 Tryz.ntmps177 rfl rfl λa ha=>?_
 refine RN 7 ha hs λa ha=>?_
 replace ha:=ha.isF 5
 refine IF 9 ha hs (λhc1 a ha=>?_) λhc1 a ha=>?_
 ·
  refine RT 2 ha hs ?_
  exact⟨by rw[if_neg (by omega)],by rw[if_neg (by omega)];exact Ln.close hs⟩
 refine RN 7 ha hs λa ha=>?_
 refine st_buildSlice ha rfl hs Tryz.underlying22 Ty.t5 rfl rfl rfl rfl (by decide) (by decide) λb21 a w ha hs ho=>?_
 clear ho
 refine RN 0 ha hs λa ha=>?_
 refine st_append ha rfl hs Tryz.underlying22 Ty.t5 rfl rfl hs.rdAll rfl (bc_one [x]) (by decide) (by decide) (by omega) λad22 c22 a w ha hs=>?_
 rw[show bc l++_=bc (l++[x]) from (bc_app l [x]).symm]at hs
 refine ST 2 ha hs (λa w ha hs=>?_)
 refine RN 0 ha hs λa ha=>?_
 rw[show l.length+1=(l++[x]).length from by simp]at hs
 replace hs:=hs.sub (M:=blk lb 296 [.slice ad22 (l++[x]).length c22]::Sl 5 1 ad22 (l++[x]).length c22 (bc (l++[x]))::L)
 refine RT 2 ha hs ?_
 exact⟨by rw[if_pos (by omega)],by rw[if_pos (by omega)];exact Ln.close hs⟩
theorem line_from {f k:Nat}(hs:St W w (Ln (lb,l)::L))(hl:l.length≤1000)(hf:f≤1000)(hk:1≤k∧k≤1000) :
   Calls Tryz.prog 207 #[pt lb,.int .i64 f,.int .i64 k] w λe w'=>∃ ad' c',e=.returned (.slice ad' ((l.drop f).take k).length c')∧St W w' (Sl 5 1 ad' ((l.drop f).take k).length c' (bc ((l.drop f).take k))::Ln (lb,l)::L):=by
 have htl:((l.drop f).take k).length=min l.length (f+k)-f:=by rw[List.length_take,List.length_drop];omega
 refine EN Tryz.func207 Tryz.ntmps207 rfl rfl λa ha=>?_
 refine RN 7 ha hs λa ha=>?_
 rw[decide_eq_false (by omega)]at ha
 refine CL 2 ha hs (line_len hs) λa w ha hs=>?_
 refine BY 3 ha hs (λhg8 a ha=>?_) λhg8 a ha=>?_
 ·
  have hz:(l.drop f).take k=[]:=by rw[List.drop_eq_nil_of_le (by omega),List.take_nil]
  refine RT 6 ha hs ?_
  rw[hz];exact⟨_,_,rfl,hs.sl0 _ _ none⟩
 refine RN 3 ha hs λa ha=>?_
 rw[decide_eq_false (by omega)]at ha
 refine RN 2 ha hs λa ha=>?_
 obtain⟨adl,cl,hs⟩:=Ln.open hs
 have hcl:=(hs.sl adl).2
 refine DWO 0 [8,9,14] [0,1,2,4,5,6,7,10,11,12,13,3003,1008,1009,1014,15,1016,17] ha hs λa w ha hs hH hC=>?_
 refine RH 10 ha hs hH hC λa ha=>?_
 rw[show min (k:Int) 1000=(k:Int) from by omega]at ha
 refine RH 5 ha hs hH hC λa ha=>?_
 rw[show min (l.length:Int) ((f:Int)+(k:Int))=((min l.length (f+k):Nat):Int) from by omega]at ha
 refine RH 1 ha hs hH hC λa ha=>?_
 refine CL2 0 ha hs (bytes_clone (bs:=(l.drop f).take k) hs (λw' hw=>by have h1:=(hw.rdB adl l rfl rfl).cutLH (c:=cl) (lo:=f) (n:=min l.length (f+k)-f) (by omega) hcl;rw[show (l.drop f).take (min l.length (f+k)-f)=(l.drop f).take k from by rw[← htl,List.take_eq_take_iff,List.length_take,List.length_drop];omega]at h1;exact h1) (by omega)) λad3 c3 a w ha hs=>?_
 refine RN 1 ha hs λa ha=>?_
 refine RT 0 ha hs ?_
 exact⟨ad3,c3,by rw[htl],by rw[htl];exact (Ln.mk' (L':=Sl 5 1 ad3 (min l.length (f+k)-f) c3 (bc ((l.drop f).take k))::L) hs adl cl).perm (List.Perm.swap _ _ _)⟩
theorem line_all (hs:St W w (Ln (lb,l)::L))(hl:l.length≤1000) :
   Calls Tryz.prog 150 #[pt lb] w λe w'=>∃ ad' c',e=.returned (.slice ad' l.length c')∧St W w' (Sl 5 1 ad' l.length c' (bc l)::Ln (lb,l)::L):=by
 have hta:(l.drop 0).take 1000=l:=by rw[List.drop_zero,List.take_of_length_le hl]
 refine EN Tryz.func150 Tryz.ntmps150 rfl rfl λa ha=>?_
 refine CL2 4 ha hs (line_from (f:=0) (k:=1000) hs hl (by decide) (by decide)) λad3 c3 a w ha hs=>?_
 rw[hta]at ha hs
 refine RT 1 ha hs ?_
 exact⟨_,_,rfl,hs⟩
end
end
end Go.Proofs.YtdilfdkendjjhaaGreat
