/- Bytes: bits of numbers, sums, numbers of four bytes, games as bytes. -/
import Derived.Test.YtdilfdkendjjhaaGreatA12Num
import Derived.Test.YtdilfdkendjjhaaGreatA04Ty
namespace Go.Proofs.YtdilfdkendjjhaaGreat
open Go.RowKit
set_option linter.unusedVariables false
set_option linter.unusedSimpArgs false
set_option maxRecDepth 10000
set_option synthInstance.maxSize 4000
set_option synthInstance.maxHeartbeats 400000
section
section
variable {P:Program}{ops:Array Oper}{Q:Exit→Act→World→Prop}{a:Act}{w w' W:World}{K:Act→World→Prop}{n d:Nat}{l:List (Nat×Value)}{v:Value}{L R:List SP}
theorem st_appendT {s x t z sz by' e ad k c ad2 m c2 news ty ps af g}{cs:List Value}(ha:Fr a n l)(hw:Region.wanted ⟨some d,.call ⟨.builtin .append,#[s,x],#[t,t]⟩,ty,ps,af,g⟩ (yielded ops a.tmps)=true)(hs:St W w L)
   (ht:P.underlying t=some (.slice e)) (hi:TI P e z sz by') (hf:okB d n l=true) (hz:z.cells.size=sz) (hb:0<by')
   [e1:Ev l s (.slice ad k c)] [pk:PickSl L ad k c e sz cs R] [e2:Ev l x (.slice ad2 m c2)] (hr:0<m→∃ b2 off2,ad2=some ⟨b2,off2,none⟩∧Rd w b2 off2 news) (hl:news.length=m*sz) (h1:∀ v∈news,v.oneCell'=true)
   (hsz:(k+m)*by'≤140737488355328)
   (h:∀ ad' c' a' w',Fr a' n ((d,.slice ad' (k+m) c')::l)→St W w' (Sl e sz ad' (k+m) c' (cs++news)::R)→K a' w') :
   StepK P ops Q ⟨some d,.call ⟨.builtin .append,#[s,x],#[t,t]⟩,ty,ps,af,g⟩ K a w:=by
 rcases Nat.eq_zero_or_pos m with h0 | h0
 · subst h0
   have hkc:=(hs.sl ad).2
   obtain rfl:news=[]:=List.eq_nil_of_length_eq_zero (by rw[hl,Nat.zero_mul])
   refine st_append0 (ad:=ad) (k:=k) (c:=c) (ad2:=ad2) (c2:=c2) ha hw ht hi hf hkc λa' ha'=>h ad c a' w ha' ?_
   rw[List.append_nil]
   exact hs.perm pk.perm
 · obtain⟨b2,off2,rfl,hrd⟩:=hr h0
   exact st_append ha hw hs ht hi hz hf hrd hl h1 h0 hb hsz h
end
theorem St.litS {W w:World}{L:List SP}{b e n:Nat}{cs:List Value}{l:List UInt8}(hs:St W w (blk b e cs::L))(he:e=5)(hl:l.length=n)(h:cs=bc l):St W w (Sl 5 1 (some ⟨b,0,none⟩) n n (bc l)::L):=by
 subst h;subst he
 have h2:St W w (blk b 5 ([]++bc l++[])::L):=by simpa using hs
 exact St.slShut (pre:=[]) (post:=[]) (n:=n) (c:=n) (sz:=1) (cs:=bc l) h2 (by rw[bc_len,hl,Nat.mul_one]) (Nat.le_refl _) (by simp)
theorem bc_at {bs:List UInt8}{i:Nat}(h:i<bs.length):(bc bs)[i]?=some (.int .u8 ((bs[i]).toNat:Int)):=by simp[bc,h]
theorem bc_app (a b:List UInt8):bc (a++b)=bc a++bc b:=by simp[bc]
theorem RdB.get {w:World}{ad:Option Addr}{m:Nat}{bs:List UInt8}(h:RdB w ad m bs)(h0:0<m):∃ b o,ad=some ⟨b,o,none⟩∧Rd w b o (bc bs):=by
 obtain⟨_,h2,h3⟩:=h
 cases hh:ad with
 | none=>have:=h2 hh;omega
 | some a =>
   obtain⟨b,o,rfl,h1⟩:=h3 a hh h0
   exact⟨b,o,rfl,h1⟩
theorem RdB.rd {w:World}{b o m:Nat}{bs:List UInt8}(h:RdB w (some ⟨b,o,none⟩) m bs)(h0:0<m):Rd w b o (bc bs):=by
 obtain⟨b',o',e,h1⟩:=h.get h0
 cases e;exact h1
theorem RdB.cutL {w:World}{ad:Option Addr}{bs:List UInt8}{c:Nat}(h:RdB w ad bs.length bs){lo:Nat}(hl:lo≤bs.length)(hc:bs.length≤c):RdB w (cutAd ad lo c 1) (bs.drop lo).length (bs.drop lo):=by
 refine⟨rfl,λe=>?_,λx hx h0=>?_⟩
 · rw[List.length_drop]
   rcases Nat.eq_zero_or_pos (bs.length-lo) with h0 | h0
   · exact h0
   · obtain⟨b,o,rfl,_⟩:=h.get (by omega)
     rw[cutAd_some (by omega)]at e;cases e
 · rw[List.length_drop]at h0
   obtain⟨b,o,rfl,hr⟩:=h.get (by omega)
   rw[cutAd_some (by omega)]at hx
   cases hx
   refine⟨b,o+lo*1,rfl,λj v hj=>?_⟩
   have h1:=hr (lo+j) v (by rw[bc,List.getElem?_map,← List.getElem?_drop,← List.getElem?_map];exact hj)
   rwa [show o+lo*1+j=o+(lo+j) from by omega]
theorem RdB.cutH {w:World}{ad:Option Addr}{bs:List UInt8}{m:Nat}(h:RdB w ad m bs){hi:Nat}(hl:hi≤bs.length):RdB w ad hi (bs.take hi):=by
 obtain⟨h1,h2,h3⟩:=h
 refine⟨by rw[List.length_take];omega,λe=>by have:=h2 e;omega,λx hx h0=>?_⟩
 obtain⟨b,o,e,hr⟩:=h3 x hx (by omega)
 refine⟨b,o,e,λj v hj=>hr j v ?_⟩
 rw[bc,List.map_take,List.getElem?_take]at hj
 split at hj
 · exact hj
 · cases hj
theorem bv32 (x:Nat):BitVec.ofInt IntKind.u32.bits (x:Int)=BitVec.ofNat 32 x:=BitVec.ofInt_natCast 32 x
theorem bv64 (x:Nat):BitVec.ofInt IntKind.u64.bits (x:Int)=BitVec.ofNat 64 x:=BitVec.ofInt_natCast 64 x
theorem xor_u32 {x y:Nat}(hx:x<4294967296)(hy:y<4294967296):IntKind.u32.wrap (((BitVec.ofInt IntKind.u32.bits (x:Int) ^^^ BitVec.ofInt IntKind.u32.bits (y:Int)).toNat:Nat):Int)=((x ^^^ y:Nat):Int):=by
 rw[bv32,bv32]
 show IntKind.u32.wrap (((BitVec.ofNat 32 x ^^^ BitVec.ofNat 32 y).toNat:Nat):Int)=_
 rw[BitVec.toNat_xor,BitVec.toNat_ofNat,BitVec.toNat_ofNat,Nat.mod_eq_of_lt (show x<2 ^ 32 from hx),Nat.mod_eq_of_lt (show y<2 ^ 32 from hy),wrap_u32]
 have:=Nat.xor_lt_two_pow (n:=32) hx hy
 omega
theorem and_u32 {x y:Nat}(hx:x<4294967296)(hy:y<4294967296):IntKind.u32.wrap (((BitVec.ofInt IntKind.u32.bits (x:Int) &&& BitVec.ofInt IntKind.u32.bits (y:Int)).toNat:Nat):Int)=((x &&& y:Nat):Int):=by
 rw[bv32,bv32]
 show IntKind.u32.wrap (((BitVec.ofNat 32 x &&& BitVec.ofNat 32 y).toNat:Nat):Int)=_
 rw[BitVec.toNat_and,BitVec.toNat_ofNat,BitVec.toNat_ofNat,Nat.mod_eq_of_lt (show x<2 ^ 32 from hx),Nat.mod_eq_of_lt (show y<2 ^ 32 from hy),wrap_u32]
 have:x &&& y≤x:=Nat.and_le_left
 omega
theorem com_u32 {x:Nat}(h:x<4294967296):IntKind.u32.wrap (((BitVec.ofInt IntKind.u32.bits (if IntKind.u32.signed then -1 else IntKind.u32.max) ^^^ BitVec.ofInt IntKind.u32.bits (x:Int)).toNat:Nat):Int)=((4294967295-x:Nat):Int):=by
 have e:BitVec.ofInt IntKind.u32.bits (if IntKind.u32.signed then -1 else IntKind.u32.max)=BitVec.allOnes 32:=by
   show BitVec.ofInt 32 IntKind.u32.max=_
   decide
 rw[e,bv32]
 show IntKind.u32.wrap (((BitVec.allOnes 32 ^^^ BitVec.ofNat 32 x).toNat:Nat):Int)=_
 rw[BitVec.allOnes_xor,BitVec.toNat_not,BitVec.toNat_ofNat,wrap_u32]
 rw[Nat.mod_eq_of_lt (show x<2 ^ 32 from h)]
 omega
theorem or_u64 {x y:Nat}(hx:x<18446744073709551616)(hy:y<18446744073709551616):IntKind.u64.wrap (((BitVec.ofInt IntKind.u64.bits (x:Int) ||| BitVec.ofInt IntKind.u64.bits (y:Int)).toNat:Nat):Int)=((x ||| y:Nat):Int):=by
 rw[bv64,bv64]
 show IntKind.u64.wrap (((BitVec.ofNat 64 x ||| BitVec.ofNat 64 y).toNat:Nat):Int)=_
 rw[BitVec.toNat_or,BitVec.toNat_ofNat,BitVec.toNat_ofNat,Nat.mod_eq_of_lt (show x<2 ^ 64 from hx),Nat.mod_eq_of_lt (show y<2 ^ 64 from hy),wrap_u64]
 have:=Nat.or_lt_two_pow (n:=64) hx hy
 omega
theorem and_u64 {x y:Nat}(hx:x<18446744073709551616)(hy:y<18446744073709551616):IntKind.u64.wrap (((BitVec.ofInt IntKind.u64.bits (x:Int) &&& BitVec.ofInt IntKind.u64.bits (y:Int)).toNat:Nat):Int)=((x &&& y:Nat):Int):=by
 rw[bv64,bv64]
 show IntKind.u64.wrap (((BitVec.ofNat 64 x &&& BitVec.ofNat 64 y).toNat:Nat):Int)=_
 rw[BitVec.toNat_and,BitVec.toNat_ofNat,BitVec.toNat_ofNat,Nat.mod_eq_of_lt (show x<2 ^ 64 from hx),Nat.mod_eq_of_lt (show y<2 ^ 64 from hy),wrap_u64]
 have:x &&& y≤x:=Nat.and_le_left
 omega
theorem u8_lt (b:UInt8):b.toNat<256:=b.toNat_lt
def crcBit (x:Nat):Nat:=if x%2=1 then x/2 ^^^ 3988292384 else x/2
def crcBits:Nat→Nat→Nat
 | 0,y=>y
 | k+1,y=>crcBit (crcBits k y)
def crcByte (x:Nat)(b:UInt8):Nat:=crcBits 8 (x ^^^ b.toNat)
def crcL (bs:List UInt8):Nat:=bs.foldl crcByte 4294967295
def crcSum (bs:List UInt8):Nat:=4294967295-crcL bs
theorem crcBit_lt {x:Nat}(h:x<4294967296):crcBit x<4294967296:=by
 unfold crcBit
 split
 · exact Nat.xor_lt_two_pow (n:=32) (by show x/2<4294967296;omega) (by decide)
 · omega
theorem crcBits_lt {x:Nat}(h:x<4294967296):∀ k,crcBits k x<4294967296
 | 0=>h
 | k+1=>crcBit_lt (crcBits_lt h k)
theorem crcByte_lt {x:Nat}(b:UInt8)(h:x<4294967296):crcByte x b<4294967296:=by
 refine crcBits_lt (Nat.xor_lt_two_pow (n:=32) h ?_) 8
 have:=u8_lt b
 show b.toNat<4294967296
 omega
theorem crcFold_lt (bs:List UInt8):∀ {x:Nat},x<4294967296→bs.foldl crcByte x<4294967296:=by
 induction bs with
 | nil=>exact λh=>h
 | cons b bs ih=>exact λh=>ih (crcByte_lt b h)
theorem crcL_lt (bs:List UInt8):crcL bs<4294967296:=crcFold_lt bs (by decide)
theorem crcSum_lt (bs:List UInt8):crcSum bs<4294967296:=by unfold crcSum;omega
theorem crcL_succ {bs:List UInt8}{i:Nat}(h:i<bs.length):crcL (bs.take (i+1))=crcByte (crcL (bs.take i)) bs[i]:=by
 rw[crcL,List.take_succ_eq_append_getElem h,List.foldl_append];rfl
theorem crc_and1 {x:Nat}(h:x<4294967296):IntKind.u32.wrap (((BitVec.ofInt IntKind.u32.bits (x:Int) &&& BitVec.ofInt IntKind.u32.bits 1).toNat:Nat):Int)=((x%2:Nat):Int):=by
 have h1:=and_u32 (y:=1) h (by decide)
 rw[Nat.and_one_is_mod]at h1;exact h1
theorem crc_neg {m:Nat}(h:m<2):IntKind.u32.wrap (0-(m:Int))=((if m=1 then 4294967295 else 0:Nat):Int):=by
 rcases (by omega:m=0∨m=1) with rfl | rfl <;> decide
theorem crc_poly (m:Nat):IntKind.u32.wrap (((BitVec.ofInt IntKind.u32.bits 3988292384 &&& BitVec.ofInt IntKind.u32.bits ((if m=1 then 4294967295 else 0:Nat):Int)).toNat:Nat):Int)=((if m=1 then 3988292384 else 0:Nat):Int):=by
 by_cases h:m=1
 · rw[if_pos h,if_pos h];decide
 · rw[if_neg h,if_neg h];decide
theorem crc_xor {x m:Nat}(hx:x<4294967296):IntKind.u32.wrap (((BitVec.ofInt IntKind.u32.bits ((x/2:Nat):Int) ^^^ BitVec.ofInt IntKind.u32.bits ((if x%2=1 then 3988292384 else 0:Nat):Int)).toNat:Nat):Int)=((crcBit x:Nat):Int):=by
 rw[xor_u32 (by omega) (by split <;> decide),crcBit]
 split
 · rfl
 · rw[Nat.xor_zero]
theorem crc_xorP {x:Nat}(hx:x<4294967296):IntKind.u32.wrap (((BitVec.ofInt IntKind.u32.bits ((x/2:Nat):Int) ^^^ BitVec.ofInt IntKind.u32.bits 3988292384).toNat:Nat):Int)=((x/2 ^^^ 3988292384:Nat):Int):=xor_u32 (y:=3988292384) (by omega) (by decide)
def fourL (x:Nat):List UInt8:=[UInt8.ofNat (x/16777216),UInt8.ofNat (x/65536),UInt8.ofNat (x/256),UInt8.ofNat x]
theorem u8nat (n:Nat):IntKind.u8.wrap (n:Int)=((UInt8.ofNat n).toNat:Int):=by
 rw[wrap_u8,UInt8.toNat_ofNat'];omega
def unI (x:Int):Nat:=(x%4294967296).toNat
theorem wrap_un (x:Int):IntKind.u32.wrap x=((unI x:Nat):Int):=by rw[wrap_u32,unI];omega
def gameB (g:Nat→Int):List UInt8:=(List.range 32).flatMap λi=>fourL (unI (g i))
def gameBn (g:Nat→Int)(n:Nat):List UInt8:=(List.range n).flatMap λi=>fourL (unI (g i))
theorem gameBn_succ (g:Nat→Int)(n:Nat):gameBn g (n+1)=gameBn g n++fourL (unI (g n)):=by simp[gameBn,List.range_succ]
theorem gameBn_len (g:Nat→Int)(n:Nat):(gameBn g n).length=4*n:=by
 induction n with
 | zero=>rfl
 | succ n ih=>rw[gameBn_succ,List.length_append,ih];simp[fourL];omega
theorem gameB_len (g:Nat→Int):(gameB g).length=128:=gameBn_len g 32
section
variable {W w:World}{L:List SP}{n c m:Nat}{ad:Option Addr}{bs:List UInt8}
theorem crc_more (hs:St W w L)(hb:bs.length≤1099511627776)(hp:∀ w',St W w' L→RdB w' ad bs.length bs) :
   Calls Tryz.prog 267 #[.int .u32 0,.slice ad bs.length c] w λe w'=>e=.returned (.int .u32 (crcSum bs))∧St W w' L:=by
 refine EN Tryz.func267 Tryz.ntmps267 rfl rfl λa ha=>?_
 refine RN 6 ha hs λa ha=>?_
 rw[show IntKind.u32.wrap ((BitVec.ofInt IntKind.u32.bits (if IntKind.u32.signed then -1 else IntKind.u32.max) ^^^ BitVec.ofInt IntKind.u32.bits 0).toNat:Int)=((crcL (bs.take 0):Nat):Int) from rfl]at ha
 refine RN 5 ha hs λa ha=>?_
 refine wp_loop_ghost (λμ a w=>∃ (i:Nat),(μ=bs.length-i∧i≤bs.length)∧Fr a 33 [(5,.int .u32 (crcL (bs.take i))),(10,.slice ad bs.length c),(11,.int .i64 bs.length),(12,.int .i64 i)]∧St W w L) (bs.length) (⟨0,⟨rfl,by omega⟩,ha.keep [5,10,11,12],hs⟩) ?_
 clear ha hs
 rintro μ a w ⟨i,⟨rfl,hi⟩,ha,hs⟩
 refine IF 3 ha hs (λhc0 a ha=>?_) λhc0 a ha=>?_
 ·
  obtain⟨bb,oo,rfl,hr⟩:=(hp _ hs).get (by omega)
  have hil:i<bs.length:=by omega
  have hx:=crcL_lt (bs.take i)
  have hb8:=u8_lt bs[i]
  refine RN 3 ha hs λa ha=>?_
  refine SS ha (ld1 ha (hr i _ (bc_at hil))) λa ha=>?_
  refine SX 4 ha hs (by rw[wrap_u32];omega) λa ha=>?_
  refine RN 1 ha hs λa ha=>?_
  rw[xor_u32 hx (by omega)]at ha
  refine RN 3 ha hs λa ha=>?_
  have hy:crcL (bs.take i) ^^^ bs[i].toNat<4294967296:=Nat.xor_lt_two_pow (n:=32) hx (by show _<4294967296;omega)
  have hcs:=crcL_succ hil
  rw[crcByte]at hcs
  generalize crcL (bs.take i) ^^^ bs[i].toNat=y at ha hy hcs
  refine wp_loop_ghost (λμ a w=>∃ (k:Nat),(μ=8-k∧k≤8)∧Fr a 33 [(5,.int .u32 (crcBits k y)),(10,.slice (some ⟨bb,oo,none⟩) bs.length c),(11,.int .i64 bs.length),(12,.int .i64 i),(20,.int .i64 k)]∧St W w L) (8) (⟨0,⟨rfl,by omega⟩,ha.keep [5,10,11,12,20],hs⟩) ?_
  clear ha hs
  rintro μ a w ⟨k,⟨rfl,hk⟩,ha,hs⟩
  refine IF 3 ha hs (λhc1 a ha=>?_) λhc1 a ha=>?_
  ·
   have hyk:=crcBits_lt hy k
   refine RN 3 ha hs λa ha=>?_
   rw[show ((crcBits k y:Nat):Int).fdiv (2 ^ 1)=((crcBits k y/2:Nat):Int) from fdivN _ 2]at ha
   refine RN 2 ha hs λa ha=>?_
   rw[crc_and1 hyk]at ha
   refine RN 1 ha hs λa ha=>?_
   rw[crc_neg (Nat.mod_lt _ (by decide))]at ha
   refine RN 1 ha hs λa ha=>?_
   rw[crc_poly]at ha
   refine RN 1 ha hs λa ha=>?_
   rw[crc_xor (m:=0) hyk]at ha
   refine RN 3 ha hs λa ha=>?_
   exact⟨8-(k+1),by omega,k+1,⟨rfl,by omega⟩,ha.keep [5,10,11,12,20],hs⟩
  obtain rfl:k=8:=by omega
  rw[← hcs]at ha
  refine RN 2 ha hs λa ha=>?_
  exact⟨bs.length-(i+1),by omega,i+1,⟨rfl,by omega⟩,ha.keep [5,10,11,12],hs⟩
 obtain rfl:i=bs.length:=by omega
 rw[List.take_length]at ha
 refine RN 3 ha hs λa ha=>?_
 rw[com_u32 (crcL_lt bs)]at ha
 refine RT 1 ha hs ?_
 exact⟨rfl,hs⟩
theorem crc_sum (hs:St W w L)(hb:bs.length≤1099511627776)(hp:∀ w',St W w' L→RdB w' ad bs.length bs) :
   Calls Tryz.prog 224 #[.slice ad bs.length c] w λe w'=>e=.returned (.int .u32 (crcSum bs))∧St W w' L:=by
 refine EN Tryz.func224 Tryz.ntmps224 rfl rfl λa ha=>?_
 refine CL 4 ha hs (crc_more hs hb hp) λa w ha hs=>?_
 refine RT 1 ha hs ?_
 exact⟨rfl,hs⟩
theorem refSum_spec (hs:St W w L)(hb:bs.length≤1099511627776)(hp:∀ w',St W w' L→RdB w' ad bs.length bs) :
   Calls Tryz.prog 80 #[.slice ad bs.length c] w λe w'=>e=.returned (.int .u32 (crcSum bs))∧St W w' L:=by
 refine EN Tryz.func80 Tryz.ntmps80 rfl rfl λa ha=>?_
 refine RN 7 ha hs λa ha=>?_
 refine wp_loop_ghost (λμ a w=>∃ (i:Nat),(μ=bs.length-i∧i≤bs.length)∧Fr a 33 [(0,.slice ad bs.length c),(3,.int .u32 (crcL (bs.take i))),(4,.int .i64 i)]∧St W w L) (bs.length) (⟨0,⟨rfl,by omega⟩,ha.keep [0,3,4],hs⟩) ?_
 clear ha hs
 rintro μ a w ⟨i,⟨rfl,hi⟩,ha,hs⟩
 refine IF 6 ha hs (λhc0 a ha=>?_) λhc0 a ha=>?_
 ·
  obtain⟨bb,oo,rfl,hr⟩:=(hp _ hs).get (by omega)
  have hil:i<bs.length:=by omega
  have hx:=crcL_lt (bs.take i)
  have hb8:=u8_lt bs[i]
  refine RN 6 ha hs λa ha=>?_
  refine SS ha (ld1 ha (hr i _ (bc_at hil))) λa ha=>?_
  refine SX 0 ha hs (by rw[wrap_u32];omega) λa ha=>?_
  refine RN 1 ha hs λa ha=>?_
  rw[xor_u32 hx (by omega)]at ha
  refine RN 3 ha hs λa ha=>?_
  have hy:crcL (bs.take i) ^^^ bs[i].toNat<4294967296:=Nat.xor_lt_two_pow (n:=32) hx (by show _<4294967296;omega)
  have hcs:=crcL_succ hil
  rw[crcByte]at hcs
  generalize crcL (bs.take i) ^^^ bs[i].toNat=y at ha hy hcs
  refine wp_loop_ghost (λμ a w=>∃ (k:Nat),(μ=8-k∧k≤8)∧Fr a 33 [(0,.slice (some ⟨bb,oo,none⟩) bs.length c),(3,.int .u32 (crcBits k y)),(4,.int .i64 i),(5,.int .i64 k)]∧St W w L) (8) (⟨0,⟨rfl,by omega⟩,ha.keep [0,3,4,5],hs⟩) ?_
  clear ha hs
  rintro μ a w ⟨k,⟨rfl,hk⟩,ha,hs⟩
  refine IF 4 ha hs (λhc1 a ha=>?_) λhc1 a ha=>?_
  ·
   have hyk:=crcBits_lt hy k
   have hb1:crcBits (k+1) y=crcBit (crcBits k y):=rfl
   refine SX 3 ha hs (by decide) λa ha=>?_
   rw[show ((crcBits k y:Nat):Int).tmod 2=((crcBits k y%2:Nat):Int) from remN _ 2]at ha
   refine IF 1 ha hs (λhc2 a ha=>?_) λhc2 a ha=>?_
   ·
    rw[crcBit,if_pos (by omega)]at hb1
    refine RN 2 ha hs λa ha=>?_
    rw[show ((crcBits k y:Nat):Int).fdiv (2 ^ 1)=((crcBits k y/2:Nat):Int) from fdivN _ 2]at ha
    refine RN 1 ha hs λa ha=>?_
    rw[crc_xorP hyk,← hb1]at ha
    refine RN 4 ha hs λa ha=>?_
    exact⟨8-(k+1),by omega,k+1,⟨rfl,by omega⟩,ha.keep [0,3,4,5],hs⟩
   rw[crcBit,if_neg (by omega)]at hb1
   refine RN 2 ha hs λa ha=>?_
   rw[show ((crcBits k y:Nat):Int).fdiv (2 ^ 1)=((crcBits k y/2:Nat):Int) from fdivN _ 2,← hb1]at ha
   refine RN 4 ha hs λa ha=>?_
   exact⟨8-(k+1),by omega,k+1,⟨rfl,by omega⟩,ha.keep [0,3,4,5],hs⟩
  obtain rfl:k=8:=by omega
  rw[← hcs]at ha
  refine RN 3 ha hs λa ha=>?_
  exact⟨bs.length-(i+1),by omega,i+1,⟨rfl,by omega⟩,ha.keep [0,3,4],hs⟩
 obtain rfl:i=bs.length:=by omega
 rw[List.take_length]at ha
 refine RN 3 ha hs λa ha=>?_
 rw[com_u32 (crcL_lt bs)]at ha
 refine RT 1 ha hs ?_
 exact⟨rfl,hs⟩
theorem four_shape {x:Nat}:[[Value.int .u8 (IntKind.u8.wrap ((x/16777216:Nat):Int))],[Value.int .u8 (IntKind.u8.wrap ((x/65536:Nat):Int))],[Value.int .u8 (IntKind.u8.wrap ((x/256:Nat):Int))],[Value.int .u8 (IntKind.u8.wrap ((x:Nat):Int))]].flatten=bc (fourL x):=by
 simp only[u8nat];rfl
theorem St.fourS {b:Nat}{cs:List Value}{l:List UInt8}{e:Nat}(hs:St W w (blk b e cs::L))(he:e=5)(hl:l.length=4)(h:cs=bc l):St W w (Sl 5 1 (some ⟨b,0,none⟩) 4 4 (bc l)::L):=by
 subst h;subst he
 have h2:St W w (blk b 5 ([]++bc l++[])::L):=by simpa using hs
 exact St.slShut (pre:=[]) (post:=[]) (n:=4) (c:=4) (sz:=1) (cs:=bc l) h2 (by rw[bc_len,hl]) (Nat.le_refl _) (Nat.zero_le _)
theorem num_four {x:Nat}(hs:St W w L) :
   Calls Tryz.prog 273 #[.int .u32 x] w λe w'=>∃ ad,e=.returned (.slice ad 4 4)∧St W w' (Sl 5 1 ad 4 4 (bc (fourL x))::L):=by
 refine EN Tryz.func273 Tryz.ntmps273 rfl rfl λa ha=>?_
 refine RN 5 ha hs λa ha=>?_
 rw[show ((x:Nat):Int).fdiv (2 ^ 24)=((x/16777216:Nat):Int) from fdivN _ 16777216]at ha
 refine SS ha (ex_convII ha Tryz.underlying68 Tryz.underlying5) λa ha=>?_
 refine RN 2 ha hs λa ha=>?_
 rw[show ((x:Nat):Int).fdiv (2 ^ 16)=((x/65536:Nat):Int) from fdivN _ 65536]at ha
 refine SS ha (ex_convII ha Tryz.underlying68 Tryz.underlying5) λa ha=>?_
 refine RN 2 ha hs λa ha=>?_
 rw[show ((x:Nat):Int).fdiv (2 ^ 8)=((x/256:Nat):Int) from fdivN _ 256]at ha
 refine SS ha (ex_convII ha Tryz.underlying68 Tryz.underlying5) λa ha=>?_
 refine RN 1 ha hs λa ha=>?_
 refine SS ha (ex_convII ha Tryz.underlying68 Tryz.underlying5) λa ha=>?_
 refine RN 0 ha hs λa ha=>?_
 refine st_buildSlice ha rfl hs Tryz.underlying22 Ty.t5 rfl rfl rfl rfl (by decide) (by decide) λb14 a w ha hs ho=>?_
 clear ho
 refine RT 1 ha hs ?_
 exact⟨_,rfl,hs.fourS rfl rfl four_shape⟩
theorem refFour_spec {x:Nat}(hs:St W w L) :
   Calls Tryz.prog 78 #[.int .u32 x] w λe w'=>∃ ad,e=.returned (.slice ad 4 4)∧St W w' (Sl 5 1 ad 4 4 (bc (fourL x))::L):=by
 refine EN Tryz.func78 Tryz.ntmps78 rfl rfl λa ha=>?_
 refine RN 5 ha hs λa ha=>?_
 rw[show ((x:Nat):Int).fdiv (2 ^ 24)=((x/16777216:Nat):Int) from fdivN _ 16777216]at ha
 refine SS ha (ex_convII ha Tryz.underlying68 Tryz.underlying5) λa ha=>?_
 refine RN 2 ha hs λa ha=>?_
 rw[show ((x:Nat):Int).fdiv (2 ^ 16)=((x/65536:Nat):Int) from fdivN _ 65536]at ha
 refine SS ha (ex_convII ha Tryz.underlying68 Tryz.underlying5) λa ha=>?_
 refine RN 2 ha hs λa ha=>?_
 rw[show ((x:Nat):Int).fdiv (2 ^ 8)=((x/256:Nat):Int) from fdivN _ 256]at ha
 refine SS ha (ex_convII ha Tryz.underlying68 Tryz.underlying5) λa ha=>?_
 refine RN 1 ha hs λa ha=>?_
 refine SS ha (ex_convII ha Tryz.underlying68 Tryz.underlying5) λa ha=>?_
 refine RN 0 ha hs λa ha=>?_
 refine st_buildSlice ha rfl hs Tryz.underlying22 Ty.t5 rfl rfl rfl rfl (by decide) (by decide) λb14 a w ha hs ho=>?_
 clear ho
 refine RT 1 ha hs ?_
 exact⟨_,rfl,hs.fourS rfl rfl four_shape⟩
theorem word_put {x:Int}(hs:St W w L) :
   Calls Tryz.prog 154 #[.int .i32 x] w λe w'=>∃ ad,e=.returned (.slice ad 4 4)∧St W w' (Sl 5 1 ad 4 4 (bc (fourL (unI x)))::L):=by
 refine EN Tryz.func154 Tryz.ntmps154 rfl rfl λa ha=>?_
 refine RN 4 ha hs λa ha=>?_
 refine SS ha (ex_convII ha Tryz.underlying21 Tryz.underlying68) λa ha=>?_
 rw[wrap_un]at ha
 generalize unI x=x at ha ⊢
 refine RN 4 ha hs λa ha=>?_
 rw[show ((x:Nat):Int).fdiv (2 ^ 24)=((x/16777216:Nat):Int) from fdivN _ 16777216]at ha
 refine SS ha (ex_convII ha Tryz.underlying68 Tryz.underlying5) λa ha=>?_
 refine RN 2 ha hs λa ha=>?_
 rw[show ((x:Nat):Int).fdiv (2 ^ 16)=((x/65536:Nat):Int) from fdivN _ 65536]at ha
 refine SS ha (ex_convII ha Tryz.underlying68 Tryz.underlying5) λa ha=>?_
 refine RN 2 ha hs λa ha=>?_
 rw[show ((x:Nat):Int).fdiv (2 ^ 8)=((x/256:Nat):Int) from fdivN _ 256]at ha
 refine SS ha (ex_convII ha Tryz.underlying68 Tryz.underlying5) λa ha=>?_
 refine RN 1 ha hs λa ha=>?_
 refine SS ha (ex_convII ha Tryz.underlying68 Tryz.underlying5) λa ha=>?_
 refine RN 0 ha hs λa ha=>?_
 refine st_buildSlice ha rfl hs Tryz.underlying22 Ty.t5 rfl rfl rfl rfl (by decide) (by decide) λb17 a w ha hs ho=>?_
 clear ho
 refine RT 1 ha hs ?_
 exact⟨_,rfl,hs.fourS rfl rfl four_shape⟩
end
end
section
def getL:List UInt8→Nat→Nat→Option (Nat×Nat)
 | [],_,_=>none
 | c::cs,i,u =>
   if i=9∧1<c.toNat then none
   else if 127<c.toNat then getL cs (i+1) (u+c.toNat%128*128 ^ i)
   else if 0<i∧c.toNat=0 then none
   else some (u+c.toNat*128 ^ i,i+1)
def getF (bs:List UInt8):Option (Nat×Nat):=getL bs 0 0
def unzz (u:Nat):Int:=if u%2=1 then -((u/2:Nat):Int)-1 else ((u/2:Nat):Int)
theorem unzz_zz (n:Int):unzz (zz n)=n:=by
 unfold unzz zz
 split <;> split <;> omega
theorem zz_lt {n:Int}(h1:-9223372036854775808≤n)(h2:n≤9223372036854775807):zz n<18446744073709551616:=by
 unfold zz;split <;> omega
theorem pow_mul128 (i:Nat):128 ^ (i+1)=128 ^ i*128:=Nat.pow_succ ..
theorem getL_put (r:List UInt8):∀ (v i u:Nat),v*128 ^ i<18446744073709551616→(i=0∨0<v)→i≤9→getL (putL v++r) i u=some (u+v*128 ^ i,i+(putL v).length):=by
 intro v
 induction v using Nat.strongRecOn with
 | _ v ih =>
   intro i u hv h0 hi
   by_cases hs:v≤127
   · rw[putL_small hs]
     have hb:(UInt8.ofNat v).toNat=v:=by rw[UInt8.toNat_ofNat'];omega
     simp only[List.cons_append,List.nil_append,getL,hb,List.length_singleton]
     have h9:¬ (i=9∧1<v):=by
       rintro⟨hi9,h⟩
       rw[hi9]at hv
       have:v*128 ^ 9 ≥ 2*128 ^ 9:=Nat.mul_le_mul_right _ h
       have h9':(128:Nat) ^ 9=9223372036854775808:=by decide
       omega
     rw[if_neg h9,if_neg (by omega),if_neg (by omega)]
   · rw[putL_big hs]
     have hb:(UInt8.ofNat (v%128+128)).toNat=v%128+128:=by rw[UInt8.toNat_ofNat'];omega
     simp only[List.cons_append,getL,hb,List.length_cons]
     have hle:128 ^ (i+1)≤v*128 ^ i:=by rw[pow_mul128,Nat.mul_comm];exact Nat.mul_le_mul_right _ (by omega)
     have hi9:i+1≤9:=by
       rcases Nat.lt_or_ge i 9 with h | h
       · omega
       · have:128 ^ 10≤128 ^ (i+1):=Nat.pow_le_pow_right (by decide) (by omega)
         have h10:(128:Nat) ^ 10=1180591620717411303424:=by decide
         omega
     have hdv:v/128*128 ^ (i+1)+v%128*128 ^ i=v*128 ^ i:=by
       rw[pow_mul128,show v/128*(128 ^ i*128)=128*(v/128)*128 ^ i from by rw[Nat.mul_comm (128 ^ i),← Nat.mul_assoc,Nat.mul_comm (v/128)],← Nat.add_mul,Nat.div_add_mod]
     rw[if_neg (by omega),if_pos (by omega),ih (v/128) (by omega) (i+1) _ (by omega) (.inr (by omega)) hi9]
     rw[show (v%128+128)%128=v%128 from by omega]
     congr 2
     · omega
     · omega
theorem getF_put {n:Int}(h1:-9223372036854775808≤n)(h2:n≤9223372036854775807)(r:List UInt8):getF (putL (zz n)++r)=some (zz n,(putL (zz n)).length):=by
 have:=getL_put r (zz n) 0 0 (by have:=zz_lt h1 h2;omega) (.inl rfl) (by decide)
 simpa [getF] using this
theorem getL_bd:∀ (bs:List UInt8) (i u:Nat) {v k:Nat},i≤9→u<128 ^ i→getL bs i u=some (v,k)→v<18446744073709551616∧i+1≤k∧k≤i+bs.length∧k≤10
 | [],_,_,_,_,_,_,h=>by cases h
 | c::cs,i,u,v,k,hi,hu,h=>by
   rw[getL]at h
   have hc:=u8_lt c
   have hp:128 ^ i≤128 ^ 9:=Nat.pow_le_pow_right (by decide) hi
   have h9:(128:Nat) ^ 9=9223372036854775808:=by decide
   split at h
   · cases h
   rename_i n9
   split at h
   · rename_i hb
     have hm:c.toNat%128*128 ^ i≤127*128 ^ i:=Nat.mul_le_mul_right _ (by omega)
     have:=getL_bd cs (i+1) _ (by omega) (by rw[pow_mul128];omega) h
     simp only[List.length_cons]
     omega
   · rename_i hb
     split at h
     · cases h
     · obtain⟨rfl,rfl⟩:u+c.toNat*128 ^ i=v∧i+1=k:=by simpa using h
       simp only[List.length_cons]
       refine⟨?_,by omega,by omega,by omega⟩
       rcases Nat.lt_or_ge i 9 with h8 | h8
       · have hp8:128 ^ i≤128 ^ 8:=Nat.pow_le_pow_right (by decide) (by omega)
         have h88:(128:Nat) ^ 8=72057594037927936:=by decide
         have hm:c.toNat*128 ^ i≤127*128 ^ i:=Nat.mul_le_mul_right _ (by omega)
         omega
       · have:i=9:=by omega
         subst this
         have hm:c.toNat*128 ^ 9≤1*128 ^ 9:=Nat.mul_le_mul_right _ (by omega)
         omega
theorem getF_bd {bs:List UInt8}{v k:Nat}(h:getF bs=some (v,k)):v<18446744073709551616∧1≤k∧k≤bs.length∧k≤10:=by
 have:=getL_bd bs 0 0 (by decide) (by decide) h
 omega
def GetR (bs:List UInt8)(x:Int)(k:Nat)(er:Int):Prop :=
 (-9223372036854775808≤x∧x≤9223372036854775807)∧(er=0∨er=1∨er=2)∧(er=0→1≤k∧k≤bs.length)∧(er≠0→k=0∧x=0) ∧
 ∀ (n:Int) (r:List UInt8), -9223372036854775808≤n→n≤9223372036854775807→bs=putL (zz n)++r→x=n∧k=(putL (zz n)).length∧er=0
theorem GetR.bad {bs:List UInt8}{er:Int}(h:getF bs=none)(he:er=1∨er=2):GetR bs 0 0 er:=by
 refine⟨by omega,by omega,by omega,λ_=>⟨rfl,rfl⟩,λn r h1 h2 e=>?_⟩
 rw[e,getF_put h1 h2]at h;cases h
theorem GetR.good {bs:List UInt8}{u k:Nat}(h:getF bs=some (u,k)):GetR bs (unzz u) k 0:=by
 have hb:=getF_bd h
 refine⟨?_,by omega,by omega,by omega,λn r h1 h2 e=>?_⟩
 · unfold unzz;split <;> omega
 · rw[e,getF_put h1 h2]at h
   obtain⟨rfl,rfl⟩:zz n=u∧(putL (zz n)).length=k:=by simpa using h
   exact⟨unzz_zz n,rfl,rfl⟩
def runN (x:UInt8):List UInt8→Nat
 | []=>0
 | y::ys=>if y=x then runN x ys+1 else 0
theorem runN_le (x:UInt8):∀ l:List UInt8,runN x l≤l.length
 | []=>Nat.le_refl _
 | y::ys=>by
   have:=runN_le x ys
   rw[runN];split <;> simp only[List.length_cons] <;> omega
def runsL (l:List UInt8)(last:UInt8):List UInt8:=match l with
 | []=>[]
 | x::xs=>putL (zz ((runN x xs+1:Nat):Int))++(x ^^^ last)::runsL (xs.drop (runN x xs)) x
termination_by l.length
decreasing_by simp only[List.length_drop,List.length_cons];omega
theorem runsL_nil (last:UInt8):runsL [] last=[]:=by rw[runsL]
theorem runsL_cons (x:UInt8)(xs:List UInt8)(last:UInt8):runsL (x::xs) last=putL (zz ((runN x xs+1:Nat):Int))++(x ^^^ last)::runsL (xs.drop (runN x xs)) x:=by rw[runsL]
theorem runN_take (x:UInt8):∀ l:List UInt8,l.take (runN x l)=List.replicate (runN x l) x
 | []=>rfl
 | y::ys=>by
   rw[runN]
   split
   · rename_i h;subst h;rw[List.take_succ_cons,runN_take y ys,List.replicate_succ]
   · rfl
theorem runN_next (x:UInt8):∀ (l:List UInt8) (y:UInt8) (r:List UInt8),l.drop (runN x l)=y::r→y≠x
 | [],_,_,h=>by simp[runN]at h
 | z::zs,y,r,h=>by
   rw[runN]at h
   split at h
   · exact runN_next x zs y r h
   · rename_i hn
     rw[List.drop_zero]at h
     cases h;exact hn
theorem runN_eq {x:UInt8}{l:List UInt8}{n:Nat}(h1:∀ i,i<n→l[i]?=some x)(h2:l[n]?≠some x):runN x l=n:=by
 induction l generalizing n with
 | nil =>
   cases n with
   | zero=>rfl
   | succ n=>have:=h1 0 (by omega);simp at this
 | cons y ys ih =>
   cases n with
   | zero =>
     rw[runN,if_neg]
     intro e;subst e;simp at h2
   | succ n =>
     have h0:=h1 0 (by omega)
     simp at h0
     rw[runN,if_pos h0,ih (n:=n) (λi hi=>by have:=h1 (i+1) (by omega);simpa using this) (by simpa using h2)]
theorem runsL_len (l:List UInt8):∀ last,(runsL l last).length≤11*l.length:=by
 induction hn:l.length using Nat.strongRecOn generalizing l with
 | _ n ih =>
   intro last
   cases l with
   | nil=>rw[runsL_nil];simp
   | cons x xs =>
     rw[runsL_cons,List.length_append,List.length_cons]
     have h1:=runN_le x xs
     subst hn
     simp only[List.length_cons]
     by_cases hb:xs.length<4611686018427387904
     · have h2 := putL_len 9 (zz ((runN x xs + 1 : Nat) : Int)) (by
         have:zz ((runN x xs+1:Nat):Int)=2*(runN x xs+1):=by unfold zz;rw[if_neg (by omega)];omega
         rw[this]
         have h10:(128:Nat) ^ (9+1)=1180591620717411303424:=by decide
         omega)
       have h3:=ih (xs.drop (runN x xs)).length (by simp only[List.length_drop,List.length_cons];omega) (xs.drop (runN x xs)) rfl x
       simp only[List.length_drop]at h3
       omega
     · have h2 : (putL (zz ((runN x xs + 1 : Nat) : Int))).length ≤ runN x xs + 10 := by
         have:∀ u,(putL (2*(u+1))).length≤u+10:=by
           intro u
           induction u using Nat.strongRecOn with
           | _ u ih =>
             by_cases h:2*(u+1)≤127
             · rw[putL_small h];simp
             · rw[putL_big h,List.length_cons]
               by_cases h2:2*(u+1)/128≤127
               · rw[putL_small h2];simp
               · have hq : ∀ v, (putL v).length ≤ v + 1 := by
                   intro v
                   induction v using Nat.strongRecOn with
                   | _ v ihv =>
                     by_cases h3:v≤127
                     · rw[putL_small h3];simp
                     · rw[putL_big h3,List.length_cons]
                       have:=ihv (v/128) (by omega)
                       omega
                 have:=hq (2*(u+1)/128)
                 omega
         have hz:zz ((runN x xs+1:Nat):Int)=2*(runN x xs+1):=by unfold zz;rw[if_neg (by omega)];omega
         rw[hz];exact this _
       have h3:=ih (xs.drop (runN x xs)).length (by simp only[List.length_drop,List.length_cons];omega) (xs.drop (runN x xs)) rfl x
       simp only[List.length_drop]at h3
       omega
theorem xor_back (a b:UInt8):b ^^^ (a ^^^ b)=a:=by rw[UInt8.xor_comm,UInt8.xor_assoc,UInt8.xor_self,UInt8.xor_zero]
theorem xor_zero_iff {a b:UInt8}(h:(a ^^^ b).toNat=0):a=b:=by
 have h0:a ^^^ b=0:=UInt8.toNat_inj.1 (by simpa using h)
 have:=xor_back a b
 rw[h0,UInt8.xor_zero]at this
 exact this.symm
def RunsAt (p out:List UInt8)(last:UInt8)(rest:List UInt8):Prop:=∃ q,p=out++q∧rest=runsL q last∧(out=[]∨∀ y r,q=y::r→y≠last)
theorem RunsAt.start (p:List UInt8):RunsAt p [] 0 (runsL p 0):=⟨p,rfl,rfl,.inl rfl⟩
theorem RunsAt.done {p out:List UInt8}{last:UInt8}(h:RunsAt p out last []):p=out:=by
 obtain⟨q,h1,h2,_⟩:=h
 cases q with
 | nil=>simpa using h1
 | cons x xs =>
   rw[runsL_cons]at h2
   have:=congrArg List.length h2
   simp at this
theorem RunsAt.next {p out:List UInt8}{last:UInt8}{rest:List UInt8}(h:RunsAt p out last rest)(h0:rest≠[]):∃ (m:Nat) (x:UInt8) (r:List UInt8),rest=putL (zz ((m+1:Nat):Int))++(x ^^^ last)::r ∧
   out.length+(m+1)≤p.length∧(out≠[]→(x ^^^ last).toNat≠0)∧RunsAt p (out++List.replicate (m+1) x) x r:=by
 obtain⟨q,h1,h2,h3⟩:=h
 cases q with
 | nil=>rw[runsL_nil]at h2;exact absurd h2 h0
 | cons x xs =>
   rw[runsL_cons]at h2
   have hle:=runN_le x xs
   refine⟨runN x xs,x,_,h2,by rw[h1];simp;omega,λho hz=>?_,xs.drop (runN x xs),?_,rfl,.inr λy r hy=>runN_next x xs y r hy⟩
   · rcases h3 with h3 | h3
     · exact ho h3
     · exact h3 x xs rfl (xor_zero_iff hz)
   · rw[h1,List.append_assoc]
     congr 1
     rw[List.replicate_succ,← runN_take,List.cons_append,List.take_append_drop]
structure Pk where
 kind:Int
 from':Int
 to:Int
 id:Int
 first:Int
 ack:Int
 frame:Int
 sum:Nat
 press:List UInt8
def pk0:Pk:=⟨0,0,0,0,0,0,0,0,[]⟩
def frP (n:Int):Prop:=0≤n∧n≤1000
instance (n:Int):Decidable (frP n):=inferInstanceAs (Decidable (_∧_))
def mayPk (p:Pk):Prop:=(0≤p.from'∧p.from'≤7)∧(0≤p.to∧p.to≤7)∧p.from'≠p.to∧(0≤p.id∧p.id≤1099511627776) ∧
 ((p.kind=1∧frP p.first∧frP p.ack∧frP p.frame∧p.press.length≤32)∨(p.kind=2∧p.first=0∧p.ack=0∧p.frame=0∧p.press.length=0∧p.sum=0))
instance (p:Pk):Decidable (mayPk p):=inferInstanceAs (Decidable (_∧_))
def tailPk (p:Pk):List UInt8:=fourL p.sum++(putL (zz (p.press.length:Int))++runsL p.press 0)
def numsPk (p:Pk):List UInt8:=if p.kind=1 then putL (zz p.first)++(putL (zz p.ack)++(putL (zz p.frame)++tailPk p)) else []
def midPk (p:Pk):List UInt8:=putL (zz p.id)++numsPk p
def headPk (p:Pk):List UInt8:=[UInt8.ofNat p.kind.toNat,UInt8.ofNat p.from'.toNat,UInt8.ofNat p.to.toNat]
def bodyPk (p:Pk):List UInt8:=headPk p++midPk p
def encPk (p:Pk):List UInt8:=bodyPk p++fourL (crcSum (bodyPk p))
def encO (p:Pk):List UInt8:=if mayPk p then encPk p else []
theorem fourL_len (x:Nat):(fourL x).length=4:=rfl
theorem encPk_len (p:Pk):(encPk p).length=(midPk p).length+7:=by
 simp[encPk,bodyPk,headPk,fourL_len]
theorem encPk_mid {p:Pk}{bs:List UInt8}(h:encPk p=bs):(bs.drop 3).take (bs.length-7)=midPk p:=by
 subst h
 rw[encPk_len,Nat.add_sub_cancel,encPk]
 generalize crcSum (bodyPk p)=c
 rw[bodyPk,List.append_assoc,List.drop_left' (by rfl),List.take_left' rfl]
theorem encPk_head {p:Pk}{bs:List UInt8}(h:encPk p=bs):bs[0]?=some (UInt8.ofNat p.kind.toNat)∧bs[1]?=some (UInt8.ofNat p.from'.toNat)∧bs[2]?=some (UInt8.ofNat p.to.toNat):=by
 subst h;exact⟨rfl,rfl,rfl⟩
def fourN (a b c d:Nat):Nat:=((a*256+b)*256+c)*256+d
theorem fourL_back {x:Nat}(h:x<4294967296):fourN (UInt8.ofNat (x/16777216)).toNat (UInt8.ofNat (x/65536)).toNat (UInt8.ofNat (x/256)).toNat (UInt8.ofNat x).toNat=x:=by
 simp only[UInt8.toNat_ofNat',fourN];omega
theorem fourL_inj {x y:Nat}(hx:x<4294967296)(hy:y<4294967296)(h:fourL x=fourL y):x=y:=by
 simp only[fourL,List.cons.injEq,and_true]at h
 obtain⟨h1,h2,h3,h4⟩:=h
 have:=fourL_back hx
 rw[h1,h2,h3,h4,fourL_back hy]at this
 exact this.symm
theorem put_inj {n m:Int}{r s:List UInt8}(h1:-9223372036854775808≤n)(h2:n≤9223372036854775807)(h3:-9223372036854775808≤m)(h4:m≤9223372036854775807)(h:putL (zz n)++r=putL (zz m)++s):n=m∧r=s:=by
 have e:=getF_put h1 h2 r
 rw[h,getF_put h3 h4]at e
 obtain⟨e1,e2⟩:zz m=zz n∧_:=by simpa using e
 have:n=m:=by rw[← unzz_zz n,← unzz_zz m,e1]
 subst this
 exact⟨rfl,List.append_cancel_left h⟩
theorem runs_inj:∀ (n:Nat) {p q:List UInt8} {l:UInt8},p.length≤n→p.length≤1000000→q.length≤1000000→runsL p l=runsL q l→p=q
 | n,[],[],_,_,_,_,_=>rfl
 | n,[],y::ys,l,_,_,_,h=>by
   rw[runsL_nil,runsL_cons]at h
   have:=congrArg List.length h
   simp at this
 | n,x::xs,[],l,_,_,_,h=>by
   rw[runsL_nil,runsL_cons]at h
   have:=congrArg List.length h
   simp at this
 | 0,x::xs,y::ys,l,hn,_,_,_=>by simp at hn
 | n+1,x::xs,y::ys,l,hn,hp,hq,h=>by
   have h1:=runN_le x xs
   have h2:=runN_le y ys
   simp only[List.length_cons]at hn hp hq
   rw[runsL_cons,runsL_cons]at h
   obtain⟨e1,e2⟩:=put_inj (by omega) (by omega) (by omega) (by omega) h
   rw[List.cons.injEq]at e2
   obtain⟨e2,e3⟩:=e2
   have exy:x=y:=by
     have:=xor_back x l
     rw[e2,xor_back]at this
     exact this.symm
   subst exy
   have e4:runN x xs=runN x ys:=by omega
   have e5:=runs_inj n (by simp;omega) (by simp;omega) (by simp;omega) e3
   congr 1
   rw[← List.take_append_drop (runN x xs) xs,runN_take,e5,e4,← runN_take,List.take_append_drop]
theorem u8_int {a b:Int}(ha:0≤a∧a<256)(hb:0≤b∧b<256)(h:UInt8.ofNat a.toNat=UInt8.ofNat b.toNat):a=b:=by
 have:=congrArg UInt8.toNat h
 simp only[UInt8.toNat_ofNat']at this
 omega
theorem encPk_inj {p q:Pk}(hp:mayPk p)(hq:mayPk q)(hsp:p.sum<4294967296)(hsq:q.sum<4294967296)(h:encPk p=encPk q):p=q:=by
 have hm:midPk p=midPk q:=by rw[← encPk_mid (p:=p) rfl,← encPk_mid (p:=q) rfl,h]
 have h0:=encPk_head (p:=p) rfl
 have h1:=encPk_head (p:=q) rfl
 rw[h]at h0
 obtain⟨a1,a2,a3⟩:=h0
 obtain⟨b1,b2,b3⟩:=h1
 rw[b1]at a1;rw[b2]at a2;rw[b3]at a3
 obtain⟨f1,t1,n1,i1,k1⟩:=hp
 obtain⟨f2,t2,n2,i2,k2⟩:=hq
 have ek:=u8_int (by omega) (by omega) (Option.some.inj a1)
 have ef:=u8_int (by omega) (by omega) (Option.some.inj a2)
 have et:=u8_int (by omega) (by omega) (Option.some.inj a3)
 rw[midPk,midPk]at hm
 obtain⟨ei,hm⟩:=put_inj (by omega) (by omega) (by omega) (by omega) hm
 obtain⟨pk,pf,pt,pi,p1,p2,p3,p4,p5⟩:=p
 obtain⟨qk,qf,qt,qi,q1,q2,q3,q4,q5⟩:=q
 simp only at *
 subst ek ef et ei
 rcases k1 with ⟨c1,c2,c3,c4,c5⟩ | ⟨c1,c2,c3,c4,c5,c6⟩
 · rcases k2 with ⟨d1,d2,d3,d4,d5⟩ | ⟨d1,_⟩
   · unfold frP at c2 c3 c4 d2 d3 d4
     rw[numsPk,numsPk,if_pos c1,if_pos d1]at hm
     simp only at hm
     obtain⟨e1,hm⟩:=put_inj (by omega) (by omega) (by omega) (by omega) hm
     obtain⟨e2,hm⟩:=put_inj (by omega) (by omega) (by omega) (by omega) hm
     obtain⟨e3,hm⟩:=put_inj (by omega) (by omega) (by omega) (by omega) hm
     rw[tailPk,tailPk]at hm
     simp only at hm
     obtain⟨e4,hm⟩:=List.append_inj hm rfl
     obtain⟨e5,hm⟩:=put_inj (by omega) (by omega) (by omega) (by omega) hm
     have e6:=runs_inj _ (Nat.le_refl _) (by omega) (by omega) hm
     have e7:=fourL_inj hsp hsq e4
     subst e1 e2 e3 e6 e7
     rfl
   · omega
 · rcases k2 with ⟨d1,_⟩ | ⟨d1,d2,d3,d4,d5,d6⟩
   · omega
   · have:=List.eq_nil_of_length_eq_zero c5
     have:=List.eq_nil_of_length_eq_zero d5
     subst c2 c3 c4 c6 d2 d3 d4 d6
     simp_all
def decP (bs:List UInt8)(p:Pk):Prop:=mayPk p∧p.sum<4294967296∧encPk p=bs
open Classical in
noncomputable def decO (bs:List UInt8):Option Pk:=if h:∃ p,decP bs p then some (Classical.choose h) else none
theorem decO_some {bs:List UInt8}{p:Pk}(h:decP bs p):decO bs=some p:=by
 have hx:∃ p,decP bs p:=⟨p,h⟩
 rw[decO,dif_pos hx]
 have h2:=Classical.choose_spec hx
 rw[encPk_inj h2.1 h.1 h2.2.1 h.2.1 (h2.2.2.trans h.2.2.symm)]
theorem decO_none {bs:List UInt8}(h:∀ p,¬ decP bs p):decO bs=none:=by
 rw[decO,dif_neg];exact λ⟨p,hp⟩=>h p hp
theorem decO_is {bs:List UInt8}{p:Pk}(h:decO bs=some p):decP bs p:=by
 rw[decO]at h
 split at h
 · rename_i hx;cases h;exact Classical.choose_spec hx
 · cases h
theorem decP_iff {bs:List UInt8}{p:Pk}(h0:bs≠[])(hs:p.sum<4294967296):decP bs p↔encO p=bs:=by
 unfold decP encO
 split
 · rename_i h;simp[h,hs]
 · rename_i h;simp[h,h0,Ne.symm h0]
theorem midPk_len {p:Pk}(h:mayPk p):(midPk p).length≤500:=by
 obtain⟨_,_,_,i1,k1⟩:=h
 have pl:∀ n:Int,0≤n→n≤1099511627776→(putL (zz n)).length≤10:=λn h0 h1=>putL_len 9 _ (by
   have:zz n<18446744073709551616:=zz_lt (by omega) (by omega)
   have h10:(128:Nat) ^ (9+1)=1180591620717411303424:=by decide
   omega)
 rw[midPk,List.length_append]
 have:=pl p.id i1.1 i1.2
 rcases k1 with ⟨c1,c2,c3,c4,c5⟩ | ⟨c1,_⟩
 · unfold frP at c2 c3 c4
   rw[numsPk,if_pos c1,tailPk]
   simp only[List.length_append,fourL_len]
   have h1:=pl p.first (by omega) (by omega)
   have h2:=pl p.ack (by omega) (by omega)
   have h3:=pl p.frame (by omega) (by omega)
   have h4:=pl p.press.length (by omega) (by omega)
   have h5:=runsL_len p.press 0
   omega
 · rw[numsPk,if_neg (by omega)];simp;omega
end
end Go.Proofs.YtdilfdkendjjhaaGreat
