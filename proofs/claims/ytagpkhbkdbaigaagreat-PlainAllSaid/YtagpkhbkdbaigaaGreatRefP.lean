/- The references' runes and operations, plainly. -/
import Derived.Test.YtagpkhbkdbaigaaGreatVmP
namespace Go.Proofs.YtagpkhbkdbaigaaGreat
open Go.RowKit
set_option linter.unusedVariables false
set_option linter.unusedSimpArgs false
set_option maxRecDepth 10000
theorem getB_in {s : ByteArray} {j : Nat} (h : j < s.size) : s.get! j=s[j]'h:=by
 have h2 : j < s.data.size:=h
 show s.data[j]! = s.data[j]
 rw [getElem!_pos s.data j h2]
theorem getB_out {s : ByteArray} {j : Nat} (h : s.size≤j) : s.get! j=0:=by
 have h2 : ¬ j < s.data.size:=Nat.not_lt.2 h
 show s.data[j]! = 0
 rw [getElem!_neg s.data j h2]; rfl
theorem size_ext (s : ByteArray) (p : Nat) : (s.extract p s.size).size=s.size - p:=by simp [ByteArray.size_extract]
theorem getB_ext (s : ByteArray) (p k : Nat) : (s.extract p s.size).get! k=s.get! (p+k):=by
 by_cases h : p+k < s.size
 · have h2 : k < (s.extract p s.size).size:=by rw [size_ext]; omega
   rw [getB_in h2,getB_in h,ByteArray.getElem_extract]
 · rw [getB_out (by rw [size_ext]; omega),getB_out (by omega)]
theorem decode_ext (s : ByteArray) (p : Nat) : Utf8.decode (s.extract p s.size) 0=Utf8.decode s p:=by
 have hc : ∀ k,decide (k < s.size - p)=decide (p+k < s.size):=fun k=>by
   by_cases h : p+k < s.size
   · rw [decide_eq_true h,decide_eq_true (by omega)]
   · rw [decide_eq_false h,decide_eq_false (by omega)]
 simp only [Utf8.decode,getB_ext,size_ext,hc,Nat.zero_add,Nat.add_assoc]
theorem ext_ext (s : ByteArray) (p n : Nat) : (s.extract p s.size).extract n (s.extract p s.size).size=s.extract (p+n) s.size:=by
 rw [size_ext,ByteArray.extract_extract]
 congr 1
 omega
/-! One rune. -/
def decHead (b n low r : Nat) : Prop:=(b=192+r∧r < 32∧n=2∧low=128)∨(b=224+r∧r < 16∧n=3∧low=2048)∨(b=240+r∧r < 8∧n=4∧low=65536)
def byteN (s : ByteArray) (j : Nat) : Nat:=(s.get! j).toNat
def contN (s : ByteArray) (r : Nat) : Nat→Nat
 | 0=>r
 | j+1=>contN s r j*64+byteN s (j+1) % 64
theorem byteN_lt (s : ByteArray) (j : Nat) : byteN s j < 256:=(s.get! j).toNat_lt
theorem contN_lt {s : ByteArray} {r : Nat} (h : r < 32) : ∀ j,contN s r j < 32*64 ^ j
 | 0=>by simpa [contN] using h
 | j+1=>by
   have:=contN_lt (s:=s) h j
   rw [contN,Nat.pow_succ]; omega
def badN (low r : Nat) : Prop:=r < low∨1114111 < r∨(55296≤r∧r < 57344)
section
variable {s : ByteArray} {b n low r : Nat}
theorem dec_one (hb : byteN s 0=b) (h : b < 128) : Utf8.decode s 0=(b,1):=by
 simp only [byteN] at hb
 simp [Utf8.decode,hb,h]
theorem dec_none (hb : byteN s 0=b) (h1 : 128≤b) (h2 : b < 192∨248≤b) : Utf8.decode s 0=(0xFFFD,1):=by
 have:=byteN_lt s 0
 simp only [byteN] at hb this
 have e1 : ¬ b < 128:=by omega
 have e2 : (b / 32 == 6)=false:=by rw [beq_eq_false_iff_ne]; omega
 have e3 : (b / 16 == 14)=false:=by rw [beq_eq_false_iff_ne]; omega
 have e4 : (b / 8 == 30)=false:=by rw [beq_eq_false_iff_ne]; omega
 simp [Utf8.decode,hb,e1,e2,e3,e4,Utf8.runeError]
theorem dec_fail (hb : byteN s 0=b) (hd : decHead b n low r) (h : s.size < n∨∃ k,1≤k∧k < n∧byteN s k / 64≠2) : Utf8.decode s 0=(0xFFFD,1):=by
 have hc : ∃ k,1≤k∧k < n∧(decide (k < s.size) && byteN s k / 64 == 2)=false:=by
   rcases h with h | ⟨k,h1,h2,h3⟩
   · rcases Nat.eq_zero_or_pos s.size with h0 | h0
     · exact ⟨1,by omega,by rcases hd with h | h | h <;> omega,by rw [decide_eq_false (by omega),Bool.false_and]⟩
     · exact ⟨s.size,by omega,h,by rw [decide_eq_false (by omega),Bool.false_and]⟩
   · exact ⟨k,h1,h2,by rw [beq_eq_false_iff_ne.2 h3,Bool.and_false]⟩
 obtain ⟨k,h1,h2,h3⟩:=hc
 simp only [byteN] at hb h3
 rcases hd with ⟨rfl,h4,rfl,rfl⟩ | ⟨rfl,h4,rfl,rfl⟩ | ⟨rfl,h4,rfl,rfl⟩
 · have e1 : ¬ 192+r < 128:=by omega
   have e2 : ((192+r) / 32 == 6)=true:=by rw [beq_iff_eq]; omega
   have e3 : ((192+r) / 16 == 14)=false:=by rw [beq_eq_false_iff_ne]; omega
   have e4 : ((192+r) / 8 == 30)=false:=by rw [beq_eq_false_iff_ne]; omega
   obtain rfl : k=1:=by omega
   simp only [Utf8.decode,Nat.zero_add,hb,e1,e2,e3,e4,h3,Utf8.runeError]
   simp
 · have e1 : ¬ 224+r < 128:=by omega
   have e2 : ((224+r) / 32 == 6)=false:=by rw [beq_eq_false_iff_ne]; omega
   have e3 : ((224+r) / 16 == 14)=true:=by rw [beq_iff_eq]; omega
   have e4 : ((224+r) / 8 == 30)=false:=by rw [beq_eq_false_iff_ne]; omega
   have hk : k=1∨k=2:=by omega
   rcases hk with rfl | rfl
   all_goals
     simp only [Utf8.decode,Nat.zero_add,hb,e1,e2,e3,e4,h3,Utf8.runeError]
     simp
 · have e1 : ¬ 240+r < 128:=by omega
   have e2 : ((240+r) / 32 == 6)=false:=by rw [beq_eq_false_iff_ne]; omega
   have e3 : ((240+r) / 16 == 14)=false:=by rw [beq_eq_false_iff_ne]; omega
   have e4 : ((240+r) / 8 == 30)=true:=by rw [beq_iff_eq]; omega
   have hk : k=1∨k=2∨k=3:=by omega
   rcases hk with rfl | rfl | rfl
   all_goals
     simp only [Utf8.decode,Nat.zero_add,hb,e1,e2,e3,e4,h3,Utf8.runeError]
     simp
theorem dec_all (hb : byteN s 0=b) (hd : decHead b n low r) (hs : n≤s.size) (h : ∀ k,1≤k→k < n→byteN s k / 64=2) :
   (badN low (contN s r (n - 1))→Utf8.decode s 0=(0xFFFD,1))∧(¬ badN low (contN s r (n - 1))→Utf8.decode s 0=(contN s r (n - 1),n)):=by
 simp only [badN]
 have hc : ∀ k,1≤k→k < n→(decide (k < s.size) && (s.get! k).toNat / 64 == 2)=true:=fun k h1 h2=>by
   rw [decide_eq_true (by omega),Bool.true_and,beq_iff_eq]; exact h k h1 h2
 have hlt:=contN_lt (s:=s) (r:=r) (by rcases hd with h | h | h <;> omega) (n - 1)
 simp only [byteN] at hb
 rcases hd with ⟨rfl,h4,rfl,rfl⟩ | ⟨rfl,h4,rfl,rfl⟩ | ⟨rfl,h4,rfl,rfl⟩
 · have e1 : ¬ 192+r < 128:=by omega
   have e2 : ((192+r) / 32 == 6)=true:=by rw [beq_iff_eq]; omega
   have e5 : contN s r (2 - 1)=(192+r) % 32*64+(s.get! 1).toNat % 64:=by
     show r*64+(s.get! 1).toNat % 64=_
     omega
   have hd2 : Utf8.decode s 0=if 128≤contN s r (2 - 1) then (contN s r (2 - 1),2) else (0xFFFD,1):=by
     rw [e5]
     simp only [Utf8.decode,Nat.zero_add,hb,e1,e2,hc 1 (by omega) (by omega),Utf8.runeError]
     simp
   have hlt2 : contN s r (2 - 1) < 2048:=hlt
   refine ⟨fun hbad=>?_,fun hg=>?_⟩
   · rw [hd2,if_neg (by omega)]
   · rw [hd2,if_pos (by omega)]
 · have e1 : ¬ 224+r < 128:=by omega
   have e2 : ((224+r) / 32 == 6)=false:=by rw [beq_eq_false_iff_ne]; omega
   have e3 : ((224+r) / 16 == 14)=true:=by rw [beq_iff_eq]; omega
   have e5 : contN s r (3 - 1)=(224+r) % 16*4096+(s.get! 1).toNat % 64*64+(s.get! 2).toNat % 64:=by
     show (r*64+(s.get! 1).toNat % 64)*64+(s.get! 2).toNat % 64=_
     omega
   have hd2 : Utf8.decode s 0=if 2048≤contN s r (3 - 1)∧Utf8.valid (contN s r (3 - 1))=true then (contN s r (3 - 1),3) else (0xFFFD,1):=by
     rw [e5]
     simp only [Utf8.decode,Nat.zero_add,hb,e1,e2,e3,hc 1 (by omega) (by omega),hc 2 (by omega) (by omega),Utf8.runeError]
     simp
   have hv : Utf8.valid (contN s r (3 - 1))=true ↔ (contN s r (3 - 1) < 55296∨(57344≤contN s r (3 - 1)∧contN s r (3 - 1)≤1114111)):=by
     simp only [Utf8.valid,Bool.or_eq_true,Bool.and_eq_true,decide_eq_true_eq]; omega
   refine ⟨fun hbad=>?_,fun hg=>?_⟩
   · rw [hd2,if_neg (by rw [hv]; omega)]
   · rw [hd2,if_pos (by rw [hv]; omega)]
 · have e1 : ¬ 240+r < 128:=by omega
   have e2 : ((240+r) / 32 == 6)=false:=by rw [beq_eq_false_iff_ne]; omega
   have e3 : ((240+r) / 16 == 14)=false:=by rw [beq_eq_false_iff_ne]; omega
   have e4 : ((240+r) / 8 == 30)=true:=by rw [beq_iff_eq]; omega
   have e5 : contN s r (4 - 1)=(240+r) % 8*262144+(s.get! 1).toNat % 64*4096+(s.get! 2).toNat % 64*64+(s.get! 3).toNat % 64:=by
     show ((r*64+(s.get! 1).toNat % 64)*64+(s.get! 2).toNat % 64)*64+(s.get! 3).toNat % 64=_
     omega
   have hd2 : Utf8.decode s 0=if 65536≤contN s r (4 - 1)∧Utf8.valid (contN s r (4 - 1))=true then (contN s r (4 - 1),4) else (0xFFFD,1):=by
     rw [e5]
     simp only [Utf8.decode,Nat.zero_add,hb,e1,e2,e3,e4,hc 1 (by omega) (by omega),hc 2 (by omega) (by omega),hc 3 (by omega) (by omega),Utf8.runeError]
     simp
   have hv : Utf8.valid (contN s r (4 - 1))=true ↔ (contN s r (4 - 1) < 55296∨(57344≤contN s r (4 - 1)∧contN s r (4 - 1)≤1114111)):=by
     simp only [Utf8.valid,Bool.or_eq_true,Bool.and_eq_true,decide_eq_true_eq]; omega
   refine ⟨fun hbad=>?_,fun hg=>?_⟩
   · rw [hd2,if_neg (by rw [hv]; omega)]
   · rw [hd2,if_pos (by rw [hv]; omega)]
end
def goodR (x : Nat × Nat) : Bool:=if x.1≠65533 then true else decide (x.2=3)
theorem goodR_eq (s : ByteArray) (i : Nat) : goodR (Utf8.decode s i)=goodB (Utf8.decode s i):=by
 rcases decode_wide s i with h | h
 · unfold goodR goodB
   by_cases h1 : (Utf8.decode s i).1=65533
   · rw [h1] at h
     have h2 : (Utf8.decode s i).2=3:=by rw [← h]; rfl
     rw [if_neg (fun h3=>h3 h1),h2]
     have : Utf8.decode s i≠(65533,1):=fun e=>by rw [e] at h2; cases h2
     simp [this]
   · rw [if_pos h1]
     have : Utf8.decode s i≠(65533,1):=fun e=>h1 (by rw [e])
     simp [this]
 · rw [h]; rfl
/-! Operations. -/
def takesN (c : Int) : Nat:=[0,2,2,3,3,3,3,3,3,1,2,2,2,2,2,1].getD c.toNat 0
def argO (o : OpR) (k : Nat) : Int:=if k=0 then o.a else if k=1 then o.b else o.c
def mostO (n : Int) (o : OpR) (k : Nat) : Int:=if takesN o.code≤k then 0 else if o.code=9∨(o.code=10∧k=1) then n else 31
def okK (n : Int) (o : OpR) (k : Nat) : Prop:=(k < takesN o.code∧o.code=1∧k=1)∨(0≤argO o k∧argO o k≤mostO n o k)
theorem okOp_iff {n : Int} {o : OpR} : okOp n o ↔ (0≤o.code∧o.code≤15)∧okK n o 0∧okK n o 1∧okK n o 2:=by
 obtain ⟨code,a,b,c⟩:=o
 simp only [okOp,okK,argO,mostO,cellP]
 by_cases h : 0≤code∧code≤15
 · have h2 : ∃ m : Nat,code=m∧m≤15:=⟨code.toNat,by omega,by omega⟩
   obtain ⟨m,rfl,hm⟩:=h2
   have : m=0∨m=1∨m=2∨m=3∨m=4∨m=5∨m=6∨m=7∨m=8∨m=9∨m=10∨m=11∨m=12∨m=13∨m=14∨m=15:=by omega
   rcases this with rfl | rfl | rfl | rfl | rfl | rfl | rfl | rfl | rfl | rfl | rfl | rfl | rfl | rfl | rfl | rfl <;> simp [takesN] <;> omega
 · constructor
   · intro h3; omega
   · intro h3; exact absurd h3.1 h
end Go.Proofs.YtagpkhbkdbaigaaGreat
