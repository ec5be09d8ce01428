/- Numbers as bytes: num.Put, num.Bytes; a text appended. -/
import Derived.Test.YtagpkhbkdbaigaaGreatVmP
import Derived.Test.YtagpkhbkdbaigaaGreatTy
import Derived.Lib.AppendStr
namespace Go.Proofs.YtagpkhbkdbaigaaGreat
open Go.RowKit
set_option linter.unusedVariables false
set_option linter.unusedSimpArgs false
set_option maxRecDepth 10000
set_option synthInstance.maxSize 4000
set_option synthInstance.maxHeartbeats 400000
section
variable {P : Program} {ops : Array Oper} {Q : Exit→Act→World→Prop} {a : Act} {w w' W : World} {K : Act→World→Prop} {o : Oper} {n d : Nat} {l : List (Nat × Value)} {v : Value} {L R : List SP}
theorem run_append_str {t u ty e : TypeId} {k c by' : Nat} {z : Value} {ad : Option Addr} {cs : List Value} (ht : P.underlying t=some (.slice e)) (hu : P.underlying u=some .string) (hi : TI P e z 1 by') (hz : z.cells.size=1) (s : St W w (Sl e 1 ad k c cs::L))
   (hc : 0 < c) (str : ByteArray) (hb : 0 < by') (hsz : (k+str.size)*by'≤140737488355328) :
   ∃ ad' c' w',(Builtin.append_ #[t,u] ty #[.slice ad k c,.string str]).run P w=.ok (.slice ad' (k+str.size) c') w'∧St W w' (Sl e 1 ad' (k+str.size) c' (cs++bc str.data.toList)::L):=by
 obtain ⟨i,hi1,hi2,hi3,hi4⟩:=info_parts hi
 have hsl:=s.sl ad
 have hstr : (bc str.data.toList).length=str.size:=Lib.strCells_length str
 obtain ⟨b,pre,post,⟨a1,a2,rfl,a4⟩,s2⟩:=s.slOpen hc
 by_cases hfit : k+str.size≤c
 · have hpl : (c - k)*1 ≥ str.size:=by omega
   have hf:=Lib.run_firstCells_string (P:=P) w 1 str
   have hst:=run_storeCells_at (P:=P) b (pre.length+k) e (bc str.data.toList) 0 (pre++cs++post).toArray w s2.has.2 (by simp [hstr]; omega) (bc_one _)
   have e1 : (pre++cs++post).take (pre.length+k)=pre++cs:=by
     have : pre.length+k=(pre++cs).length:=by simp; omega
     rw [this,List.take_left]
   have e2 : (pre++cs++post).drop (pre.length+k+0+(bc str.data.toList).length)=post.drop str.size:=by
     have : pre.length+k=(pre++cs).length:=by simp; omega
     rw [this,Nat.add_zero,hstr,← List.drop_drop,List.drop_left]
   refine ⟨some ⟨b,pre.length,none⟩,c,w.setRow b (pre++(cs++bc str.data.toList)++post.drop str.size).toArray,?_,?_⟩
   · have hst2 : (storeCells ⟨b,pre.length+k,none⟩ (bc str.data.toList) 0).run P w=.ok () (w.setRow b (((pre++cs++post).take (pre.length+k)++bc str.data.toList)++(pre++cs++post).drop (pre.length+k+0+(bc str.data.toList).length)).toArray):=hst
     rw [e1,e2] at hst2
     have hf2 : (Builtin.firstCells 1 str.size (.string str)).run P w=.ok (bc str.data.toList).toArray w:=hf
     simp [Builtin.append_,run_underlying ht,run_underlying hu,sizeOf,typeInfo,hi1,Builtin.lenOf,hfit,add_off,hi3,hf2,hst2,List.append_assoc]
   · exact St.slShut (pre:=pre) (post:=post.drop str.size) s2.setRow (by simp [hstr]; omega) (by omega) (by simp; omega)
 · have hn63 : k+str.size≤140737488355328:=Nat.le_trans (Nat.le_mul_of_pos_right _ hb) hsz
   have hge:=grownCap_ge w (k+str.size) c e
   have hgz : (Builtin.zeroCells z.cells (grownCap w (k+str.size) c e - (k+str.size))).toList.length=(grownCap w (k+str.size) c e - (k+str.size))*1:=zero_size e (by':=by') hz _
   have holds : ∀ j v,cs[j]?=some v→w.cell? ((⟨b,pre.length,none⟩ : Addr).add j)=some v:=by
     intro j v hj
     rw [add_off,s2.cell]
     have : j < cs.length:=(List.getElem?_eq_some_iff.1 hj).1
     rw [List.getElem?_append_left (by simp; omega),List.getElem?_append_right (by omega)]
     simpa using hj
   have hnx : Builtin.nextslicecap (k+str.size) c*i.bytes≤281474976710656:=by rw [hi4]; exact growslice_fits (by omega) hsz
   have hr:=Lib.run_append_grow_string (P:=P) w t u ty e i z ht hu hi1 hi2 ⟨b,pre.length,none⟩ k c cs (by rw [hi3]; exact a1) holds str (by omega) (by omega) hnx
   refine ⟨_,_,_,hr,?_⟩
   have s3:=(s.tail.drew).alloc (.cells (cs.toArray++(bc str.data.toList).toArray++Builtin.zeroCells z.cells (grownCap w (k+str.size) c e - (k+str.size))) e)
   have s4 : St W (w.drew.alloc (.cells (cs.toArray ++ (bc str.data.toList).toArray ++ Builtin.zeroCells z.cells (grownCap w (k + str.size) c e - (k + str.size))) e))
       (blk w.heap.size e ([]++(cs++bc str.data.toList)++(Builtin.zeroCells z.cells (grownCap w (k+str.size) c e - (k+str.size))).toList)::L):=by
     have : (cs.toArray++(bc str.data.toList).toArray++Builtin.zeroCells z.cells (grownCap w (k+str.size) c e - (k+str.size)))=([]++(cs++bc str.data.toList)++(Builtin.zeroCells z.cells (grownCap w (k+str.size) c e - (k+str.size))).toList).toArray:=by
       apply Array.ext'; simp
     rw [this] at s3 ⊢
     exact s3
   exact St.slShut (pre:=[]) s4 (by simp [hstr]; omega) hge (by omega)
theorem st_appendStr {s x t u z by' str e ad k c ty ps af g} {cs : List Value} (ha : Fr a n l) (hw : Region.wanted ⟨some d,.call ⟨.builtin .append,#[s,x],#[t,u]⟩,ty,ps,af,g⟩ (yielded ops a.tmps)=true) (hs : St W w L)
   (ht : P.underlying t=some (.slice e)) (hu : P.underlying u=some .string) (hi : TI P e z 1 by') (hz : z.cells.size=1) (hf : okB d n l=true)
   [e1 : Ev l s (.slice ad k c)] [pk : PickSl L ad k c e 1 cs R] [e2 : Ev l x (.string str)] (hc : 0 < c) (hb : 0 < by') (hsz : (k+str.size)*by'≤140737488355328)
   (h : ∀ ad' c' a' w',Fr a' n ((d,.slice ad' (k+str.size) c')::l)→St W w' (Sl e 1 ad' (k+str.size) c' (cs++bc str.data.toList)::R)→K a' w') :
   StepK P ops Q ⟨some d,.call ⟨.builtin .append,#[s,x],#[t,u]⟩,ty,ps,af,g⟩ K a w:=by
 obtain ⟨ad',c',w',h2,h3⟩:=run_append_str (P:=P) (ty:=ty) ht hu hi hz (hs.perm pk.perm) hc str hb hsz
 exact st_set ha hw (by simp [execOp,resolve,e1.ev a n ha,e2.ev a n ha,invoke,builtin,h2]) hf fun a' ha'=>h _ _ a' _ ha' h3
end
/-! Numbers. -/
theorem wrap_u64 (x : Int) : IntKind.u64.wrap x=x % 18446744073709551616:=by simp [IntKind.wrap,IntKind.signed,IntKind.bits]
theorem wrap_u32 (x : Int) : IntKind.u32.wrap x=x % 4294967296:=by simp [IntKind.wrap,IntKind.signed,IntKind.bits]
theorem wrap_u8 (x : Int) : IntKind.u8.wrap x=x % 256:=by simp [IntKind.wrap,IntKind.signed,IntKind.bits]
theorem com_u64 {x : Nat} (h : x < 18446744073709551616) : IntKind.u64.wrap ((BitVec.ofInt IntKind.u64.bits (if IntKind.u64.signed then -1 else IntKind.u64.max) ^^^ BitVec.ofInt IntKind.u64.bits (x : Int)).toNat)=((18446744073709551615 - x : Nat) : Int):=by
 have e : BitVec.ofInt IntKind.u64.bits (if IntKind.u64.signed then -1 else IntKind.u64.max)=BitVec.allOnes 64:=by
   show BitVec.ofInt 64 IntKind.u64.max=_
   decide
 rw [e]
 have e2 : BitVec.ofInt IntKind.u64.bits (x : Int)=BitVec.ofNat 64 x:=by
   show BitVec.ofInt 64 (x : Int)=_
   exact BitVec.ofInt_natCast 64 x
 rw [e2]
 show IntKind.u64.wrap (((BitVec.allOnes 64 ^^^ BitVec.ofNat 64 x).toNat : Nat) : Int)=_
 rw [BitVec.allOnes_xor,BitVec.toNat_not,BitVec.toNat_ofNat,wrap_u64]
 rw [Nat.mod_eq_of_lt (show x < 2 ^ 64 from h)]
 omega
theorem or_u8 {x : Nat} (h : x < 256) : IntKind.u8.wrap ((BitVec.ofInt IntKind.u8.bits (x : Int) ||| BitVec.ofInt IntKind.u8.bits 128).toNat)=((x % 128+128 : Nat) : Int):=by
 have : ∀ y : Fin 256,IntKind.u8.wrap ((BitVec.ofInt IntKind.u8.bits ((y.val : Nat) : Int) ||| BitVec.ofInt IntKind.u8.bits 128).toNat)=((y.val % 128+128 : Nat) : Int):=by decide +kernel
 exact this ⟨x,h⟩
theorem fdivN (x j : Nat) : (x : Int).fdiv (j : Int)=((x / j : Nat) : Int):=by
 rw [Int.natCast_ediv,Int.fdiv_eq_ediv_of_nonneg _ (by omega)]
def putL (u : Nat) : List UInt8:=if h : u≤127 then [UInt8.ofNat u] else UInt8.ofNat (u % 128+128)::putL (u / 128)
termination_by u
decreasing_by omega
theorem putL_small {u : Nat} (h : u≤127) : putL u=[UInt8.ofNat u]:=by rw [putL,dif_pos h]
theorem putL_big {u : Nat} (h : ¬ u≤127) : putL u=UInt8.ofNat (u % 128+128)::putL (u / 128):=by rw [putL,dif_neg h]
theorem putL_pos (u : Nat) : 1≤(putL u).length:=by
 rw [putL]; split <;> simp
theorem putL_len : ∀ (k u : Nat),u < 128 ^ (k+1)→(putL u).length≤k+1
 | 0,u,h=>by rw [putL_small (by simpa using (by omega : u≤127))]; simp
 | k+1,u,h=>by
   by_cases hu : u≤127
   · rw [putL_small hu]; simp
   · rw [putL_big hu,List.length_cons]
     have:=putL_len k (u / 128) (by rw [Nat.pow_succ] at h; omega)
     omega
def zz (n : Int) : Nat:=if n < 0 then (-2*n - 1).toNat else (2*n).toNat
section
variable {W w : World} {L L' R : List SP} {n c : Nat} {ad : Option Addr} {bs : List UInt8}
theorem put_bytes {N : Int} (hs : St W w (Sl 5 1 ad bs.length c (bc bs)::L)) (h1 : -9223372036854775808≤N) (h2 : N≤9223372036854775807) (hb : bs.length≤1099511627776) :
   Calls Tryz.prog 146 #[.slice ad bs.length c,.int .i64 N] w fun e w'=>∃ ad' c',e=.returned (.slice ad' (bs++putL (zz N)).length c')∧St W w' (Sl 5 1 ad' (bs++putL (zz N)).length c' (bc (bs++putL (zz N)))::L):=by
 refine calls_enter Tryz.func146 rfl Tryz.ntmps146 (Nat.le_of_ble_eq_true rfl) ?_
 intro a ha
 replace ha : Fr a 28 [(0,_),(1,_)]:=ha
 refine WS<|WR ?_
 refine S1 ha fun a ha=>?_
 refine LN<|TN<|WS<|WR ?_
 refine S1 ha fun a ha=>?_
 refine SK (st_set ha rfl (ex_convII ha Tryz.underlying2 Tryz.underlying148) rfl fun a ha=>?_)
 refine SK (st_set ha rfl (ex_shl ha (by decide)) rfl fun a ha=>?_)
 rw [wrap_u64,wrap_u64] at ha
 refine S1 ha fun a ha=>?_
 refine LN ?_
 obtain ⟨U0,hU0⟩ : ∃ U0 : Nat,(N % 18446744073709551616*2 ^ 1) % 18446744073709551616=(U0 : Int):=⟨((N % 18446744073709551616*2 ^ 1) % 18446744073709551616).toNat,by omega⟩
 rw [hU0] at ha
 have hU1 : U0 < 18446744073709551616:=by omega
 refine TN ?_
 refine wp_seq_cut (M:=fun a w=>Fr a 28 [(0,.slice ad bs.length c),(5,.int .u64 ((zz N : Nat) : Int))]∧St W w (Sl 5 1 ad bs.length c (bc bs)::L)) ?_ ?_
 ·
  refine WS<|WR ?_
  iterate 2 (refine S1 ha fun a ha=>?_)
  refine LN<|TN ?_
  refine WI ha (fun hc0=>?_) (fun hc0=>?_)
  ·
   refine WR ?_
   refine S1 ha fun a ha=>?_
   refine SK (st_set ha rfl (ex_com ha) rfl fun a ha=>?_)
   rw [com_u64 hU1] at ha
   refine S1d ha fun a ha=>?_
   refine LN<|TN ?_
   rw [show 18446744073709551615 - U0=zz N from by rw [zz,if_pos hc0]; omega] at ha
   exact ⟨ha.keep [0,5],hs⟩
  ·
   refine WK<|TN ?_
   rw [show U0=zz N from by rw [zz,if_neg (by omega)]; omega] at ha
   exact ⟨ha.keep [0,5],hs⟩
 ·
  clear ha; (try clear hs)
  intro a w hcut
  obtain ⟨ha,hs⟩:=hcut
  refine WS<|wp_block ?_
  refine wp_loop_ghost (fun μ a w=>∃ (U c' : Nat) (ad' : Option Addr) (dn : List UInt8),(μ=U∧dn++putL U=bs++putL (zz N)∧U≤zz N)∧Fr a 28 [(0,.slice ad' dn.length c'),(5,.int .u64 (U : Int))]∧St W w (Sl 5 1 ad' dn.length c' (bc dn)::L)) (zz N) ?_ ?_
  · exact ⟨zz N,c,ad,bs,⟨rfl,rfl,by omega⟩,ha.keep [0,5],hs⟩
  ·
   clear ha hs
   rintro μ a w ⟨U,c',ad',dn,⟨hμ,hdn,hUz⟩,ha,hs⟩
   refine WS<|WS ?_
   have hz1 : zz N < 18446744073709551616:=by rw [zz]; split <;> omega
   have hp1:=putL_len 9 (zz N) (by simp; omega)
   have hdl : dn.length≤bs.length+10:=by
     have:=congrArg List.length hdn
     rw [List.length_append,List.length_append] at this
     omega
   clear hp1
   refine WR ?_
   iterate 2 (refine S1 ha fun a ha=>?_)
   refine LN<|TN ?_
   refine WI ha (fun hc1=>?_) (fun hc1=>?_)
   ·
    refine WK<|TN<|wp_block<|WS<|WR ?_
    iterate 2 (refine S1 ha fun a ha=>?_)
    refine SK (st_set ha rfl (ex_convII ha Tryz.underlying148 Tryz.underlying5) rfl fun a ha=>?_)
    rw [wrap_u8,show (U : Int) % 256=((U % 256 : Nat) : Int) from by omega] at ha
    refine SK (st_set ha rfl (ex_or ha) rfl fun a ha=>?_)
    rw [or_u8 (Nat.mod_lt _ (by decide)),show U % 256 % 128=U % 128 from by omega] at ha
    refine SK (st_buildSlice ha rfl hs Tryz.underlying22 Ty.t5 rfl rfl rfl rfl (by decide) (by decide) fun b19 a w ha hs ho=>?_)
    clear ho
    refine SK (st_append ha rfl hs Tryz.underlying22 Ty.t5 rfl rfl hs.rdAll rfl (by simp [Value.oneCell']) (by decide) (by decide) (by omega) fun ad20 c20 a w ha hs=>?_)
    have hst : bc dn++[[Value.int .u8 ((U % 128+128 : Nat) : Int)]].flatten=bc (dn++[UInt8.ofNat (U % 128+128)]):=by
      simp [bc,UInt8.toNat_ofNat']
      omega
    rw [hst] at hs
    refine S1d ha fun a ha=>?_
    refine LN<|TN<|WR ?_
    refine S1 ha fun a ha=>?_
    refine SK (st_set ha rfl (ex_shr ha (by decide)) rfl fun a ha=>?_)
    refine S1d ha fun a ha=>?_
    refine LN ?_
    rw [show ((U : Int).fdiv (2 ^ 7))=((U / 128 : Nat) : Int) from fdivN U 128] at ha
    refine BN<|TN ?_
    exact ⟨U / 128,by omega,U / 128,_,ad20,dn++[UInt8.ofNat (U % 128+128)],⟨rfl,by rw [← hdn,putL_big (u:=U) (by omega),List.append_assoc]; rfl,by omega⟩,by rw [List.length_append]; exact ha.keep [0,5],by rw [List.length_append]; exact hs.sub⟩
   ·
    refine wp_exit<|TE<|TE<|blk_e<|TN<|WS<|WR ?_
    iterate 2 (refine S1 ha fun a ha=>?_)
    refine SK (st_set ha rfl (ex_convII ha Tryz.underlying148 Tryz.underlying5) rfl fun a ha=>?_)
    rw [wrap_u8,show (U : Int) % 256=((U : Nat) : Int) from by omega] at ha
    refine SK (st_buildSlice ha rfl hs Tryz.underlying22 Ty.t5 rfl rfl rfl rfl (by decide) (by decide) fun b26 a w ha hs ho=>?_)
    clear ho
    refine SK (st_append ha rfl hs Tryz.underlying22 Ty.t5 rfl rfl hs.rdAll rfl (by simp [Value.oneCell']) (by decide) (by decide) (by omega) fun ad27 c27 a w ha hs=>?_)
    have hst : bc dn++[[Value.int .u8 ((U : Nat) : Int)]].flatten=bc (dn++[UInt8.ofNat U]):=by
      simp [bc,UInt8.toNat_ofNat']
      omega
    rw [hst,← putL_small (by omega),hdn] at hs
    refine S1 ha fun a ha=>?_
    refine LN<|TN<|wp_ret ?_
    refine ret1 ha rfl ?_
    have hl : dn.length+1=(bs++putL (zz N)).length:=by rw [← hdn,putL_small (by omega),List.length_append]; rfl
    rw [hl] at hs ⊢
    exact ⟨_,_,rfl,hs.sub⟩
theorem bytes_spec {s : ByteArray} (hs : St W w L) (hsz : s.size≤1099511627776) :
   Calls Tryz.prog 147 #[.slice none 0 0,.string s] w fun e w'=>∃ ad' c',e=.returned (.slice ad' (putL (zz s.size)++s.data.toList).length c')∧St W w' (Sl 5 1 ad' (putL (zz s.size)++s.data.toList).length c' (bc (putL (zz s.size)++s.data.toList))::L):=by
 have hss : s.data.toList.length=s.size:=rfl
 refine calls_enter Tryz.func147 rfl Tryz.ntmps147 (Nat.le_of_ble_eq_true rfl) ?_
 intro a ha
 replace ha : Fr a 11 [(0,_),(1,_)]:=ha
 refine WS<|WR ?_
 refine S1 ha fun a ha=>?_
 refine LN<|TN<|WS<|WR ?_
 iterate 2 (refine S1 ha fun a ha=>?_)
 refine SK (st_set ha rfl (ex_lenS ha Tryz.underlying9) rfl fun a ha=>?_)
 refine SK (st_call ha rfl Ty.c146 rfl (put_bytes (bs:=[]) (N:=s.size) (hs.sl0 5 1 none) (by omega) (by omega) (by simp)) ?_); clear ha hs
 rintro e w ⟨adp,cp,rfl,hs⟩
 refine ⟨_,rfl,?_⟩
 intro a ha
 rw [List.nil_append] at ha hs
 have hp1:=putL_pos (zz s.size)
 have hp2:=putL_len 9 (zz s.size) (by rw [zz]; split <;> (simp; omega))
 have hcp:=(hs.sl adp).2
 refine S1 ha fun a ha=>?_
 refine SK (st_appendStr ha rfl hs Tryz.underlying22 Tryz.underlying9 Ty.t5 rfl rfl (by omega) (by decide) (by omega) fun ad10 c10 a w ha hs=>?_)
 rw [show (putL (zz s.size)).length+s.size=(putL (zz s.size)++s.data.toList).length from by rw [List.length_append]; rfl] at ha hs
 rw [show bc (putL (zz s.size))++bc s.data.toList=bc (putL (zz s.size)++s.data.toList) from by simp [bc]] at hs
 refine S1d ha fun a ha=>?_
 refine LN<|TN<|wp_ret ?_
 refine ret1 ha rfl ?_
 exact ⟨_,_,rfl,hs.sub⟩
end
end Go.Proofs.YtagpkhbkdbaigaaGreat
