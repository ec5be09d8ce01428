/- Numbers as bytes: num.Put, num.Bytes; a text appended. -/
import Derived.Test.YtdilfdkendjjhaaGreatA10Branch2
import Derived.Test.YtdilfdkendjjhaaGreatA04Ty
import Derived.Lib.AppendStr
namespace Go.Proofs.YtdilfdkendjjhaaGreat
open Go.RowKit
set_option linter.unusedVariables false
set_option linter.unusedSimpArgs false
set_option maxRecDepth 10000
set_option synthInstance.maxSize 4000
set_option synthInstance.maxHeartbeats 400000
section
section
variable {P:Program}{ops:Array Oper}{Q:Exit→Act→World→Prop}{a:Act}{w w' W:World}{K:Act→World→Prop}{n d:Nat}{l:List (Nat×Value)}{v:Value}{L R:List SP}
theorem run_append_str {t u ty e:TypeId}{k c by':Nat}{z:Value}{ad:Option Addr}{cs:List Value}(ht:P.underlying t=some (.slice e))(hu:P.underlying u=some .string)(hi:TI P e z 1 by')(hz:z.cells.size=1)(s:St W w (Sl e 1 ad k c cs::L))
   (hc:0<c) (str:ByteArray) (hb:0<by') (hsz:(k+str.size)*by'≤140737488355328) :
   ∃ ad' c' w',(Builtin.append_ #[t,u] ty #[.slice ad k c,.string str]).run P w=.ok (.slice ad' (k+str.size) c') w'∧St W w' (Sl e 1 ad' (k+str.size) c' (cs++bc str.data.toList)::L):=by
 obtain⟨i,hi1,hi2,hi3,hi4⟩:=info_parts hi.h
 have hsl:=s.sl ad
 have hstr:(bc str.data.toList).length=str.size:=Lib.strCells_length str
 obtain⟨b,pre,post,⟨a1,a2,rfl,a4⟩,s2⟩:=s.slOpen hc
 by_cases hfit:k+str.size≤c
 · have hpl:(c-k)*1 ≥ str.size:=by omega
   have hf:=Lib.run_firstCells_string (P:=P) w 1 str
   have hst:=run_storeCells_at (P:=P) b (pre.length+k) e (bc str.data.toList) 0 (pre++cs++post).toArray w s2.has.2 (by simp[hstr];omega) (bc_one _)
   have e1:(pre++cs++post).take (pre.length+k)=pre++cs:=by
     have:pre.length+k=(pre++cs).length:=by simp;omega
     rw[this,List.take_left]
   have e2:(pre++cs++post).drop (pre.length+k+0+(bc str.data.toList).length)=post.drop str.size:=by
     have:pre.length+k=(pre++cs).length:=by simp;omega
     rw[this,Nat.add_zero,hstr,← List.drop_drop,List.drop_left]
   refine⟨some ⟨b,pre.length,none⟩,c,w.setRow b (pre++(cs++bc str.data.toList)++post.drop str.size).toArray,?_,?_⟩
   · have hst2:(storeCells ⟨b,pre.length+k,none⟩ (bc str.data.toList) 0).run P w=.ok () (w.setRow b (((pre++cs++post).take (pre.length+k)++bc str.data.toList)++(pre++cs++post).drop (pre.length+k+0+(bc str.data.toList).length)).toArray):=hst
     rw[e1,e2]at hst2
     have hf2:(Builtin.firstCells 1 str.size (.string str)).run P w=.ok (bc str.data.toList).toArray w:=hf
     simp[Builtin.append_,run_underlying ht,run_underlying hu,sizeOf,typeInfo,hi1,Builtin.lenOf,hfit,add_off,hi3,hf2,hst2,List.append_assoc]
   · exact St.slShut (pre:=pre) (post:=post.drop str.size) s2.setRow (by simp[hstr];omega) (by omega) (by simp;omega)
 · have hn63:k+str.size≤140737488355328:=Nat.le_trans (Nat.le_mul_of_pos_right _ hb) hsz
   have hge:=grownCap_ge w (k+str.size) c e
   have hgz:(Builtin.zeroCells z.cells (grownCap w (k+str.size) c e-(k+str.size))).toList.length=(grownCap w (k+str.size) c e-(k+str.size))*1:=zero_size e (by':=by') hz _
   have holds:∀ j v,cs[j]?=some v→w.cell? ((⟨b,pre.length,none⟩:Addr).add j)=some v:=by
     intro j v hj
     rw[add_off,s2.cell]
     have:j<cs.length:=(List.getElem?_eq_some_iff.1 hj).1
     rw[List.getElem?_append_left (by simp;omega),List.getElem?_append_right (by omega)]
     simpa using hj
   have hnx:Builtin.nextslicecap (k+str.size) c*i.bytes≤281474976710656:=by rw[hi4];exact growslice_fits (by omega) hsz
   have hr:=Lib.run_append_grow_string (P:=P) w t u ty e i z ht hu hi1 hi2 ⟨b,pre.length,none⟩ k c cs (by rw[hi3];exact a1) holds str (by omega) (by omega) hnx
   refine⟨_,_,_,hr,?_⟩
   have s3:=(s.tail.drew).alloc (.cells (cs.toArray++(bc str.data.toList).toArray++Builtin.zeroCells z.cells (grownCap w (k+str.size) c e-(k+str.size))) e)
   have s4 : St W (w.drew.alloc (.cells (cs.toArray ++ (bc str.data.toList).toArray ++ Builtin.zeroCells z.cells (grownCap w (k + str.size) c e - (k + str.size))) e))
       (blk w.heap.size e ([]++(cs++bc str.data.toList)++(Builtin.zeroCells z.cells (grownCap w (k+str.size) c e-(k+str.size))).toList)::L):=by
     have:(cs.toArray++(bc str.data.toList).toArray++Builtin.zeroCells z.cells (grownCap w (k+str.size) c e-(k+str.size)))=([]++(cs++bc str.data.toList)++(Builtin.zeroCells z.cells (grownCap w (k+str.size) c e-(k+str.size))).toList).toArray:=by
       apply Array.ext';simp
     rw[this]at s3 ⊢
     exact s3
   exact St.slShut (pre:=[]) s4 (by simp[hstr];omega) hge (by omega)
theorem st_appendStr {s x t u z by' str e ad k c ty ps af g}{cs:List Value}(ha:Fr a n l)(hw:Region.wanted ⟨some d,.call ⟨.builtin .append,#[s,x],#[t,u]⟩,ty,ps,af,g⟩ (yielded ops a.tmps)=true)(hs:St W w L)
   (ht:P.underlying t=some (.slice e)) (hu:P.underlying u=some .string) (hi:TI P e z 1 by') (hz:z.cells.size=1) (hf:okB d n l=true)
   [e1:Ev l s (.slice ad k c)] [pk:PickSl L ad k c e 1 cs R] [e2:Ev l x (.string str)] (hc:0<c) (hb:0<by') (hsz:(k+str.size)*by'≤140737488355328)
   (h:∀ ad' c' a' w',Fr a' n ((d,.slice ad' (k+str.size) c')::l)→St W w' (Sl e 1 ad' (k+str.size) c' (cs++bc str.data.toList)::R)→K a' w') :
   StepK P ops Q ⟨some d,.call ⟨.builtin .append,#[s,x],#[t,u]⟩,ty,ps,af,g⟩ K a w:=by
 obtain⟨ad',c',w',h2,h3⟩:=run_append_str (P:=P) (ty:=ty) ht hu hi hz (hs.perm pk.perm) hc str hb hsz
 exact st_set ha hw (by simp[execOp,resolve,e1.ev a n ha,e2.ev a n ha,invoke,builtin,h2]) hf λa' ha'=>h _ _ a' _ ha' h3
end
theorem wrap_u64 (x:Int):IntKind.u64.wrap x=x%18446744073709551616:=by simp[IntKind.wrap,IntKind.signed,IntKind.bits]
theorem wrap_u32 (x:Int):IntKind.u32.wrap x=x%4294967296:=by simp[IntKind.wrap,IntKind.signed,IntKind.bits]
theorem wrap_u8 (x:Int):IntKind.u8.wrap x=x%256:=by simp[IntKind.wrap,IntKind.signed,IntKind.bits]
theorem com_u64 {x:Nat}(h:x<18446744073709551616):IntKind.u64.wrap ((BitVec.ofInt IntKind.u64.bits (if IntKind.u64.signed then -1 else IntKind.u64.max) ^^^ BitVec.ofInt IntKind.u64.bits (x:Int)).toNat)=((18446744073709551615-x:Nat):Int):=by
 have e:BitVec.ofInt IntKind.u64.bits (if IntKind.u64.signed then -1 else IntKind.u64.max)=BitVec.allOnes 64:=by
   show BitVec.ofInt 64 IntKind.u64.max=_
   decide
 rw[e]
 have e2:BitVec.ofInt IntKind.u64.bits (x:Int)=BitVec.ofNat 64 x:=by
   show BitVec.ofInt 64 (x:Int)=_
   exact BitVec.ofInt_natCast 64 x
 rw[e2]
 show IntKind.u64.wrap (((BitVec.allOnes 64 ^^^ BitVec.ofNat 64 x).toNat:Nat):Int)=_
 rw[BitVec.allOnes_xor,BitVec.toNat_not,BitVec.toNat_ofNat,wrap_u64]
 rw[Nat.mod_eq_of_lt (show x<2 ^ 64 from h)]
 omega
theorem or_u8 {x:Nat}(h:x<256):IntKind.u8.wrap ((BitVec.ofInt IntKind.u8.bits (x:Int) ||| BitVec.ofInt IntKind.u8.bits 128).toNat)=((x%128+128:Nat):Int):=by
 have:∀ y:Fin 256,IntKind.u8.wrap ((BitVec.ofInt IntKind.u8.bits ((y.val:Nat):Int) ||| BitVec.ofInt IntKind.u8.bits 128).toNat)=((y.val%128+128:Nat):Int):=by decide +kernel
 exact this ⟨x,h⟩
theorem fdivN (x j:Nat):(x:Int).fdiv (j:Int)=((x/j:Nat):Int):=by
 rw[Int.natCast_ediv,Int.fdiv_eq_ediv_of_nonneg _ (by omega)]
def putL (u:Nat):List UInt8:=if h:u≤127 then [UInt8.ofNat u] else UInt8.ofNat (u%128+128)::putL (u/128)
termination_by u
decreasing_by omega
theorem putL_small {u:Nat}(h:u≤127):putL u=[UInt8.ofNat u]:=by rw[putL,dif_pos h]
theorem putL_big {u:Nat}(h:¬ u≤127):putL u=UInt8.ofNat (u%128+128)::putL (u/128):=by rw[putL,dif_neg h]
theorem putL_pos (u:Nat):1≤(putL u).length:=by
 rw[putL];split <;> simp
theorem putL_len:∀ (k u:Nat),u<128 ^ (k+1)→(putL u).length≤k+1
 | 0,u,h=>by rw[putL_small (by simpa using (by omega:u≤127))];simp
 | k+1,u,h=>by
   by_cases hu:u≤127
   · rw[putL_small hu];simp
   · rw[putL_big hu,List.length_cons]
     have:=putL_len k (u/128) (by rw[Nat.pow_succ]at h;omega)
     omega
def zz (n:Int):Nat:=if n<0 then (-2*n-1).toNat else (2*n).toNat
section
variable {W w:World}{L:List SP}{c:Nat}{ad:Option Addr}{bs:List UInt8}
theorem put_bytes {N:Int}(hs:St W w (Sl 5 1 ad bs.length c (bc bs)::L))(h1:-9223372036854775808≤N)(h2:N≤9223372036854775807)(hb:bs.length≤1099511627776) :
   Calls Tryz.prog 262 #[.slice ad bs.length c,.int .i64 N] w λe w'=>∃ ad' c',e=.returned (.slice ad' (bs++putL (zz N)).length c')∧St W w' (Sl 5 1 ad' (bs++putL (zz N)).length c' (bc (bs++putL (zz N)))::L):=by
 refine EN Tryz.func262 Tryz.ntmps262 rfl rfl λa ha=>?_
 refine RN 4 ha hs λa ha=>?_
 refine SS ha (ex_convII ha Tryz.underlying2 Tryz.underlying224) λa ha=>?_
 refine RN 1 ha hs λa ha=>?_
 rw[wrap_u64,wrap_u64]at ha
 refine RN 1 ha hs λa ha=>?_
 obtain⟨U0,hU0⟩:∃ U0:Nat,(N%18446744073709551616*2 ^ 1)%18446744073709551616=(U0:Int):=⟨((N%18446744073709551616*2 ^ 1)%18446744073709551616).toNat,by omega⟩
 rw[hU0]at ha
 have hU1:U0<18446744073709551616:=by omega
 refine wp_seq_cut (M:=λa w=>Fr a 28 [(0,.slice ad bs.length c),(5,.int .u64 ((zz N:Nat):Int))]∧St W w (Sl 5 1 ad bs.length c (bc bs)::L)) ?_ ?_
 ·
  refine IF 3 ha hs (λhc0 a ha=>?_) λhc0 a ha=>?_
  ·
   refine RN 2 ha hs λa ha=>?_
   rw[com_u64 hU1]at ha
   refine RN 1 ha hs λa ha=>?_
   rw[show 18446744073709551615-U0=zz N from by rw[zz,if_pos hc0];omega]at ha
   exact⟨ha.keep [0,5],hs⟩
  refine RN 0 ha hs λa ha=>?_
  rw[show U0=zz N from by rw[zz,if_neg (by omega)];omega]at ha
  exact⟨ha.keep [0,5],hs⟩
 clear ha;(try clear hs)
 rintro a w ⟨ha,hs⟩
 refine RN 1 ha hs λa ha=>?_
 refine wp_loop_ghost (λμ a w=>∃ (U c':Nat) (ad':Option Addr) (dn:List UInt8),(μ=U∧dn++putL U=bs++putL (zz N)∧U≤zz N)∧Fr a 28 [(0,.slice ad' dn.length c'),(5,.int .u64 (U:Int))]∧St W w (Sl 5 1 ad' dn.length c' (bc dn)::L)) (zz N) (⟨zz N,c,ad,bs,⟨rfl,rfl,by omega⟩,ha.keep [0,5],hs⟩) ?_
 clear ha hs
 rintro μ a w ⟨U,c',ad',dn,⟨hμ,hdn,hUz⟩,ha,hs⟩
 refine RN 2 ha hs λa ha=>?_
 have hz1:zz N<18446744073709551616:=by rw[zz];split <;> omega
 have hp1:=putL_len 9 (zz N) (by simp;omega)
 have hdl:dn.length≤bs.length+10:=by
   have:=congrArg List.length hdn
   rw[List.length_append,List.length_append]at this
   omega
 clear hp1
 refine IF 2 ha hs (λhc1 a ha=>?_) λhc1 a ha=>?_
 ·
  refine RN 3 ha hs λa ha=>?_
  refine SS ha (ex_convII ha Tryz.underlying224 Tryz.underlying5) λa ha=>?_
  rw[wrap_u8,show (U:Int)%256=((U%256:Nat):Int) from by omega]at ha
  refine RN 1 ha hs λa ha=>?_
  rw[or_u8 (Nat.mod_lt _ (by decide)),show U%256%128=U%128 from by omega]at ha
  refine st_buildSlice ha rfl hs Tryz.underlying22 Ty.t5 rfl rfl rfl rfl (by decide) (by decide) λb19 a w ha hs ho=>?_
  clear ho
  refine RN 0 ha hs λa ha=>?_
  refine st_append ha rfl hs Tryz.underlying22 Ty.t5 rfl rfl hs.rdAll rfl (by simp[Value.oneCell']) (by decide) (by decide) (by omega) λad20 c20 a w ha hs=>?_
  have hst:bc dn++[[Value.int .u8 ((U%128+128:Nat):Int)]].flatten=bc (dn++[UInt8.ofNat (U%128+128)]):=by
    simp[bc,UInt8.toNat_ofNat']
    omega
  rw[hst]at hs
  refine RN 4 ha hs λa ha=>?_
  rw[show ((U:Int).fdiv (2 ^ 7))=((U/128:Nat):Int) from fdivN U 128]at ha
  exact⟨U/128,by omega,U/128,_,ad20,dn++[UInt8.ofNat (U%128+128)],⟨rfl,by rw[← hdn,putL_big (u:=U) (by omega),List.append_assoc];rfl,by omega⟩,by rw[List.length_append];exact ha.keep [0,5],by rw[List.length_append];exact hs.sub⟩
 refine RN 3 ha hs λa ha=>?_
 refine SS ha (ex_convII ha Tryz.underlying224 Tryz.underlying5) λa ha=>?_
 rw[wrap_u8,show (U:Int)%256=((U:Nat):Int) from by omega]at ha
 refine RN 0 ha hs λa ha=>?_
 refine st_buildSlice ha rfl hs Tryz.underlying22 Ty.t5 rfl rfl rfl rfl (by decide) (by decide) λb26 a w ha hs ho=>?_
 clear ho
 refine RN 0 ha hs λa ha=>?_
 refine st_append ha rfl hs Tryz.underlying22 Ty.t5 rfl rfl hs.rdAll rfl (by simp[Value.oneCell']) (by decide) (by decide) (by omega) λad27 c27 a w ha hs=>?_
 have hst:bc dn++[[Value.int .u8 ((U:Nat):Int)]].flatten=bc (dn++[UInt8.ofNat U]):=by
   simp[bc,UInt8.toNat_ofNat']
   omega
 rw[hst,← putL_small (by omega),hdn]at hs
 refine RT 1 ha hs ?_
 have hl:dn.length+1=(bs++putL (zz N)).length:=by rw[← hdn,putL_small (by omega),List.length_append];rfl
 rw[hl]at hs ⊢
 exact⟨_,_,rfl,hs.sub⟩
theorem bytes_spec {s:ByteArray}(hs:St W w L)(hsz:s.size≤1099511627776) :
   Calls Tryz.prog 263 #[.slice none 0 0,.string s] w λe w'=>∃ ad' c',e=.returned (.slice ad' (putL (zz s.size)++s.data.toList).length c')∧St W w' (Sl 5 1 ad' (putL (zz s.size)++s.data.toList).length c' (bc (putL (zz s.size)++s.data.toList))::L):=by
 have hss:s.data.toList.length=s.size:=rfl
 refine EN Tryz.func263 Tryz.ntmps263 rfl rfl λa ha=>?_
 refine CL2 6 ha hs (put_bytes (bs:=[]) (N:=s.size) (hs.sl0 5 1 none) (by omega) (by omega) (by simp)) λadp cp a w ha hs=>?_
 rw[List.nil_append]at ha hs
 have hp1:=putL_pos (zz s.size)
 have hp2:=putL_len 9 (zz s.size) (by rw[zz];split <;> (simp;omega))
 have hcp:=(hs.sl adp).2
 refine RN 1 ha hs λa ha=>?_
 refine st_appendStr ha rfl hs Tryz.underlying22 Tryz.underlying9 Ty.t5 rfl rfl (by omega) (by decide) (by omega) λad10 c10 a w ha hs=>?_
 rw[show (putL (zz s.size)).length+s.size=(putL (zz s.size)++s.data.toList).length from by rw[List.length_append];rfl]at ha hs
 rw[show bc (putL (zz s.size))++bc s.data.toList=bc (putL (zz s.size)++s.data.toList) from by simp[bc]]at hs
 refine RT 1 ha hs ?_
 exact⟨_,_,rfl,hs.sub⟩
end
end
section
section
variable {W w:World}{L:List SP}{n:Nat}{s:ByteArray}
theorem wide_spec {r:Nat}(hs:St W w L):Calls Tryz.prog 291 #[.int .i32 r] w λe w'=>e=.returned (.int .i64 (wideN r))∧St W w' L:=by
 refine EN Tryz.func291 Tryz.ntmps291 rfl rfl λa ha=>?_
 refine IF 7 ha hs (λhc0 a ha=>?_) λhc0 a ha=>?_
 ·
  refine RT 2 ha hs ?_
  exact⟨by rw[wideN,if_pos (by omega)];rfl,hs⟩
 refine IF 4 ha hs (λhc1 a ha=>?_) λhc1 a ha=>?_
 ·
  refine RT 2 ha hs ?_
  exact⟨by rw[wideN,if_neg (by omega),if_pos (by omega)];rfl,hs⟩
 refine IF 4 ha hs (λhc2 a ha=>?_) λhc2 a ha=>?_
 ·
  refine RT 2 ha hs ?_
  exact⟨by rw[wideN,if_neg (by omega),if_neg (by omega),if_pos (by omega)];rfl,hs⟩
 refine RT 2 ha hs ?_
 exact⟨by rw[wideN,if_neg (by omega),if_neg (by omega),if_neg (by omega)];rfl,hs⟩
theorem all_snoc {α:Type}(l:List α)(x:α)(f:α→Bool):(l++[x]).all f=(l.all f&&f x):=by simp
theorem valid_spec (hs:St W w L)(hsz:s.size≤1099511627776):Calls Tryz.prog 283 #[.string s] w λe w'=>e=.returned (.bool ((runesAt s 0).all goodB))∧St W w' L:=by
 refine EN Tryz.func283 Tryz.ntmps283 rfl rfl λa ha=>?_
 refine RN 7 ha hs λa ha=>?_
 refine st_range ha rfl hs Tryz.underlying9 rfl λb7 a w ha hs ho=>?_
 clear ho
 refine RN 0 ha hs λa ha=>?_
 refine wp_loop_ghost (λμ a w=>∃ (pos n:Nat) (dn:List (Nat×Nat)),(μ=s.size-pos∧pos≤s.size∧runesAt s 0=dn++runesAt s pos∧((dn.all goodB=true∧n=pos)∨(dn.all goodB=false∧n=pos+2)))∧Fr a 23 [(0,.string s),(3,.int .i64 n),(7,pt b7)]∧St W w (pts b7 (.stringIter s pos)::L)) (s.size) (⟨0,0,[],⟨by simp,by simp,by simp,.inl ⟨rfl,rfl⟩⟩,ha.keep [0,3,7],hs⟩) ?_
 clear ha hs
 rintro μ a w ⟨pos,n,dn,⟨rfl,hpos,hdn,hg⟩,ha,hs⟩
 refine RN 1 ha hs λa ha=>?_
 refine st_next ha rfl hs rfl λa w ha hs=>?_
 refine RN 0 ha hs λa ha=>?_
 refine SS ha (ex_extract ha (nx0 s pos)) λa ha=>?_
 refine IF 1 ha hs (λhc0 a ha=>?_) λhc0 a ha=>?_
 ·
  have hra:=runesAt_in hc0
  have hal:=adv_le hpos
  have had:adv s pos=pos+(Utf8.decode s pos).2:=by rw[adv,if_pos hc0]
  have hwp:=decode_pos s pos
  refine RN 1 ha hs λa ha=>?_
  refine SS ha (ex_extract ha (nx1 hc0)) λa ha=>?_
  refine RN 0 ha hs λa ha=>?_
  refine SS ha (ex_extract ha (nx2 hc0)) λa ha=>?_
  refine IF 7 ha hs (λhc1 a ha=>?_) λhc1 a ha=>?_
  ·
   have hgf:dn.all goodB=false:=by
     rcases hg with ⟨_,h⟩ | ⟨h,_⟩
     · omega
     · exact h
   refine RT 2 ha hs ?_
   exact⟨by rw[hdn,List.all_append,hgf,Bool.false_and],hs.sub⟩
  obtain⟨hgt,hn⟩:=hg.resolve_right (λh=>by omega)
  have hw4:wideN (Utf8.decode s pos).1≤4:=by unfold wideN;(repeat' split) <;> omega
  refine CL 2 ha hs (wide_spec hs) λa w ha hs=>?_
  refine RN 2 ha hs λa ha=>?_
  refine⟨s.size-adv s pos,by omega,adv s pos,n+wideN (Utf8.decode s pos).1,dn++[Utf8.decode s pos],⟨rfl,hal,by rw[hdn,hra,List.append_assoc];rfl,?_⟩,ha.keep [0,3,7],hs.sub⟩
  rw[all_snoc,hgt,Bool.true_and]
  rcases decode_wide s pos with h | h
  · refine .inl ⟨?_,by omega⟩
    simp only[goodB,Bool.not_eq_true',decide_eq_false_iff_not]
    intro e
    rw[e]at h;simp[wideN]at h
  · refine .inr ⟨by simp[goodB,h],?_⟩
    rw[had,h];simp[wideN];omega
 refine RN 1 ha hs λa ha=>?_
 have hps:pos=s.size:=by omega
 have hro:=runesAt_out (s:=s) (pos:=pos) (by omega)
 rw[hro,List.append_nil]at hdn
 refine RT 5 ha hs ?_
 refine⟨?_,hs.sub⟩
 rw[hdn]
 rcases hg with ⟨h,h2⟩ | ⟨h,h2⟩
 · rw[h,decide_eq_true (by omega)]
 · rw[h,decide_eq_false (by omega)]
theorem title_spec (hs:St W w L)(hsz:s.size≤1099511627776):Calls Tryz.prog 261 #[.string s] w λe w'=>e=.returned (.bool (tOk s))∧St W w' L:=by
 refine EN Tryz.func261 Tryz.ntmps261 rfl rfl λa ha=>?_
 refine RN 7 ha hs λa ha=>?_
 refine st_range ha rfl hs Tryz.underlying9 rfl λb7 a w ha hs ho=>?_
 clear ho
 refine RN 0 ha hs λa ha=>?_
 refine wp_loop_ghost (λμ a w=>∃ (pos:Nat) (dn:List (Nat×Nat)),(μ=s.size-pos∧pos≤s.size∧runesAt s 0=dn++runesAt s pos∧dn.all ctlB=true∧dn.length≤pos)∧Fr a 29 [(0,.string s),(3,.int .i64 dn.length),(7,pt b7)]∧St W w (pts b7 (.stringIter s pos)::L)) (s.size) (⟨0,[],⟨by simp,by simp,by simp,rfl,by simp⟩,ha.keep [0,3,7],hs⟩) ?_
 clear ha hs
 rintro μ a w ⟨pos,dn,⟨rfl,hpos,hdn,hg,hdl⟩,ha,hs⟩
 refine RN 1 ha hs λa ha=>?_
 refine st_next ha rfl hs rfl λa w ha hs=>?_
 refine RN 0 ha hs λa ha=>?_
 refine SS ha (ex_extract ha (nx0 s pos)) λa ha=>?_
 refine IF 1 ha hs (λhc0 a ha=>?_) λhc0 a ha=>?_
 ·
  have hra:=runesAt_in hc0
  have hal:=adv_le hpos
  have had:adv s pos=pos+(Utf8.decode s pos).2:=by rw[adv,if_pos hc0]
  have hwp:=decode_pos s pos
  refine RN 1 ha hs λa ha=>?_
  refine SS ha (ex_extract ha (nx2 hc0)) λa ha=>?_
  refine BY 6 ha hs (λhg2 a ha=>?_) λhg2 a ha=>?_
  ·
   have hbad:ctlB (Utf8.decode s pos)=false:=by simp[ctlB];omega
   refine RT 6 ha hs ?_
   refine⟨?_,hs.sub⟩
   have:(runesAt s 0).all ctlB=false:=by rw[hdn,hra,List.all_append,List.all_cons,hbad];simp
   rw[tOk,this];simp
  refine IF 3 ha hs (λhc1 a ha=>?_) λhc1 a ha=>?_
  ·
   have hbad:ctlB (Utf8.decode s pos)=false:=by simp[ctlB];omega
   refine RT 2 ha hs ?_
   refine⟨?_,hs.sub⟩
   have:(runesAt s 0).all ctlB=false:=by rw[hdn,hra,List.all_append,List.all_cons,hbad];simp
   rw[tOk,this];simp
  refine RN 3 ha hs λa ha=>?_
  exact⟨s.size-adv s pos,by omega,adv s pos,dn++[Utf8.decode s pos],⟨rfl,hal,by rw[hdn,hra,List.append_assoc];rfl,by rw[all_snoc,hg];simp[ctlB];omega,by rw[List.length_append];simp;omega⟩,by rw[List.length_append];exact ha.keep [0,3,7],hs.sub⟩
 refine RN 1 ha hs λa ha=>?_
 have hro:=runesAt_out (s:=s) (pos:=pos) (by omega)
 rw[hro,List.append_nil]at hdn
 have htk:tOk s=(decide (1≤dn.length)&&decide (dn.length≤20)&&(runesAt s 0).all goodB):=by rw[tOk,hdn,hg];simp
 refine BY 3 ha hs (λhg2 a ha=>?_) λhg2 a ha=>?_
 ·
  refine BY 4 ha hs (λhg6 a ha=>?_) λhg6 a ha=>?_
  ·
   refine CL 1 ha hs (valid_spec hs hsz) λa w ha hs=>?_
   refine RT 2 ha hs ?_
   refine⟨?_,hs.sub⟩
   rw[htk]
   first
     | (rw[decide_eq_false (show ¬ 1≤dn.length by omega)];rfl)
     | (rw[decide_eq_false (show ¬ dn.length≤20 by omega)];simp;done)
     | (rw[decide_eq_true (show 1≤dn.length by omega),decide_eq_true (show dn.length≤20 by omega)];rfl)
  refine RT 4 ha hs ?_
  refine⟨?_,hs.sub⟩
  rw[htk]
  first
    | (rw[decide_eq_false (show ¬ 1≤dn.length by omega)];rfl)
    | (rw[decide_eq_false (show ¬ dn.length≤20 by omega)];simp;done)
    | (rw[decide_eq_true (show 1≤dn.length by omega),decide_eq_true (show dn.length≤20 by omega)];rfl)
 refine RT 8 ha hs ?_
 refine⟨?_,hs.sub⟩
 rw[htk]
 first
   | (rw[decide_eq_false (show ¬ 1≤dn.length by omega)];rfl)
   | (rw[decide_eq_false (show ¬ dn.length≤20 by omega)];simp;done)
   | (rw[decide_eq_true (show 1≤dn.length by omega),decide_eq_true (show dn.length≤20 by omega)];rfl)
def tkI (k:Int):Int:=if k=0 then 0 else if k=9∨k=15 then 1 else if k=1∨k=2∨(10≤k∧k≤14) then 2 else if 3≤k∧k≤8 then 3 else -1
theorem tkI_cases (k:Int):(k=0∧tkI k=0)∨((k=9∨k=15)∧tkI k=1)∨((k=1∨k=2∨(10≤k∧k≤14))∧tkI k=2)∨(3≤k∧k≤8∧tkI k=3)∨((k<0∨15<k)∧tkI k = -1):=by
 unfold tkI
 repeat' split
 all_goals omega
theorem takes_spec {k:Int}(hs:St W w L):Calls Tryz.prog 265 #[.int .i64 k] w λe w'=>e=.returned (.int .i64 (tkI k))∧St W w' L:=by
 have hk:=tkI_cases k
 have hfin:∀ (z:Int) (w':World),St W w' L→z=tkI k→Ending.returned (Value.int .i64 z)=.returned (.int .i64 (tkI k))∧St W w' L:=λz w' h e=>⟨by rw[e],h⟩
 refine EN Tryz.func265 Tryz.ntmps265 rfl rfl λa ha=>?_
 refine IF 8 ha hs (λhc0 a ha=>?_) λhc0 a ha=>?_
 ·
  refine RT 2 ha hs ?_
  exact hfin _ _ hs (by omega)
 refine IF 4 ha hs (λhc1 a ha=>?_) λhc1 a ha=>?_
 ·
  refine RT 3 ha hs ?_
  exact hfin _ _ hs (by omega)
 refine IF 2 ha hs (λhc2 a ha=>?_) λhc2 a ha=>?_
 ·
  refine RT 2 ha hs ?_
  exact hfin _ _ hs (by omega)
 refine IF 4 ha hs (λhc3 a ha=>?_) λhc3 a ha=>?_
 ·
  refine RT 3 ha hs ?_
  exact hfin _ _ hs (by omega)
 refine IF 3 ha hs (λhc4 a ha=>?_) λhc4 a ha=>?_
 ·
  refine RT 3 ha hs ?_
  exact hfin _ _ hs (by omega)
 refine IF 3 ha hs (λhc5 a ha=>?_) λhc5 a ha=>?_
 ·
  refine RT 3 ha hs ?_
  exact hfin _ _ hs (by omega)
 refine IF 3 ha hs (λhc6 a ha=>?_) λhc6 a ha=>?_
 ·
  refine RT 3 ha hs ?_
  exact hfin _ _ hs (by omega)
 refine IF 3 ha hs (λhc7 a ha=>?_) λhc7 a ha=>?_
 ·
  refine RT 3 ha hs ?_
  exact hfin _ _ hs (by omega)
 refine IF 3 ha hs (λhc8 a ha=>?_) λhc8 a ha=>?_
 ·
  refine RT 3 ha hs ?_
  exact hfin _ _ hs (by omega)
 refine IF 2 ha hs (λhc9 a ha=>?_) λhc9 a ha=>?_
 ·
  refine RT 2 ha hs ?_
  exact hfin _ _ hs (by omega)
 refine IF 4 ha hs (λhc10 a ha=>?_) λhc10 a ha=>?_
 ·
  refine RT 3 ha hs ?_
  exact hfin _ _ hs (by omega)
 refine IF 3 ha hs (λhc11 a ha=>?_) λhc11 a ha=>?_
 ·
  refine RT 3 ha hs ?_
  exact hfin _ _ hs (by omega)
 refine IF 3 ha hs (λhc12 a ha=>?_) λhc12 a ha=>?_
 ·
  refine RT 3 ha hs ?_
  exact hfin _ _ hs (by omega)
 refine IF 3 ha hs (λhc13 a ha=>?_) λhc13 a ha=>?_
 ·
  refine RT 3 ha hs ?_
  exact hfin _ _ hs (by omega)
 refine IF 3 ha hs (λhc14 a ha=>?_) λhc14 a ha=>?_
 ·
  refine RT 3 ha hs ?_
  exact hfin _ _ hs (by omega)
 refine IF 2 ha hs (λhc15 a ha=>?_) λhc15 a ha=>?_
 ·
  refine RT 2 ha hs ?_
  exact hfin _ _ hs (by omega)
 refine RT 2 ha hs ?_
 exact hfin _ _ hs (by omega)
def CellsIn (l:List Int):Prop:=∀ x∈l,cellP x
theorem cell_spec {zs:List Int}{b e:Nat}(hs:St W w (blk b e (zs.map (.int .i64))::L))(hl:zs.length≤10) :
   Calls Tryz.prog 266 #[.slice (some ⟨b,0,none⟩) zs.length zs.length] w λe' w'=>∃ r:Bool,e'=.returned (.bool r)∧(r=true↔CellsIn zs)∧St W w' (blk b e (zs.map (.int .i64))::L):=by
 refine EN Tryz.func266 Tryz.ntmps266 rfl rfl λa ha=>?_
 refine RN 7 ha hs λa ha=>?_
 refine wp_loop_ghost (λμ a w=>∃ i:Nat,(μ=zs.length-i∧i≤zs.length∧∀ j x,j<i→zs[j]?=some x→cellP x)∧Fr a 18 [(5,.slice (some ⟨b,0,none⟩) zs.length zs.length),(6,.int .i64 zs.length),(7,.int .i64 i)]∧St W w (blk b e (zs.map (.int .i64))::L)) (zs.length) (⟨0,⟨by simp,by simp,λj x h=>absurd h (by omega)⟩,ha.keep [5,6,7],hs⟩) ?_
 clear ha hs
 rintro μ a w ⟨i,⟨rfl,hi,hin⟩,ha,hs⟩
 refine IF 3 ha hs (λhc0 a ha=>?_) λhc0 a ha=>?_
 ·
  obtain⟨x,hx⟩:∃ x,zs[i]?=some x:=⟨_,List.getElem?_eq_getElem (by omega)⟩
  refine RN 3 ha hs λa ha=>?_
  refine SS ha (ld1 ha (hs.rd1 (v:=.int .i64 x) (by rw[List.getElem?_map,hx];rfl))) λa ha=>?_
  refine BY 5 ha hs (λhg2 a ha=>?_) λhg2 a ha=>?_
  ·
   refine RT 6 ha hs ?_
   refine⟨false,rfl,⟨λh=>(by cases h),λh=>?_⟩,hs.sub⟩
   have:=h x (List.mem_of_getElem? hx)
   unfold cellP at this;omega
  refine IF 3 ha hs (λhc1 a ha=>?_) λhc1 a ha=>?_
  ·
   refine RT 2 ha hs ?_
   refine⟨false,rfl,⟨λh=>(by cases h),λh=>?_⟩,hs.sub⟩
   have:=h x (List.mem_of_getElem? hx)
   unfold cellP at this;omega
  refine RN 2 ha hs λa ha=>?_
  refine⟨zs.length-(i+1),by omega,i+1,⟨rfl,by omega,λj y hj hy=>?_⟩,ha.keep [5,6,7],hs.sub⟩
  by_cases e:j=i
  · subst e
    rw[hx]at hy;cases hy
    unfold cellP;omega
  · exact hin j y (by omega) hy
 refine RT 2 ha hs ?_
 refine⟨true,rfl,⟨λ_ x hx=>?_,λ_=>rfl⟩,hs.sub⟩
 obtain⟨j,hj⟩:=List.mem_iff_getElem?.1 hx
 exact hin j x (by have:=(List.getElem?_eq_some_iff.1 hj).1;omega) hj
theorem to_spec {k n:Int}{b e:Nat}(hs:St W w (blk b e [.int .i64 n]::L)) :
   Calls Tryz.prog 264 #[.int .i64 k,pt b] w λe' w'=>e'=.returned (.bool (decide (0≤k∧k≤n)))∧St W w' (blk b e [.int .i64 n]::L):=by
 refine EN Tryz.func264 Tryz.ntmps264 rfl rfl λa ha=>?_
 refine BY 6 ha hs (λhg2 a ha=>?_) λhg2 a ha=>?_
 ·
  refine RT 5 ha hs ?_
  refine⟨?_,hs.sub⟩
  first
    | (rw[decide_eq_false (show ¬ (0≤k∧k≤n) by omega)])
    | (congr 2;rw[decide_eq_decide];omega)
 refine RT 5 ha hs ?_
 refine⟨?_,hs.sub⟩
 first
   | (rw[decide_eq_false (show ¬ (0≤k∧k≤n) by omega)])
   | (congr 2;rw[decide_eq_decide];omega)
end
end
section
section
variable {W w:World}{L:List SP}{c:Nat}{ad:Option Addr}
theorem okOp_0 {o:OpR}{m:Int}(h:o.code=0):okOp m o↔(o.a=0∧o.b=0∧o.c=0):=by
 simp only[okOp,cellP]
 exact⟨λh=>by omega,λh2=>.inl ⟨h,h2⟩⟩
theorem okOp_1 {o:OpR}{m:Int}(h:o.code=1):okOp m o↔(cellP o.a∧o.c=0):=by
 simp only[okOp,cellP]
 exact⟨λh=>by omega,λh2=>.inr (.inl ⟨h,h2⟩)⟩
theorem okOp_9 {o:OpR}{m:Int}(h:o.code=9):okOp m o↔(0≤o.a∧o.a≤m∧o.b=0∧o.c=0):=by
 simp only[okOp,cellP]
 exact⟨λh=>by omega,λh2=>.inr (.inr (.inl ⟨h,h2⟩))⟩
theorem okOp_15 {o:OpR}{m:Int}(h:o.code=15):okOp m o↔(cellP o.a∧o.b=0∧o.c=0):=by
 simp only[okOp,cellP]
 exact⟨λh=>by omega,λh2=>.inr (.inr (.inr (.inl ⟨h,h2⟩)))⟩
theorem okOp_10 {o:OpR}{m:Int}(h:o.code=10):okOp m o↔(cellP o.a∧0≤o.b∧o.b≤m∧o.c=0):=by
 simp only[okOp,cellP]
 exact⟨λh=>by omega,λh2=>.inr (.inr (.inr (.inr (.inl ⟨h,h2⟩))))⟩
theorem okOp_2 {o:OpR}{m:Int}(h:o.code=2∨(11≤o.code∧o.code≤14)):okOp m o↔(cellP o.a∧cellP o.b∧o.c=0):=by
 simp only[okOp,cellP]
 exact⟨λh=>by omega,λh2=>.inr (.inr (.inr (.inr (.inr (.inl ⟨h,h2⟩)))))⟩
theorem okOp_3 {o:OpR}{m:Int}(h:3≤o.code∧o.code≤8):okOp m o↔(cellP o.a∧cellP o.b∧cellP o.c):=by
 simp only[okOp,cellP]
 exact⟨λh=>by omega,λh2=>.inr (.inr (.inr (.inr (.inr (.inr ⟨h.1,h.2,h2⟩)))))⟩
theorem okOp_tk {o:OpR}{m:Int}(h:okOp m o):0≤tkI o.code∧(tkI o.code<3→o.c=0)∧(tkI o.code<2→o.b=0)∧(tkI o.code<1→o.a=0):=by
 have hk:=tkI_cases o.code
 simp only[okOp,cellP]at h
 omega
theorem may_spec {o:OpR}{m:Nat}(hs:St W w L):Calls Tryz.prog 223 #[.agg (opR o).toArray,.int .i64 m] w λe w'=>∃ r:Bool,e=.returned (.bool r)∧(r=true↔okOp m o)∧St W w' L:=by
 have hk:=tkI_cases o.code
 have hfin:∀ (r:Bool) (P:Prop) (w':World),St W w' L→(r=true↔P)→(P↔okOp m o)→∃ r':Bool,Ending.returned (Value.bool r)=.returned (.bool r')∧(r'=true↔okOp m o)∧St W w' L:=λr P w' h e1 e2=>⟨r,rfl,e1.trans e2,h⟩
 refine EN Tryz.func223 Tryz.ntmps223 rfl rfl λa ha=>?_
 refine BX 1 ha hs λb2 a w ha hs=>?_
 change St W w (blk b2 119 (opR o)::_) at hs
 refine BX 0 ha hs λb3 a w ha hs=>?_
 refine CL 7 ha hs (takes_spec hs) λa w ha hs=>?_
 refine RN 1 ha hs λa ha=>?_
 refine wp_seq_cut (M:=λa w=>(0≤tkI o.code∧(tkI o.code<3→o.c=0)∧(tkI o.code<2→o.b=0)∧(tkI o.code<1→o.a=0))∧Fr a 76 [(2,pt b2),(3,pt b3),(5,.func (.func 264) #[] (List.toArray [pt b3]))]∧St W w (blk b3 3 [.int .i64 m]::blk b2 119 (opR o)::L)) ?_ ?_
 ·
  refine BY 4 ha hs (λhg2 a ha=>?_) λhg2 a ha=>?_
  ·
   refine RT 29 ha hs ?_
   exact hfin false False _ hs.sub (by simp) ⟨λh=>h.elim,λh=>by have h5:=okOp_tk h;omega⟩
  refine BY 3 ha hs (λhg5 a ha=>?_) λhg5 a ha=>?_
  ·
   refine BY 6 ha hs (λhg11 a ha=>?_) λhg11 a ha=>?_
   ·
    refine RT 20 ha hs ?_
    exact hfin false False _ hs.sub (by simp) ⟨λh=>h.elim,λh=>by have h5:=okOp_tk h;omega⟩
   refine BY 3 ha hs (λhg14 a ha=>?_) λhg14 a ha=>?_
   ·
    refine BY 6 ha hs (λhg20 a ha=>?_) λhg20 a ha=>?_
    ·
     refine RT 11 ha hs ?_
     exact hfin false False _ hs.sub (by simp) ⟨λh=>h.elim,λh=>by have h5:=okOp_tk h;omega⟩
    refine BY 3 ha hs (λhg23 a ha=>?_) λhg23 a ha=>?_
    ·
     refine IF 5 ha hs (λhc0 a ha=>?_) λhc0 a ha=>?_
     ·
      refine RT 2 ha hs ?_
      exact hfin false False _ hs.sub (by simp) ⟨λh=>h.elim,λh=>by have h5:=okOp_tk h;omega⟩
     refine RN 0 ha hs λa ha=>?_
     exact⟨by omega,ha.keep [2,3,5],hs.sub⟩
    refine RN 6 ha hs λa ha=>?_
    exact⟨by omega,ha.keep [2,3,5],hs.sub⟩
   refine BY 9 ha hs (λhg23 a ha=>?_) λhg23 a ha=>?_
   ·
    refine IF 5 ha hs (λhc0 a ha=>?_) λhc0 a ha=>?_
    ·
     refine RT 2 ha hs ?_
     exact hfin false False _ hs.sub (by simp) ⟨λh=>h.elim,λh=>by have h5:=okOp_tk h;omega⟩
    refine RN 0 ha hs λa ha=>?_
    exact⟨by omega,ha.keep [2,3,5],hs.sub⟩
   refine RN 6 ha hs λa ha=>?_
   exact⟨by omega,ha.keep [2,3,5],hs.sub⟩
  refine BY 9 ha hs (λhg14 a ha=>?_) λhg14 a ha=>?_
  ·
   refine BY 6 ha hs (λhg20 a ha=>?_) λhg20 a ha=>?_
   ·
    refine RT 11 ha hs ?_
    exact hfin false False _ hs.sub (by simp) ⟨λh=>h.elim,λh=>by have h5:=okOp_tk h;omega⟩
   refine BY 3 ha hs (λhg23 a ha=>?_) λhg23 a ha=>?_
   ·
    refine IF 5 ha hs (λhc0 a ha=>?_) λhc0 a ha=>?_
    ·
     refine RT 2 ha hs ?_
     exact hfin false False _ hs.sub (by simp) ⟨λh=>h.elim,λh=>by have h5:=okOp_tk h;omega⟩
    refine RN 0 ha hs λa ha=>?_
    exact⟨by omega,ha.keep [2,3,5],hs.sub⟩
   refine RN 6 ha hs λa ha=>?_
   exact⟨by omega,ha.keep [2,3,5],hs.sub⟩
  refine BY 9 ha hs (λhg23 a ha=>?_) λhg23 a ha=>?_
  ·
   refine IF 5 ha hs (λhc0 a ha=>?_) λhc0 a ha=>?_
   ·
    refine RT 2 ha hs ?_
    exact hfin false False _ hs.sub (by simp) ⟨λh=>h.elim,λh=>by have h5:=okOp_tk h;omega⟩
   refine RN 0 ha hs λa ha=>?_
   exact⟨by omega,ha.keep [2,3,5],hs.sub⟩
  refine RN 6 ha hs λa ha=>?_
  exact⟨by omega,ha.keep [2,3,5],hs.sub⟩
 clear ha;(try clear hs)
 rintro a w ⟨htk,ha,hs⟩
 refine IF 7 ha hs (λhc1 a ha=>?_) λhc1 a ha=>?_
 ·
  refine RT 2 ha hs ?_
  exact hfin true True _ hs.sub (by simp) ⟨λ_=>(okOp_0 hc1).2 (by omega),λ_=>trivial⟩
 refine IF 3 ha hs (λhc2 a ha=>?_) λhc2 a ha=>?_
 ·
  refine RN 3 ha hs λa ha=>?_
  refine st_buildSlice ha rfl hs Tryz.underlying52 Ty.t3 rfl rfl rfl rfl (by decide) (by decide) λb48 a w ha hs ho=>?_
  clear ho
  refine CL1 0 ha hs (cell_spec (zs:=[o.a]) hs (by simp)) λr a w ha ⟨hr,hs⟩=>?_
  refine RT 1 ha hs ?_
  exact hfin r _ _ hs.sub hr (by rw[okOp_1 hc2];simp only[CellsIn,List.forall_mem_cons,List.not_mem_nil,false_imp_iff,implies_true,and_true];exact⟨λh=>⟨h,by omega⟩,λh=>h.1⟩)
 refine IF 3 ha hs (λhc3 a ha=>?_) λhc3 a ha=>?_
 ·
  refine CL 4 ha hs (to_spec (hs.bring b3)) λa w ha hs=>?_
  refine RT 1 ha hs ?_
  exact hfin _ _ _ hs.sub decide_eq_true_iff (by rw[okOp_9 hc3];omega)
 refine IF 3 ha hs (λhc4 a ha=>?_) λhc4 a ha=>?_
 ·
  refine RN 3 ha hs λa ha=>?_
  refine st_buildSlice ha rfl hs Tryz.underlying52 Ty.t3 rfl rfl rfl rfl (by decide) (by decide) λb60 a w ha hs ho=>?_
  clear ho
  refine CL1 0 ha hs (cell_spec (zs:=[o.a]) hs (by simp)) λr a w ha ⟨hr,hs⟩=>?_
  simp only[CellsIn,List.forall_mem_cons,List.not_mem_nil,false_imp_iff,implies_true,and_true]at hr
  refine BY 1 ha hs (λhg4 a ha=>?_) λhg4 a ha=>?_
  ·
   refine CL 3 ha hs (to_spec (hs.bring b3)) λa w ha hs=>?_
   refine RT 2 ha hs ?_
   exact hfin _ _ _ hs.sub decide_eq_true_iff (by rw[okOp_10 hc4];exact⟨λh=>⟨hr.1 hg4,h.1,h.2,by omega⟩,λh=>⟨h.2.1,h.2.2.1⟩⟩)
  refine RT 6 ha hs ?_
  exact hfin _ False _ hs.sub (by simp) (by rw[okOp_10 hc4];exact⟨λh=>h.elim,λh=>by rw[hr.2 h.1]at hg4;cases hg4⟩)
 refine RN 7 ha hs λa ha=>?_
 refine st_buildSlice ha rfl hs Tryz.underlying52 Ty.t3 rfl rfl rfl rfl (by decide) (by decide) λb74 a w ha hs ho=>?_
 clear ho
 refine CL1 0 ha hs (cell_spec (zs:=[o.a,o.b,o.c]) hs (by simp)) λr a w ha ⟨hr,hs⟩=>?_
 refine RT 1 ha hs ?_
 refine hfin r _ _ hs.sub hr ?_
 simp only[CellsIn,List.forall_mem_cons,List.not_mem_nil,false_imp_iff,implies_true,and_true]
 have h00:cellP 0:=⟨by decide,by decide⟩
 rcases hk with hk | ⟨hk,hk2⟩ | ⟨hk,hk2⟩ | hk | hk
 · omega
 · have hcd:o.code=15:=by omega
   have hb0:o.b=0:=by omega
   have hc00:o.c=0:=by omega
   rw[okOp_15 hcd,hb0,hc00]
   exact⟨λh=>⟨h.1,rfl,rfl⟩,λh=>⟨h.1,h00,h00⟩⟩
 · have hc00:o.c=0:=by omega
   rw[okOp_2 (by omega),hc00]
   exact⟨λh=>⟨h.1,h.2.1,rfl⟩,λh=>⟨h.1,h.2.1,h00⟩⟩
 · rw[okOp_3 ⟨hk.1,hk.2.1⟩]
 · omega
abbrev prV (p:Pr)(ad:Option Addr)(c:Nat):List Value:=[.string p.title,.slice ad p.ops.length c]
abbrev RoP (W:World)(p:Pr)(ad:Option Addr)(c:Nat):SP:=Ro W 119 4 ad p.ops.length c (rows opR p.ops)
def fldI (o:OpR)(k:Nat):Int:=[o.code,o.a,o.b,o.c].getD k 0
theorem opR_at (o:OpR){k:Nat}(h:k<4):(opR o)[k]?=some (.int .i64 (fldI o k)):=by
 rcases (by omega:k=0∨k=1∨k=2∨k=3) with rfl | rfl | rfl | rfl <;> rfl
set_option maxHeartbeats 4000000 in
theorem encode_spec {p:Pr}(hs:St W w (RoP W p ad c::L))(hsz:p.title.size≤1000000000)(hol:p.ops.length≤1000000000) :
   Calls Tryz.prog 222 #[.agg (prV p ad c).toArray] w λe w'=>∃ ad' n' c',e=.returned (.slice ad' n' c')∧(ad'.isNone=true↔¬ formOk p)∧St W w' (RoP W p ad c::L):=by
 refine EN Tryz.func222 Tryz.ntmps222 rfl rfl λa ha=>?_
 refine BX 1 ha hs λb1 a w ha hs=>?_
 change St W w (blk b1 34 (prV p ad c)::_) at hs
 refine RN 1 ha hs λa ha=>?_
 refine wp_seq_cut (M:=λa w=>(tOk p.title=true∧1≤p.ops.length∧p.ops.length≤64)∧Fr a 62 [(1,pt b1)]∧St W w (blk b1 34 (prV p ad c)::RoP W p ad c::L)) ?_ ?_
 ·
  refine CL 3 ha hs (title_spec hs (by omega)) λa w ha hs=>?_
  refine BY 2 ha hs (λht a ha=>?_) λht a ha=>?_
  ·
   refine RT 14 ha hs ?_
   exact⟨none,0,0,rfl,⟨λ_ h=>(by
     obtain⟨h1,h2,h3,_⟩:=h
     first
       | (rw[h1]at ht;cases ht;done)
       | omega),λ_=>rfl⟩,hs.sub⟩
  refine BY 6 ha hs (λhg10 a ha=>?_) λhg10 a ha=>?_
  ·
   refine RT 8 ha hs ?_
   exact⟨none,0,0,rfl,⟨λ_ h=>(by
     obtain⟨h1,h2,h3,_⟩:=h
     first
       | (rw[h1]at ht;cases ht;done)
       | omega),λ_=>rfl⟩,hs.sub⟩
  refine IF 5 ha hs (λhc0 a ha=>?_) λhc0 a ha=>?_
  ·
   refine RT 2 ha hs ?_
   exact⟨none,0,0,rfl,⟨λ_ h=>(by
     obtain⟨h1,h2,h3,_⟩:=h
     first
       | (rw[h1]at ht;cases ht;done)
       | omega),λ_=>rfl⟩,hs.sub⟩
  refine RN 0 ha hs λa ha=>?_
  exact⟨⟨ht,by omega,by omega⟩,ha.keep [1],hs.sub⟩
 clear ha;(try clear hs)
 rintro a w ⟨hfo,ha,hs⟩
 refine wp_seq_cut (M:=λa w=>∃ (bs:List UInt8) (adb:Option Addr) (cb:Nat),(1≤bs.length∧bs.length≤p.title.size+30)∧Fr a 62 [(1,pt b1),(3,.slice adb bs.length cb)]∧St W w (Sl 5 1 adb bs.length cb (bc bs)::blk b1 34 (prV p ad c)::RoP W p ad c::L)) ?_ ?_
 ·
  refine DWC 0 (λw0 w'=>w'.cell? ⟨b1,1,none⟩=some (.slice ad p.ops.length c)∧w'.cell? ⟨b1,0,none⟩=some (.string p.title)) [2,4,5] [0,3,3001,3004,3005,1002,1006,7] ha hs λa w ha hs hH=>?_
  have hc1:w.cell? ⟨b1,1,none⟩=some (.slice ad p.ops.length c):=hs.rd1 rfl
  have hc0':w.cell? ⟨b1,0,none⟩=some (.string p.title):=hs.rd1 rfl
  have hC:=And.intro hc1 hc0'
  refine RH 2 ha hs hH hC λa ha=>?_
  refine QH ha (λw hc=>ld1 ha (hc.2)) hC λa ha=>?_
  refine QH ha (λw hc=>ld1 ha (hc.1)) hC λa ha=>?_
  refine RH 1 ha hs hH hC λa ha=>?_
  refine CL2 0 ha hs (bytes_spec hs (by omega)) λadp cp a w ha hs=>?_
  replace hC:=hH.at w (And.intro (hs.rd1 rfl) (hs.rd1 rfl))
  have hp2:=putL_len 9 (zz p.title.size) (by rw[zz];split <;> (simp;omega))
  have hss:p.title.data.toList.length=p.title.size:=rfl
  refine RH 0 ha hs hH hC λa ha=>?_
  refine CL2 0 ha hs (put_bytes (N:=p.ops.length) (hs.pick (Sl 5 1 adp (putL (zz p.title.size)++p.title.data.toList).length cp (bc (putL (zz p.title.size)++p.title.data.toList)))) (by omega) (by omega) (by rw[List.length_append];omega)) λadq cq a w ha hs=>?_
  refine RN 1 ha hs λa ha=>?_
  have hp3:=putL_len 9 (zz p.ops.length) (by rw[zz];split <;> (simp;omega))
  have hp4:=putL_pos (zz p.ops.length)
  exact⟨_,adq,cq,⟨by rw[List.length_append];omega,by rw[List.length_append,List.length_append];omega⟩,ha.keep [1,3],hs.sub⟩
 clear ha;(try clear hs)
 rintro a w ⟨bs,adb,cb,⟨hb1,hb2⟩,ha,hs⟩
 refine RN 6 ha hs λa ha=>?_
 refine wp_loop_ghost (λμ a w=>∃ (i:Nat) (bs:List UInt8) (adb:Option Addr) (cb:Nat),(μ=p.ops.length-i∧i≤p.ops.length∧1≤bs.length∧bs.length≤p.title.size+30+40*i∧∀ j o,j<i→p.ops[j]?=some o→i32O o)∧Fr a 62 [(3,.slice adb bs.length cb),(32,.slice ad p.ops.length c),(33,.int .i64 p.ops.length),(34,.int .i64 i)]∧St W w (Sl 5 1 adb bs.length cb (bc bs)::RoP W p ad c::L)) (p.ops.length) (⟨0,bs,adb,cb,⟨by simp,by simp,hb1,by omega,λj o h=>absurd h (by omega)⟩,ha.keep [3,32,33,34],hs.sub⟩) ?_
 clear ha hs
 rintro μ a w ⟨i,bs,adb,cb,⟨rfl,hi,hb1,hb2,hin⟩,ha,hs⟩
 refine IF 3 ha hs (λhc1 a ha=>?_) λhc1 a ha=>?_
 ·
  obtain⟨o,ho⟩:∃ o,p.ops[i]?=some o:=⟨_,List.getElem?_eq_getElem (by omega)⟩
  obtain⟨bo,oo,hade,hro⟩:=hs.roRd ad (by omega)
  rw[hade]at ha
  refine RN 3 ha hs λa ha=>?_
  refine SS ha (ex_loadN ha Tryz.underlying119 rfl Ty.t119 (op_rd hro ho)) λa ha=>?_
  refine AL 0 ha hs λb5 a w ha hs=>?_
  refine SA 0 ha hs λa w ha hs=>?_
  refine RN 9 ha hs λa ha=>?_
  refine SS ha (ex_buildA ha Tryz.underlying189 Ty.t189 Ty.t3 rfl rfl) λa ha=>?_
  change Fr a 62 ((46,.agg (opR o).toArray)::_) at ha
  refine RN 1 ha hs λa ha=>?_
  rw[← hade]at ha
  refine wp_loop_ghost (λμ a w=>∃ (k:Nat) (bs:List UInt8) (adb:Option Addr) (cb:Nat),(μ=4-k∧k≤4∧1≤bs.length∧bs.length≤p.title.size+30+40*i+10*k∧∀ j,j<k→i32P (fldI o j))∧Fr a 62 [(3,.slice adb bs.length cb),(32,.slice ad p.ops.length c),(33,.int .i64 p.ops.length),(34,.int .i64 i),(46,.agg (opR o).toArray),(47,.int .i64 k)]∧St W w (Sl 5 1 adb bs.length cb (bc bs)::RoP W p ad c::L)) (4) (⟨0,bs,adb,cb,⟨by simp,by simp,hb1,by omega,λj h=>absurd h (by omega)⟩,ha.keep [3,32,33,34,46,47],hs.sub⟩) ?_
  clear ha hs
  rintro μ a w ⟨k,bs,adb,cb,⟨rfl,hk,hb1,hb2,hik⟩,ha,hs⟩
  refine IF 3 ha hs (λhc2 a ha=>?_) λhc2 a ha=>?_
  ·
   refine RN 2 ha hs λa ha=>?_
   refine SS ha (ex_index1 ha Tryz.underlying189 Tryz.underlying3 rfl Ty.t3 (by omega) (opR_at o (by omega))) λa ha=>?_
   refine BY 6 ha hs (λhg2 a ha=>?_) λhg2 a ha=>?_
   ·
    refine RT 6 ha hs ?_
    refine⟨none,0,0,rfl,⟨λ_ h=>?_,λ_=>rfl⟩,hs.sub⟩
    obtain⟨_,_,_,h4⟩:=h
    have h5:=h4 o (List.mem_of_getElem? ho)
    have h6:i32P (fldI o k):=by
      rcases (by omega:k=0∨k=1∨k=2∨k=3) with rfl | rfl | rfl | rfl
      · exact h5.1
      · exact h5.2.1
      · exact h5.2.2.1
      · exact h5.2.2.2
    simp only[i32P]at h6
    omega
   refine IF 3 ha hs (λhc3 a ha=>?_) λhc3 a ha=>?_
   ·
    refine RT 2 ha hs ?_
    refine⟨none,0,0,rfl,⟨λ_ h=>?_,λ_=>rfl⟩,hs.sub⟩
    obtain⟨_,_,_,h4⟩:=h
    have h5:=h4 o (List.mem_of_getElem? ho)
    have h6:i32P (fldI o k):=by
      rcases (by omega:k=0∨k=1∨k=2∨k=3) with rfl | rfl | rfl | rfl
      · exact h5.1
      · exact h5.2.1
      · exact h5.2.2.1
      · exact h5.2.2.2
    simp only[i32P]at h6
    omega
   refine CL2 2 ha hs (put_bytes (N:=fldI o k) (hs.pick (Sl 5 1 adb bs.length cb (bc bs))) (by omega) (by omega) (by omega)) λadq cq a w ha hs=>?_
   refine RN 3 ha hs λa ha=>?_
   have hp3:=putL_len 9 (zz (fldI o k)) (by rw[zz];split <;> (simp;omega))
   refine⟨4-(k+1),by omega,k+1,bs++putL (zz (fldI o k)),adq,cq,⟨rfl,by omega,by rw[List.length_append];omega,by rw[List.length_append];omega,λj hj=>?_⟩,ha.keep [3,32,33,34,46,47],hs.sub⟩
   rcases Nat.lt_or_ge j k with h | h
   · exact hik j h
   · obtain rfl:j=k:=by omega
     simp only[i32P];omega
  refine RN 0 ha hs λa ha=>?_
  obtain rfl:k=4:=by omega
  refine RN 2 ha hs λa ha=>?_
  refine⟨p.ops.length-(i+1),by omega,i+1,bs,adb,cb,⟨rfl,by omega,hb1,by omega,λj o' hj ho'=>?_⟩,ha.keep [3,32,33,34],hs.sub⟩
  rcases Nat.lt_or_ge j i with h | h
  · exact hin j o' h ho'
  · obtain rfl:j=i:=by omega
    rw[ho]at ho';cases ho'
    exact⟨hik 0 (by omega),hik 1 (by omega),hik 2 (by omega),hik 3 (by omega)⟩
 refine RT 3 ha hs ?_
 obtain⟨bx,ox,hax,_⟩:=hs.slRd adb (by omega)
 refine⟨adb,bs.length,cb,rfl,⟨λh=>(by rw[hax]at h;cases h),λh=>?_⟩,hs.sub⟩
 exact absurd ⟨hfo.1,hfo.2.1,hfo.2.2,λo' ho'=>(by
   obtain⟨j,hj⟩:=List.mem_iff_getElem?.1 ho'
   exact hin j o' (by have:=(List.getElem?_eq_some_iff.1 hj).1;omega) hj)⟩ h
theorem fault_spec {p:Pr}(hs:St W w (RoP W p ad c::L))(hsz:p.title.size≤1000000000)(hol:p.ops.length≤1000000000) :
   Calls Tryz.prog 171 #[.agg (prV p ad c).toArray] w λe w'=>∃ r:Int,e=.returned (.int .i64 r)∧(r = -1↔prOk p)∧St W w' (RoP W p ad c::L):=by
 refine EN Tryz.func171 Tryz.ntmps171 rfl rfl λa ha=>?_
 refine BX 1 ha hs λb1 a w ha hs=>?_
 change St W w (blk b1 34 (prV p ad c)::_) at hs
 refine CL3 4 ha hs (encode_spec (hs.pick (RoP W p ad c)) hsz hol) λade ne ce a w ha ⟨hne,hs⟩=>?_
 refine IF 1 ha hs (λhc0 a ha=>?_) λhc0 a ha=>?_
 ·
  refine RT 2 ha hs ?_
  exact⟨-2,rfl,⟨λh=>absurd h (by decide),λh=>absurd h.1 (hne.1 hc0)⟩,hs.sub⟩
 have hfo:formOk p:=Classical.byContradiction λh=>by rw[hne.2 h]at hc0;cases hc0
 refine RN 6 ha hs λa ha=>?_
 refine wp_loop_ghost (λμ a w=>∃ i:Nat,(μ=p.ops.length-i∧i≤p.ops.length∧∀ j o,j<i→p.ops[j]?=some o→okOp p.ops.length o)∧Fr a 24 [(1,pt b1),(9,.slice ad p.ops.length c),(10,.int .i64 p.ops.length),(11,.int .i64 i)]∧St W w (blk b1 34 (prV p ad c)::RoP W p ad c::L)) (p.ops.length) (⟨0,⟨by simp,by simp,λj o h=>absurd h (by omega)⟩,ha.keep [1,9,10,11],hs.sub⟩) ?_
 clear ha hs
 rintro μ a w ⟨i,⟨rfl,hi,hin⟩,ha,hs⟩
 refine IF 3 ha hs (λhc1 a ha=>?_) λhc1 a ha=>?_
 ·
  obtain⟨o,ho⟩:∃ o,p.ops[i]?=some o:=⟨_,List.getElem?_eq_getElem (by omega)⟩
  obtain⟨bo,oo,hade,hro⟩:=hs.roRd ad (by omega)
  rw[hade]at ha
  refine RN 4 ha hs λa ha=>?_
  refine SS ha (ex_loadN ha Tryz.underlying119 rfl Ty.t119 (op_rd hro ho)) λa ha=>?_
  refine AL 0 ha hs λb4 a w ha hs=>?_
  refine SA 1 ha hs λa w ha hs=>?_
  refine CL1 5 ha hs (may_spec (o:=o) (m:=p.ops.length) hs) λr a w ha ⟨hr,hs⟩=>?_
  refine IF 1 ha hs (λhc2 a ha=>?_) λhc2 a ha=>?_
  ·
   refine RT 3 ha hs ?_
   refine⟨i,rfl,⟨λh=>absurd h (by omega),λh=>?_⟩,hs.sub⟩
   rw[hr.2 (h.2 o (List.mem_of_getElem? ho))]at hc2;cases hc2
  have hrt:r=true:=by simpa using hc2
  refine RN 2 ha hs λa ha=>?_
  rw[← hade]at ha
  refine⟨p.ops.length-(i+1),by omega,i+1,⟨rfl,by omega,λj o' hj ho'=>?_⟩,ha.keep [1,9,10,11],hs.sub⟩
  rcases Nat.lt_or_ge j i with h | h
  · exact hin j o' h ho'
  · obtain rfl:j=i:=by omega
    rw[ho]at ho';cases ho'
    exact hr.1 hrt
 refine RT 2 ha hs ?_
 refine⟨-1,rfl,⟨λ_=>⟨hfo,λo ho=>?_⟩,λ_=>rfl⟩,hs.sub⟩
 obtain⟨j,hj⟩:=List.mem_iff_getElem?.1 ho
 exact hin j o (by have:=(List.getElem?_eq_some_iff.1 hj).1;omega) hj
theorem checkMay_spec {p:Pr}(hs:St W w (RoP W p ad c::L))(hsz:p.title.size≤1000000000)(hol:p.ops.length≤1000000000) :
   Calls Tryz.prog 111 #[.agg (prV p ad c).toArray] w λe w'=>∃ r:Bool,e=.returned (.bool r)∧(r=true↔prOk p)∧St W w' (RoP W p ad c::L):=by
 refine EN Tryz.func111 Tryz.ntmps111 rfl rfl λa ha=>?_
 refine BX 1 ha hs λb1 a w ha hs=>?_
 change St W w (blk b1 34 (prV p ad c)::_) at hs
 refine CL1 3 ha hs (fault_spec (hs.pick (RoP W p ad c)) hsz hol) λr a w ha ⟨hr,hs⟩=>?_
 refine RT 2 ha hs ?_
 exact⟨_,rfl,by rw[decide_eq_true_iff];exact hr,hs.sub⟩
end
end
end Go.Proofs.YtdilfdkendjjhaaGreat
