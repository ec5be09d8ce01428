/- Numbers out of bytes: num.Get, quintainref1.Get; quintainref1.Put. -/
import Derived.Test.YtdilfdkendjjhaaGreatQ08RefS
import Derived.Test.YtdilfdkendjjhaaGreatQ01Fast
namespace Go.Proofs.YtdilfdkendjjhaaGreat
open Go.RowKit
set_option linter.unusedVariables false
set_option linter.unusedSimpArgs false
set_option maxRecDepth 10000
set_option synthInstance.maxSize 4000
set_option synthInstance.maxHeartbeats 400000
section
theorem and_u8 {x:Nat}(h:x<256):IntKind.u8.wrap ((BitVec.ofInt IntKind.u8.bits (x:Int) &&& BitVec.ofInt IntKind.u8.bits 127).toNat)=((x%128:Nat):Int):=by
 have:∀ y:Fin 256,IntKind.u8.wrap ((BitVec.ofInt IntKind.u8.bits ((y.val:Nat):Int) &&& BitVec.ofInt IntKind.u8.bits 127).toNat)=((y.val%128:Nat):Int):=by decide +kernel
 exact this ⟨x,h⟩
theorem pow7 (i:Nat):(2:Nat) ^ (7*i)=128 ^ i:=by rw[Nat.pow_mul]
theorem or_add {u d i:Nat}(hu:u<128 ^ i):u ||| d*128 ^ i=u+d*128 ^ i:=by
 rw[← pow7]at hu ⊢
 rw[Nat.mul_comm,Nat.add_comm,Nat.two_pow_add_eq_or_of_lt hu,Nat.or_comm]
theorem p128 {i:Nat}(hi:i≤9):128 ^ i≤9223372036854775808∧(i≤8→128 ^ i≤72057594037927936):=by
 have h9:(128:Nat) ^ 9=9223372036854775808:=by decide
 have h8:(128:Nat) ^ 8=72057594037927936:=by decide
 refine⟨h9 ▸ Nat.pow_le_pow_right (by decide) hi,λh=>h8 ▸ Nat.pow_le_pow_right (by decide) h⟩
theorem dig_lt {i d:Nat}(hi:i≤9)(h:i=9→d≤1)(hd:d≤127):d*128 ^ i≤9223372036854775808∧(i≤8→d*128 ^ i+128 ^ i≤128 ^ (i+1)):=by
 obtain⟨h1,h2⟩:=p128 hi
 have hm:d*128 ^ i≤127*128 ^ i:=Nat.mul_le_mul_right _ hd
 refine⟨?_,λh8=>by rw[pow_mul128];omega⟩
 rcases Nat.lt_or_ge i 9 with h9 | h9
 · have:=h2 (by omega);omega
 · have:i=9:=by omega
   have hd1:=h this
   have:d*128 ^ i≤1*128 ^ i:=Nat.mul_le_mul_right _ hd1
   omega
theorem getL_step {bs:List UInt8}{i:Nat}(h:i<bs.length)(u:Nat):getL (bs.drop i) i u=if i=9∧1<bs[i].toNat then none
   else if 127<bs[i].toNat then getL (bs.drop (i+1)) (i+1) (u+bs[i].toNat%128*128 ^ i)
   else if 0<i∧bs[i].toNat=0 then none
   else some (u+bs[i].toNat*128 ^ i,i+1):=by
 rw[List.drop_eq_getElem_cons h,getL]
theorem and_one64 {x:Nat}(h:x<18446744073709551616):IntKind.u64.wrap (((BitVec.ofInt IntKind.u64.bits (x:Int) &&& BitVec.ofInt IntKind.u64.bits 1).toNat:Nat):Int)=((x%2:Nat):Int):=by
 have h1:=and_u64 (y:=1) h (by decide)
 rw[Nat.and_one_is_mod]at h1;exact h1
theorem com_i64 {x:Int}(h1:-9223372036854775808≤x)(h2:x≤9223372036854775807):IntKind.i64.wrap (((BitVec.ofInt IntKind.i64.bits (if IntKind.i64.signed then -1 else IntKind.i64.max) ^^^ BitVec.ofInt IntKind.i64.bits x).toNat:Nat):Int) = -x-1:=by
 have e:BitVec.ofInt IntKind.i64.bits (if IntKind.i64.signed then -1 else IntKind.i64.max)=BitVec.allOnes 64:=by
   show BitVec.ofInt 64 (-1)=_
   decide
 rw[e]
 show IntKind.i64.wrap (((BitVec.allOnes 64 ^^^ BitVec.ofInt 64 x).toNat:Nat):Int)=_
 rw[BitVec.allOnes_xor,BitVec.toNat_not,BitVec.toNat_ofInt]
 simp only[IntKind.wrap,IntKind.signed,IntKind.bits]
 simp
 omega
section
variable {W w:World}{L:List SP}{c:Nat}{ad:Option Addr}{bs:List UInt8}
theorem num_get (hs:St W w L)(hb:bs.length≤1099511627776)(hp:∀ w',St W w' L→RdB w' ad bs.length bs) :
   Calls Tryz.prog 275 #[.slice ad bs.length c] w λe w'=>∃ (x:Int) (k:Nat) (er:Int),e=.returned (.tuple #[.int .i64 x,.int .i64 k,.int .i64 er])∧GetR bs x k er∧St W w' L:=by
 refine EN Tryz.func275 Tryz.ntmps275 rfl rfl λa ha=>?_
 refine RN 11 ha hs λa ha=>?_
 refine wp_loop_ghost (λμ a w=>∃ (i u:Nat),(μ=bs.length-i∧i≤bs.length∧i≤9∧u<128 ^ i∧getL (bs.drop i) i u=getF bs)∧Fr a 50 [(5,.int .u64 u),(9,.slice ad bs.length c),(10,.int .i64 bs.length),(11,.int .i64 i)]∧St W w L) (bs.length) (⟨0,0,⟨rfl,by omega,by omega,by decide,rfl⟩,ha.keep [5,9,10,11],hs⟩) ?_
 clear ha hs
 rintro μ a w ⟨i,u,⟨rfl,hi,hi9,hu,hg⟩,ha,hs⟩
 refine IF 3 ha hs (λhc0 a ha=>?_) λhc0 a ha=>?_
 ·
  obtain⟨bb,oo,rfl,hr⟩:=(hp _ hs).get (by omega)
  have hil:i<bs.length:=by omega
  have hb8:=u8_lt bs[i]
  rw[getL_step hil]at hg
  obtain⟨hp1,hp2⟩:=p128 hi9
  refine RN 4 ha hs λa ha=>?_
  refine SS ha (ld1 ha (hr i _ (bc_at hil))) λa ha=>?_
  refine RN 3 ha hs λa ha=>?_
  refine wp_seq_cut (M:=λa w=>∃ z:Bool,(z=true↔(i=9∧1<bs[i].toNat))∧Fr a 50 [(5,.int .u64 u),(6,.int .i64 i),(7,.int .u8 (bs[i].toNat:Int)),(9,.slice (some ⟨bb,oo,none⟩) bs.length c),(10,.int .i64 bs.length),(11,.int .i64 i),(21,.bool z)]∧St W w L) ?_ ?_
  ·
   refine BY 3 ha hs (λhg2 a ha=>?_) λhg2 a ha=>?_
   ·
    refine RN 3 ha hs λa ha=>?_
    exact⟨_,by rw[decide_eq_true_iff];omega,ha.keep [5,6,7,9,10,11,21],hs⟩
   refine RN 3 ha hs λa ha=>?_
   exact⟨_,by simp;omega,ha.keep [5,6,7,9,10,11,21],hs⟩
  clear ha;(try clear hs)
  rintro a w ⟨z,hz,ha,hs⟩
  refine IF 0 ha hs (λhc1 a ha=>?_) λhc1 a ha=>?_
  ·
   rw[if_pos (hz.1 hc1)]at hg
   refine RT 4 ha hs ?_
   exact⟨_,_,_,rfl,GetR.bad hg.symm (by omega),hs⟩
  have hz0:¬ (i=9∧1<bs[i].toNat):=λh=>absurd (hz.2 h) (by simp[hc1])
  rw[if_neg hz0]at hg
  obtain⟨hd1,hd2⟩:=dig_lt (d:=bs[i].toNat%128) hi9 (by omega) (by omega)
  refine RN 4 ha hs λa ha=>?_
  rw[and_u8 hb8]at ha
  refine SX 0 ha hs (by rw[wrap_u64];omega) λa ha=>?_
  refine RN 2 ha hs λa ha=>?_
  rw[show (7:Int)*(i:Int)=((7*i:Nat):Int) from by omega]at ha
  refine SS ha (ex_shl ha (jn:=7*i) (by show 7*i≤64;omega)) λa ha=>?_
  rw[show ((bs[i].toNat%128:Nat):Int)*2 ^ (7*i)=((bs[i].toNat%128*128 ^ i:Nat):Int) from by rw[Int.natCast_mul,← pow7];simp,show IntKind.u64.wrap ((bs[i].toNat%128*128 ^ i:Nat):Int)=((bs[i].toNat%128*128 ^ i:Nat):Int) from by rw[wrap_u64];omega]at ha
  refine RN 1 ha hs λa ha=>?_
  rw[or_u64 (by omega) (by omega),or_add hu]at ha
  refine IF 5 ha hs (λhc2 a ha=>?_) λhc2 a ha=>?_
  ·
   rw[if_pos (by omega)]at hg
   refine RN 2 ha hs λa ha=>?_
   exact⟨bs.length-(i+1),by omega,i+1,_,⟨rfl,by omega,by omega,by have:=hd2 (by omega);omega,hg⟩,ha.keep [5,9,10,11],hs⟩
  rw[if_neg (by omega)]at hg
  rw[Nat.mod_eq_of_lt (show bs[i].toNat<128 from by omega)]at ha hd1 hd2
  refine RN 1 ha hs λa ha=>?_
  refine wp_seq_cut (M:=λa w=>∃ z:Bool,(z=true↔(0<i∧bs[i].toNat=0))∧Fr a 50 [(5,.int .u64 ((u+bs[i].toNat*128 ^ i:Nat):Int)),(6,.int .i64 i),(37,.bool z)]∧St W w L) ?_ ?_
  ·
   refine BY 3 ha hs (λhg2 a ha=>?_) λhg2 a ha=>?_
   ·
    refine RN 3 ha hs λa ha=>?_
    exact⟨_,by rw[decide_eq_true_iff];omega,ha.keep [5,6,37],hs⟩
   refine RN 3 ha hs λa ha=>?_
   exact⟨_,by simp;omega,ha.keep [5,6,37],hs⟩
  clear ha;(try clear hs)
  rintro a w ⟨z,hz,ha,hs⟩
  refine IF 0 ha hs (λhc3 a ha=>?_) λhc3 a ha=>?_
  ·
   rw[if_pos (hz.1 hc3)]at hg
   refine RT 4 ha hs ?_
   exact⟨_,_,_,rfl,GetR.bad hg.symm (by omega),hs⟩
  rw[if_neg (λh=>absurd (hz.2 h) (by simp[hc3]))]at hg
  generalize u+bs[i].toNat*128 ^ i=v at ha hg
  have hv:=(getF_bd hg.symm).1
  refine RN 3 ha hs λa ha=>?_
  rw[show ((v:Nat):Int).fdiv (2 ^ 1)=((v/2:Nat):Int) from fdivN _ 2]at ha
  refine SS ha (ex_convII ha Tryz.underlying224 Tryz.underlying2) λa ha=>?_
  rw[show IntKind.i64.wrap ((v/2:Nat):Int)=((v/2:Nat):Int) from wrap_in (by omega) (by omega)]at ha
  refine RN 1 ha hs λa ha=>?_
  refine wp_seq_cut (M:=λa w=>Fr a 50 [(6,.int .i64 i),(8,.int .i64 (unzz v))]∧St W w L) ?_ ?_
  ·
   refine RN 3 ha hs λa ha=>?_
   rw[and_one64 hv]at ha
   refine IF 1 ha hs (λhc4 a ha=>?_) λhc4 a ha=>?_
   ·
    refine RN 2 ha hs λa ha=>?_
    rw[com_i64 (by omega) (by omega)]at ha
    refine RN 1 ha hs λa ha=>?_
    rw[show -((v/2:Nat):Int)-1=unzz v from by rw[unzz,if_pos (by omega)]]at ha
    exact⟨ha.keep [6,8],hs⟩
   refine RN 0 ha hs λa ha=>?_
   rw[show ((v/2:Nat):Int)=unzz v from by rw[unzz,if_neg (by omega)]]at ha
   exact⟨ha.keep [6,8],hs⟩
  clear ha;(try clear hs)
  rintro a w ⟨ha,hs⟩
  refine RT 7 ha hs ?_
  exact⟨_,_,_,rfl,GetR.good hg.symm,hs⟩
 rw[List.drop_eq_nil_of_le (by omega),getL]at hg
 refine RT 4 ha hs ?_
 exact⟨_,_,_,rfl,GetR.bad hg.symm (by omega),hs⟩
end
end
section
theorem putz_len {n:Int}(h1:-9223372036854775808≤n)(h2:n≤9223372036854775807):(putL (zz n)).length≤10:=putL_len 9 _ (by
 have:=zz_lt h1 h2
 have h10:(128:Nat) ^ (9+1)=1180591620717411303424:=by decide
 omega)
theorem bc_snoc {l:List UInt8}{x:UInt8}:bc l++[[Value.int .u8 (x.toNat:Int)]].flatten=bc (l++[x]):=by simp[bc]
structure Same (bs:List UInt8)(i e:Nat):Prop where
 lt:i<e
 le:e≤bs.length
 same:∀ (j:Nat) (h:j<bs.length),i≤j→j<e→bs[j]=bs[i]'(by omega)
theorem Same.one {bs:List UInt8}{i:Nat}(h:i<bs.length):Same bs i (i+1):=⟨by omega,by omega,λj hj h1 h2=>by
 have:j=i:=by omega
 subst this;rfl⟩
theorem Same.more {bs:List UInt8}{i e:Nat}(h:Same bs i e)(he:e<bs.length)(hb:bs[e]'he=bs[i]'(by have:=h.lt;omega)):Same bs i (e+1):=⟨by have:=h.lt;omega,by omega,λj hj h1 h2=>by
 by_cases hje:j=e
 · subst hje;exact hb
 · exact h.same j hj h1 (by omega)⟩
theorem Same.runs {bs:List UInt8}{i e:Nat}(h:Same bs i e)(hi:i<bs.length)(hn:∀ he:e<bs.length,bs[e]≠bs[i])(last:UInt8) :
   runsL (bs.drop i) last=putL (zz ((e-i:Nat):Int))++(bs[i] ^^^ last)::runsL (bs.drop e) bs[i]:=by
 have h1:=h.lt
 have h2:=h.le
 have hr:runN bs[i] (bs.drop (i+1))=e-i-1:=by
   refine runN_eq (λj hj=>?_) ?_
   · rw[List.getElem?_drop,List.getElem?_eq_getElem (by omega),h.same (i+1+j) (by omega) (by omega) (by omega)]
   · rw[List.getElem?_drop,show i+1+(e-i-1)=e from by omega]
     rcases Nat.lt_or_ge e bs.length with he | he
     · rw[List.getElem?_eq_getElem he]
       exact λhx=>hn he (Option.some.inj hx)
     · rw[List.getElem?_eq_none he];simp
 rw[List.drop_eq_getElem_cons hi,runsL_cons,hr,List.drop_drop,show i+1+(e-i-1)=e from by omega,show e-i-1+1=e-i from by omega]
theorem bc_atD {bs:List UInt8}{i:Nat}(h:i<bs.length):(bc bs)[i]?=some (.int .u8 ((bs.getD i 0).toNat:Int)):=by rw[bc_at h,List.getD_eq_getElem?_getD,List.getElem?_eq_getElem h];rfl
theorem RunsAt.get {p dn rest:List UInt8}{last:UInt8}{x:Int}{k:Nat}{er:Int}(h:RunsAt p dn last rest)(hp:p.length≤1000000)(h0:rest≠[])(hg:GetR rest x k er) :
   er=0∧1≤x∧k<rest.length∧(dn≠[]→(rest.getD k 0).toNat≠0)∧(dn.length:Int)+x≤p.length∧RunsAt p (dn++List.replicate x.toNat (last ^^^ rest.getD k 0)) (last ^^^ rest.getD k 0) (rest.drop (k+1)):=by
 obtain⟨m,y,r,e1,e2,e3,e4⟩:=h.next h0
 obtain⟨rfl,rfl,rfl⟩:=hg.2.2.2.2 ((m+1:Nat):Int) _ (by omega) (by omega) e1
 have hk:rest.getD (putL (zz ((m+1:Nat):Int))).length 0=y ^^^ last:=by rw[e1,List.getD_eq_getElem?_getD,List.getElem?_append_right (Nat.le_refl _)];simp
 refine⟨rfl,by omega,by rw[e1];simp,by rw[hk];exact e3,by omega,?_⟩
 rw[hk,xor_back,show ((m+1:Nat):Int).toNat=m+1 from by omega]
 have hd:rest.drop ((putL (zz ((m+1:Nat):Int))).length+1)=r:=by
   rw[e1,← List.drop_drop,List.drop_left];rfl
 rw[hd];exact e4
def Unr (bs:List UInt8)(m:Nat)(out:List UInt8)(er:Int):Prop:=(er=0∨er=1∨er=4)∧out.length≤m∧∀ p:List UInt8,p.length≤m→bs=runsL p 0→out=p∧er=0
theorem getD_drop (bs:List UInt8)(i k:Nat):(bs.drop i).getD k 0=bs.getD (i+k) 0:=by simp[List.getD_eq_getElem?_getD,List.getElem?_drop]
theorem Unr.bad {bs dn rest:List UInt8}{last:UInt8}{m k:Nat}{x er er':Int}(hrn:∀ p:List UInt8,p.length≤m→bs=runsL p 0→RunsAt p dn last rest)(hm:m≤1000000)(h0:rest≠[])(hg:GetR rest x k er)
   (hbad:er≠0∨x<1∨rest.length≤k∨(dn≠[]∧(rest.getD k 0).toNat=0)∨(m:Int)<dn.length+x) (he:er'=1∨er'=4):Unr bs m [] er':=by
 refine⟨by omega,by simp,λp hp e=>?_⟩
 exfalso
 obtain⟨g1,g2,g3,g4,g5,_⟩:=(hrn p hp e).get (by omega) h0 hg
 rcases hbad with h | h | h | h | h
 · exact h g1
 · omega
 · omega
 · exact g4 h.1 h.2
 · omega
section
variable {W w:World}{L:List SP}{n c m:Nat}{ad:Option Addr}{bs:List UInt8}
theorem runs_enc (hs:St W w L)(hb:bs.length≤65536)(hp:∀ w',St W w' L→RdB w' ad bs.length bs) :
   Calls Tryz.prog 274 #[.slice ad bs.length c] w λe w'=>∃ ad' c',e=.returned (.slice ad' (runsL bs 0).length c')∧St W w' (Sl 5 1 ad' (runsL bs 0).length c' (bc (runsL bs 0))::L):=by
 have hrl:=runsL_len bs 0
 refine EN Tryz.func274 Tryz.ntmps274 rfl rfl λa ha=>?_
 refine RN 9 ha hs λa ha=>?_
 refine wp_loop_ghost (λμ a w=>∃ (i c':Nat) (ad':Option Addr) (dn:List UInt8) (last:UInt8),(μ=bs.length-i∧i≤bs.length∧dn++runsL (bs.drop i) last=runsL bs 0)∧Fr a 48 [(0,.slice ad bs.length c),(3,.slice ad' dn.length c'),(4,.int .u8 (last.toNat:Int)),(5,.int .i64 i)]∧St W w (Sl 5 1 ad' dn.length c' (bc dn)::L)) (bs.length) (⟨0,0,none,[],0,⟨rfl,by omega,rfl⟩,ha.keep [0,3,4,5],hs.sl0 5 1 none⟩) ?_
 clear ha hs
 rintro μ a w ⟨i,c',ad',dn,last,⟨rfl,hi,hdn⟩,ha,hs⟩
 refine IF 6 ha hs (λhc0 a ha=>?_) λhc0 a ha=>?_
 ·
  obtain⟨bb,oo,rfl,_⟩:=(hp _ hs.tail).get (by omega)
  have hil:i<bs.length:=by omega
  have hdl:dn.length≤11*bs.length:=by
    have:=congrArg List.length hdn
    rw[List.length_append]at this
    omega
  refine RN 4 ha hs λa ha=>?_
  refine wp_loop_ghost (λμ a w=>∃ (k:Nat),(μ=bs.length-k∧i≤k∧k≤bs.length∧(k=i∨Same bs i k))∧Fr a 48 [(0,.slice (some ⟨bb,oo,none⟩) bs.length c),(3,.slice ad' dn.length c'),(4,.int .u8 (last.toNat:Int)),(5,.int .i64 i),(6,.int .i64 k)]∧St W w (Sl 5 1 ad' dn.length c' (bc dn)::L)) (bs.length-i) (⟨i,⟨rfl,by omega,by omega,.inl rfl⟩,ha.keep [0,3,4,5,6],hs⟩) ?_
  clear ha hs
  rintro μ a w ⟨k,⟨rfl,hik,hk,hsm⟩,ha,hs⟩
  refine RN 1 ha hs λa ha=>?_
  refine wp_seq_cut (M:=λa w=>∃ z:Bool,(z=true→Same bs i (k+1))∧(z=false→Same bs i k∧∀ he:k<bs.length,bs[k]≠bs[i])∧Fr a 48 [(0,.slice (some ⟨bb,oo,none⟩) bs.length c),(3,.slice ad' dn.length c'),(4,.int .u8 (last.toNat:Int)),(5,.int .i64 i),(6,.int .i64 k),(26,.bool z)]∧St W w (Sl 5 1 ad' dn.length c' (bc dn)::L)) ?_ ?_
  ·
   refine DWO 0 [12] [0,1,2,3,4,5,6,7,9,10,11,3008,1012,13,14] ha hs λa w ha hs hH hC=>?_
   have hr:=(hp _ hs.tail).rd (by omega)
   refine RH 5 ha hs hH hC λa ha=>?_
   refine ha.by (s:=16) (λhg4 ha=>?_) (λhg4 ha=>?_)
   ·
    refine RH 6 ha hs hH hC λa ha=>?_
    refine QH ha (λw hc=>ld1 ha ((hc.rd hr) k _ (bc_at (i:=k) (bs:=bs) (show k<bs.length by omega)))) hC λa ha=>?_
    refine RH 0 ha hs hH hC λa ha=>?_
    refine st_set ha (wgT ha rfl (s:=16)) (ld1 ha ((hC.rd hr) i _ (bc_at hil))) rfl λa ha=>?_
    refine RH 2 ha hs hH hC λa ha=>?_
    have hkl:k<bs.length:=by omega
    refine⟨_,λh=>?_,λh=>?_,ha.keep [0,3,4,5,6,26],hs⟩
    · have he:bs[k]=bs[i]:=UInt8.toNat_inj.1 (by have:=of_decide_eq_true h;omega)
      rcases hsm with rfl | hsm
      · exact Same.one hil
      · exact hsm.more hkl he
    · have he:bs[k]≠bs[i]:=λe=>of_decide_eq_false h (by rw[e])
      rcases hsm with rfl | hsm
      · exact absurd rfl he
      · exact⟨hsm,λ_=>he⟩
   refine RH 10 ha hs hH hC λa ha=>?_
   refine⟨_,λh=>(by cases h),λh=>?_,ha.keep [0,3,4,5,6,26],hs⟩
   rcases hsm with rfl | hsm
   · omega
   · exact⟨hsm,λ_=>absurd (show k<bs.length by assumption) (by omega)⟩
  clear ha;(try clear hs)
  rintro a w ⟨z,hz1,hz0,ha,hs⟩
  refine IF 0 ha hs (λhc1 a ha=>?_) λhc1 a ha=>?_
  ·
   have hsm':=hz1 hc1
   refine RN 3 ha hs λa ha=>?_
   exact⟨bs.length-(k+1),by have:=hsm'.le;omega,k+1,⟨rfl,by omega,hsm'.le,.inr hsm'⟩,ha.keep [0,3,4,5,6],hs⟩
  obtain⟨hsm',hne⟩:=hz0 hc1
  rw[hsm'.runs hil hne last]at hdn
  have hkl:=hsm'.lt
  have hke:=hsm'.le
  refine DWC 1 (λw0 w=>Rd w bb oo (bc bs)) [4] [0,1,2,3,5,6,7,9,3008,10,2004,1011,1012,13] ha hs λa w ha hs hH=>?_
  have hC:=(hp _ hs.tail).rd (by omega)
  have hpl:=putz_len (n:=((k-i:Nat):Int)) (by omega) (by omega)
  refine RH 4 ha hs hH hC λa ha=>?_
  rw[show ((k:Nat):Int)-((i:Nat):Int)=((k-i:Nat):Int) from by omega]at ha
  refine RH 4 ha hs hH hC λa ha=>?_
  refine QH ha (λw hc=>ld1 ha (hc i _ (bc_at hil))) hC λa ha=>?_
  refine RH 1 ha hs hH hC λa ha=>?_
  refine DN [(4,[1011,1012,13]),(11,[1004,1012,13])] (by kernel_rfl) rfl ⟨⟨_,rfl,?_⟩,⟨_,rfl,?_⟩,trivial⟩
  ·
   refine RH 0 ha hs hH hC λa ha=>?_
   refine CL2 0 ha hs (put_bytes (N:=((k-i:Nat):Int)) (hs.pick (Sl 5 1 ad' dn.length c' (bc dn))) (by omega) (by omega) (by omega)) λadp cp a w ha hs=>?_
   replace hC:=hH.at w ((hp _ hs.sub).rd (by omega))
   refine RH 0 ha hs hH hC λa ha=>?_
   refine st_buildSlice ha rfl hs Tryz.underlying22 Ty.t5 rfl rfl rfl rfl (by decide) (by decide) λb40 a w ha hs ho=>?_
   clear ho
   refine RN 0 ha hs λa ha=>?_
   refine st_append ha rfl hs Tryz.underlying22 Ty.t5 rfl rfl hs.rdAll rfl (by simp[Value.oneCell']) (by decide) (by decide) (by rw[List.length_append];omega) λad41 c41 a w ha hs=>?_
   refine RN 1 ha hs λa ha=>?_
   rw[bc_snoc]at hs
   have hdn':(dn++putL (zz ((k-i:Nat):Int))++[bs[i] ^^^ last])++runsL (bs.drop k) bs[i]=runsL bs 0:=by rw[← hdn];simp
   rw[show (dn++putL (zz ((k-i:Nat):Int))).length+1=(dn++putL (zz ((k-i:Nat):Int))++[bs[i] ^^^ last]).length from by simp only[List.length_append,List.length_singleton]]at ha hs
   generalize dn++putL (zz ((k-i:Nat):Int))++[bs[i] ^^^ last]=dn' at ha hs hdn'
   refine RN 4 ha hs λa ha=>?_
   refine SS ha (ld1 ha (((hp _ hs.sub).rd (by omega)) i _ (bc_at hil))) λa ha=>?_
   refine RN 3 ha hs λa ha=>?_
   exact⟨bs.length-k,by omega,k,_,ad41,dn',bs[i],⟨rfl,by omega,hdn'⟩,ha.keep [0,3,4,5],hs.sub⟩
  refine RH 0 ha hs hH hC λa ha=>?_
  refine st_buildSlice ha rfl hs Tryz.underlying22 Ty.t5 rfl rfl rfl rfl (by decide) (by decide) λb40 a w ha hs ho=>?_
  clear ho
  refine CL2 0 ha hs (put_bytes (N:=((k-i:Nat):Int)) (hs.pick (Sl 5 1 ad' dn.length c' (bc dn))) (by omega) (by omega) (by omega)) λadp cp a w ha hs=>?_
  replace hC:=hH.at w ((hp _ hs.sub).rd (by omega))
  refine RH 0 ha hs hH hC λa ha=>?_
  refine st_append ha rfl hs Tryz.underlying22 Ty.t5 rfl rfl hs.rdAll rfl (by simp[Value.oneCell']) (by decide) (by decide) (by rw[List.length_append];omega) λad41 c41 a w ha hs=>?_
  refine RN 1 ha hs λa ha=>?_
  rw[bc_snoc]at hs
  have hdn':(dn++putL (zz ((k-i:Nat):Int))++[bs[i] ^^^ last])++runsL (bs.drop k) bs[i]=runsL bs 0:=by rw[← hdn];simp
  rw[show (dn++putL (zz ((k-i:Nat):Int))).length+1=(dn++putL (zz ((k-i:Nat):Int))++[bs[i] ^^^ last]).length from by simp only[List.length_append,List.length_singleton]]at ha hs
  generalize dn++putL (zz ((k-i:Nat):Int))++[bs[i] ^^^ last]=dn' at ha hs hdn'
  refine RN 4 ha hs λa ha=>?_
  refine SS ha (ld1 ha (((hp _ hs.sub).rd (by omega)) i _ (bc_at hil))) λa ha=>?_
  refine RN 3 ha hs λa ha=>?_
  exact⟨bs.length-k,by omega,k,_,ad41,dn',bs[i],⟨rfl,by omega,hdn'⟩,ha.keep [0,3,4,5],hs.sub⟩
 rw[List.drop_eq_nil_of_le (by omega),runsL_nil,List.append_nil]at hdn
 refine RT 3 ha hs ?_
 exact⟨_,_,by rw[← hdn],by rw[← hdn];exact hs⟩
theorem runs_dec (hs:St W w L)(hb:bs.length≤65536)(hc:bs.length≤c)(hm:m≤1000000)(hp:∀ w',St W w' L→RdB w' ad bs.length bs) :
   Calls Tryz.prog 243 #[.slice ad bs.length c,.int .i64 m] w λe w'=>∃ (out:List UInt8) (ad':Option Addr) (c':Nat) (er:Int),e=.returned (.tuple #[.slice ad' out.length c',.int .i64 er])∧Unr bs m out er∧St W w' (Sl 5 1 ad' out.length c' (bc out)::L):=by
 refine EN Tryz.func243 Tryz.ntmps243 rfl rfl λa ha=>?_
 refine RN 10 ha hs λa ha=>?_
 refine wp_loop_ghost (λμ a w=>∃ (i c':Nat) (ad':Option Addr) (dn:List UInt8) (last:UInt8),(μ=bs.length-i∧i≤bs.length∧dn.length≤m∧(0<i→dn≠[])∧∀ p:List UInt8,p.length≤m→bs=runsL p 0→RunsAt p dn last (bs.drop i))∧Fr a 79 [(0,.slice ad bs.length c),(1,.int .i64 m),(6,.slice ad' dn.length c'),(7,.int .u8 (last.toNat:Int)),(8,.int .i64 i)]∧St W w (Sl 5 1 ad' dn.length c' (bc dn)::L)) (bs.length) (⟨0,0,none,[],0,⟨rfl,by omega,by simp,by omega,λp _ e=>by rw[List.drop_zero,e];exact RunsAt.start p⟩,ha.keep [0,1,6,7,8],hs.sl0 5 1 none⟩) ?_
 clear ha hs
 rintro μ a w ⟨i,c',ad',dn,last,⟨rfl,hi,hdm,hd0,hrn⟩,ha,hs⟩
 refine IF 6 ha hs (λhc0 a ha=>?_) λhc0 a ha=>?_
 ·
  obtain⟨bb,oo,rfl,_⟩:=(hp _ hs.tail).get (by omega)
  have hil:i<bs.length:=by omega
  have hne:bs.drop i≠[]:=λe=>by have:=congrArg List.length e;simp at this;omega
  refine RN 4 ha hs λa ha=>?_
  rw[show bs.length-i=(bs.drop i).length from by simp]at ha
  refine CL3 0 ha hs (num_get (bs:=bs.drop i) hs (by simp;omega) (λw' hw=>(hp w' hw.tail).cutL hi hc)) λx k er a w ha ⟨hg,hs⟩=>?_
  refine RN 8 ha hs λa ha=>?_
  refine wp_seq_cut (M:=λa w=>∃ z:Bool,(z=true↔(er≠0∨x<1∨bs.length≤i+k∨((bs.getD (i+k) 0).toNat=0∧0<i)))∧Fr a 79 [(0,.slice (some ⟨bb,oo,none⟩) bs.length c),(1,.int .i64 m),(6,.slice ad' dn.length c'),(7,.int .u8 (last.toNat:Int)),(8,.int .i64 i),(9,.int .i64 x),(10,.int .i64 k),(50,.bool z)]∧St W w (Sl 5 1 ad' dn.length c' (bc dn)::L)) ?_ ?_
  ·
   have hdl:(bs.drop i).length=bs.length-i:=by simp
   have hgk:=hg.2.2.1
   have hge:=hg.2.1
   have hgb:=hg.1
   have hkl:k≤bs.length:=by
     by_cases h0:er=0
     · have:=hgk h0;omega
     · have:=(hg.2.2.2.1 h0).1;omega
   refine BY 3 ha hs (λhg2 a ha=>?_) λhg2 a ha=>?_
   ·
    refine RN 24 ha hs λa ha=>?_
    exact⟨_,by first | (rw[decide_eq_true_iff];omega) | exact⟨λh=>(by cases h),λh=>absurd h (by omega)⟩ | exact⟨λ_=>by omega,λ_=>rfl⟩,ha.keep [0,1,6,7,8,9,10,50],hs⟩
   refine BY 4 ha hs (λhg6 a ha=>?_) λhg6 a ha=>?_
   ·
    refine RN 20 ha hs λa ha=>?_
    exact⟨_,by first | (rw[decide_eq_true_iff];omega) | exact⟨λh=>(by cases h),λh=>absurd h (by omega)⟩ | exact⟨λ_=>by omega,λ_=>rfl⟩,ha.keep [0,1,6,7,8,9,10,50],hs⟩
   refine BY 8 ha hs (λhg14 a ha=>?_) λhg14 a ha=>?_
   ·
    refine RN 12 ha hs λa ha=>?_
    exact⟨_,by first | (rw[decide_eq_true_iff];omega) | exact⟨λh=>(by cases h),λh=>absurd h (by omega)⟩ | exact⟨λ_=>by omega,λ_=>rfl⟩,ha.keep [0,1,6,7,8,9,10,50],hs⟩
   refine RN 4 ha hs λa ha=>?_
   rw[show ((i:Nat):Int)+((k:Nat):Int)=((i+k:Nat):Int) from by omega]at ha
   refine RN 1 ha hs λa ha=>?_
   refine st_set ha (wgT ha rfl (s:=38)) (ld1 ha (((hp _ hs.tail).rd (by omega)) (i+k) _ (bc_atD (by omega)))) rfl λa ha=>?_
   refine BY 2 ha hs (λhg22 a ha=>?_) λhg22 a ha=>?_
   ·
    refine RN 4 ha hs λa ha=>?_
    exact⟨_,by first | (rw[decide_eq_true_iff];omega) | exact⟨λh=>(by cases h),λh=>absurd h (by omega)⟩ | exact⟨λ_=>by omega,λ_=>rfl⟩,ha.keep [0,1,6,7,8,9,10,50],hs⟩
   refine RN 4 ha hs λa ha=>?_
   exact⟨_,by first | (rw[decide_eq_true_iff];omega) | exact⟨λh=>(by cases h),λh=>absurd h (by omega)⟩ | exact⟨λ_=>by omega,λ_=>rfl⟩,ha.keep [0,1,6,7,8,9,10,50],hs⟩
  clear ha;(try clear hs)
  rintro a w ⟨z,hz,ha,hs⟩
  refine IF 0 ha hs (λhc1 a ha=>?_) λhc1 a ha=>?_
  ·
   have hbad:=hz.1 hc1
   refine RT 3 ha hs ?_
   exact⟨[],none,0,1,rfl,Unr.bad hrn hm hne hg (by rw[getD_drop,List.length_drop];rcases hbad with h | h | h | h;exact .inl h;exact .inr (.inl h);exact .inr (.inr (.inl (by omega)));exact .inr (.inr (.inr (.inl ⟨hd0 h.2,h.1⟩)))) (.inl rfl),hs.tail.sl0 _ _ _⟩
  have hgood:¬ (er≠0∨x<1∨bs.length≤i+k∨((bs.getD (i+k) 0).toNat=0∧0<i)):=λh=>absurd (hz.2 h) (by simp[hc1])
  refine IF 9 ha hs (λhc2 a ha=>?_) λhc2 a ha=>?_
  ·
   refine RT 3 ha hs ?_
   exact⟨[],none,0,4,rfl,Unr.bad hrn hm hne hg (.inr (.inr (.inr (.inr (by omega))))) (.inr rfl),hs.tail.sl0 _ _ _⟩
  refine RN 6 ha hs λa ha=>?_
  rw[show ((i:Nat):Int)+((k:Nat):Int)=((i+k:Nat):Int) from by omega]at ha
  refine RN 1 ha hs λa ha=>?_
  refine SS ha (ld1 ha (((hp _ hs.tail).rd (by omega)) (i+k) _ (bc_atD (by omega)))) λa ha=>?_
  refine RN 2 ha hs λa ha=>?_
  generalize hy:last ^^^ bs.getD (i+k) 0=y at ha
  refine RN 4 ha hs λa ha=>?_
  refine wp_loop_ghost (λμ a w=>∃ (j c2:Nat) (ad2:Option Addr),(μ=x.toNat-j∧j≤x.toNat)∧Fr a 79 [(0,.slice (some ⟨bb,oo,none⟩) bs.length c),(1,.int .i64 m),(6,.slice ad2 (dn++List.replicate j y).length c2),(7,.int .u8 (y.toNat:Int)),(8,.int .i64 i),(10,.int .i64 k),(66,.int .i64 x),(67,.int .i64 j)]∧St W w (Sl 5 1 ad2 (dn++List.replicate j y).length c2 (bc (dn++List.replicate j y))::L)) (x.toNat) (⟨0,c',ad',⟨rfl,by omega⟩,by rw[List.replicate_zero,List.append_nil];exact ha.keep [0,1,6,7,8,10,66,67],by rw[List.replicate_zero,List.append_nil];exact hs⟩) ?_
  clear ha hs
  rintro μ a w ⟨j,c2,ad2,⟨rfl,hj⟩,ha,hs⟩
  refine IF 3 ha hs (λhc3 a ha=>?_) λhc3 a ha=>?_
  ·
   refine RN 1 ha hs λa ha=>?_
   have hjl:(dn++List.replicate j y).length=dn.length+j:=by simp
   refine RN 2 ha hs λa ha=>?_
   refine st_buildSlice ha rfl hs Tryz.underlying22 Ty.t5 rfl rfl rfl rfl (by decide) (by decide) λb71 a w ha hs ho=>?_
   clear ho
   refine RN 0 ha hs λa ha=>?_
   refine st_append ha rfl hs Tryz.underlying22 Ty.t5 rfl rfl hs.rdAll rfl (by simp[Value.oneCell']) (by decide) (by decide) (by omega) λad72 c72 a w ha hs=>?_
   refine RN 1 ha hs λa ha=>?_
   rw[bc_snoc,show (dn++List.replicate j y)++[y]=dn++List.replicate (j+1) y from by rw[List.append_assoc,← List.replicate_succ']]at hs
   rw[show (dn++List.replicate j y).length+1=(dn++List.replicate (j+1) y).length from by simp;omega]at ha hs
   refine RN 2 ha hs λa ha=>?_
   exact⟨x.toNat-(j+1),by omega,j+1,_,_,⟨rfl,by omega⟩,ha.keep [0,1,6,7,8,10,66,67],hs.sub⟩
  obtain rfl:j=x.toNat:=by omega
  refine RN 0 ha hs λa ha=>?_
  have hnl:(dn++List.replicate x.toNat y).length=dn.length+x.toNat:=by simp
  refine RN 4 ha hs λa ha=>?_
  rw[show ((i:Nat):Int)+(((k:Nat):Int)+1)=((i+k+1:Nat):Int) from by omega]at ha
  refine RN 1 ha hs λa ha=>?_
  exact⟨bs.length-(i+k+1),by omega,i+k+1,_,_,_,y,⟨rfl,by omega,by omega,λ_ e=>(by rw[e]at hnl;simp at hnl;omega),λp hp' e=>(by
    have h2:=((hrn p hp' e).get (by omega) hne hg).2.2.2.2.2
    rw[getD_drop,hy,List.drop_drop]at h2
    exact h2)⟩,ha.keep [0,1,6,7,8],hs⟩
 refine RT 4 ha hs ?_
 exact⟨dn,_,_,0,rfl,⟨by omega,hdm,λp hp' e=>⟨by have h2:=hrn p hp' e;rw[List.drop_eq_nil_of_le (by omega)]at h2;exact h2.done.symm,rfl⟩⟩,hs⟩
end
end
section
abbrev pkC (p:Pk)(ad:Option Addr)(c:Nat):List Value:=[.int .i64 p.kind,.int .i64 p.from',.int .i64 p.to,.int .i64 p.id,.int .i64 p.first,.slice ad p.press.length c,.int .i64 p.ack,.int .i64 p.frame,.int .u32 p.sum]
def inP (m:Int)(ns:List Int):Prop:=∀ n∈ns,0≤n∧n≤m
def ivs (ns:List Int):List Value:=ns.map λn=>.int .i64 n
theorem ivs_at {ns:List Int}{i:Nat}(h:i<ns.length):(ivs ns)[i]?=some (.int .i64 ns[i]):=by simp[ivs,h]
def headP (p:Pk):Prop:=(0≤p.from'∧p.from'≤7)∧(0≤p.to∧p.to≤7)∧p.from'≠p.to∧(0≤p.id∧p.id≤1099511627776)
theorem mayPk_1 {p:Pk}(h:headP p)(hk:p.kind=1):mayPk p↔(inP 1000 [p.first,p.ack,p.frame]∧p.press.length≤32):=by
 unfold headP at h
 simp only[mayPk,inP,frP,List.forall_mem_cons,List.not_mem_nil,false_implies,implies_true,and_true]
 omega
theorem mayPk_2 {p:Pk}(h:headP p)(hk:p.kind=2):mayPk p↔(inP 0 [p.first,p.ack,p.frame,(p.press.length:Int)]∧p.sum=0):=by
 unfold headP at h
 simp only[mayPk,inP,frP,List.forall_mem_cons,List.not_mem_nil,false_implies,implies_true,and_true]
 omega
theorem mayPk_h {p:Pk}(h:mayPk p):headP p:=⟨h.1,h.2.1,h.2.2.1,h.2.2.2.1⟩
theorem mayPk_k {p:Pk}(h:mayPk p):p.kind=1∨p.kind=2:=by
 rcases h.2.2.2.2 with h | h
 · exact .inl h.1
 · exact .inr h.1
section
variable {W w:World}{L:List SP}{n c:Nat}{ad:Option Addr}{p:Pk}
theorem in_any {ns:List Int}{b:Nat}{M:Int}(hs:St W w L)(hb:ns.length≤1000)(hp:∀ w',St W w' L→Rd w' b 0 (ivs ns)) :
   Calls Tryz.prog 287 #[.int .i64 M,.slice (some ⟨b,0,none⟩) ns.length ns.length] w λe w'=>∃ r:Bool,e=.returned (.bool r)∧(r=true↔inP M ns)∧St W w' L:=by
 refine EN Tryz.func287 Tryz.ntmps287 rfl rfl λa ha=>?_
 refine RN 7 ha hs λa ha=>?_
 refine wp_loop_ghost (λμ a w=>∃ (i:Nat),(μ=ns.length-i∧i≤ns.length∧inP M (ns.take i))∧Fr a 21 [(0,.int .i64 M),(7,.slice (some ⟨b,0,none⟩) ns.length ns.length),(8,.int .i64 ns.length),(9,.int .i64 i)]∧St W w L) (ns.length) (⟨0,⟨rfl,by omega,λn h=>by simp at h⟩,ha.keep [0,7,8,9],hs⟩) ?_
 clear ha hs
 rintro μ a w ⟨i,⟨rfl,hi,hin⟩,ha,hs⟩
 refine IF 3 ha hs (λhc0 a ha=>?_) λhc0 a ha=>?_
 ·
  have hil:i<ns.length:=by omega
  refine RN 3 ha hs λa ha=>?_
  refine SS ha (ld1 ha (by have:=hp _ hs i _ (ivs_at hil);rwa [Nat.zero_add]at this)) λa ha=>?_
  refine RN 1 ha hs λa ha=>?_
  refine wp_seq_cut (M:=λa w=>∃ z:Bool,(z=true↔¬ (0≤ns[i]∧ns[i]≤M))∧Fr a 21 [(0,.int .i64 M),(7,.slice (some ⟨b,0,none⟩) ns.length ns.length),(8,.int .i64 ns.length),(9,.int .i64 i),(19,.bool z)]∧St W w L) ?_ ?_
  ·
   refine BY 3 ha hs (λhg2 a ha=>?_) λhg2 a ha=>?_
   ·
    refine RN 4 ha hs λa ha=>?_
    exact⟨_,by first | (rw[decide_eq_true_iff];omega) | exact⟨λh=>(by cases h),λh=>absurd h (by omega)⟩ | exact⟨λ_=>by omega,λ_=>rfl⟩,ha.keep [0,7,8,9,19],hs⟩
   refine RN 4 ha hs λa ha=>?_
   exact⟨_,by first | (rw[decide_eq_true_iff];omega) | exact⟨λh=>(by cases h),λh=>absurd h (by omega)⟩ | exact⟨λ_=>by omega,λ_=>rfl⟩,ha.keep [0,7,8,9,19],hs⟩
  clear ha;(try clear hs)
  rintro a w ⟨z,hz,ha,hs⟩
  refine IF 0 ha hs (λhc1 a ha=>?_) λhc1 a ha=>?_
  ·
   refine RT 2 ha hs ?_
   exact⟨_,rfl,⟨λh=>(by cases h),λh=>absurd (h _ (List.getElem_mem hil)) (hz.1 hc1)⟩,hs⟩
  refine RN 2 ha hs λa ha=>?_
  exact⟨ns.length-(i+1),by omega,i+1,⟨rfl,by omega,λn hn=>by
    rw[List.take_succ_eq_append_getElem hil,List.mem_append,List.mem_singleton]at hn
    rcases hn with hn | rfl
    · exact hin n hn
    · exact Classical.byContradiction λh=>by have:=hz.2 h;rw[hc1]at this;cases this⟩,ha.keep [0,7,8,9],hs⟩
 refine RT 2 ha hs ?_
 rw[List.take_of_length_le (by omega)]at hin
 exact⟨_,rfl,⟨λ_=>hin,λ_=>rfl⟩,hs⟩
theorem in2 {M a b:Int}:inP M [a,b]↔(0≤a∧a≤M)∧(0≤b∧b≤M):=by simp[inP]
theorem packet_may (hs:St W w L):Calls Tryz.prog 272 #[.agg (pkC p ad c).toArray] w λe w'=>∃ r:Bool,e=.returned (.bool r)∧(r=true↔mayPk p)∧St W w' L:=by
 have hL:=hs
 refine EN Tryz.func272 Tryz.ntmps272 rfl rfl λa ha=>?_
 refine BX 1 ha hs λb1 a w ha hs=>?_
 refine RN 2 ha hs λa ha=>?_
 refine wp_seq_cut (M:=λa w=>∃ (z:Bool) (b1:Nat),(z=true↔¬ headP p)∧Fr a 63 [(1,pt b1),(26,.bool z)]∧St W w (blk b1 70 (pkC p ad c)::L)) ?_ ?_
 ·
  refine RN 4 ha hs λa ha=>?_
  refine st_buildSlice ha rfl hs Tryz.underlying52 Ty.t3 rfl rfl rfl rfl (by decide) (by decide) λb7 a w ha hs ho=>?_
  clear ho
  refine CL1 0 ha hs (in_any (ns:=[p.from',p.to]) hs (by simp) (λw' hw=>hw.rdAll)) λr1 a w ha ⟨hr1,hs⟩=>?_
  refine BY 2 ha hs (λhg7 a ha=>?_) λhg7 a ha=>?_
  ·
   have hh:¬ headP p:=λh=>by
     have:=hr1.2 (in2.2 ⟨h.1,h.2.1⟩)
     rw[hg7]at this;cases this
   refine RN 16 ha hs λa ha=>?_
   exact⟨_,_,⟨λ_=>hh,λ_=>rfl⟩,ha.keep [1,26],hs.sub⟩
  have hh:=in2.1 (hr1.1 hg7)
  refine BY 7 ha hs (λhg14 a ha=>?_) λhg14 a ha=>?_
  ·
   refine RN 9 ha hs λa ha=>?_
   exact⟨_,_,by unfold headP;first | (rw[decide_eq_true_iff];omega) | exact⟨λh=>(by cases h),λh=>absurd h (by omega)⟩ | exact⟨λ_=>by omega,λ_=>rfl⟩,ha.keep [1,26],hs.sub⟩
  refine BY 5 ha hs (λhg19 a ha=>?_) λhg19 a ha=>?_
  ·
   refine RN 4 ha hs λa ha=>?_
   exact⟨_,_,by unfold headP;first | (rw[decide_eq_true_iff];omega) | exact⟨λh=>(by cases h),λh=>absurd h (by omega)⟩ | exact⟨λ_=>by omega,λ_=>rfl⟩,ha.keep [1,26],hs.sub⟩
  refine RN 4 ha hs λa ha=>?_
  exact⟨_,_,by unfold headP;first | (rw[decide_eq_true_iff];omega) | exact⟨λh=>(by cases h),λh=>absurd h (by omega)⟩ | exact⟨λ_=>by omega,λ_=>rfl⟩,ha.keep [1,26],hs.sub⟩
 clear ha;(try clear hs)
 rintro a w ⟨z,b1,hz,ha,hs⟩
 refine IF 0 ha hs (λhc0 a ha=>?_) λhc0 a ha=>?_
 ·
  have hn:=hz.1 hc0
  refine RT 2 ha hs ?_
  exact⟨_,rfl,⟨λh=>(by cases h),λh=>absurd (mayPk_h h) hn⟩,hs.sub⟩
 have hh:headP p:=Classical.byContradiction λh=>by have:=hz.2 h;rw[hc0]at this;cases this
 refine IF 7 ha hs (λhc1 a ha=>?_) λhc1 a ha=>?_
 ·
  have hk1:p.kind=1:=hc1
  refine RN 7 ha hs λa ha=>?_
  refine st_buildSlice ha rfl hs Tryz.underlying52 Ty.t3 rfl rfl rfl rfl (by decide) (by decide) λb37 a w ha hs ho=>?_
  clear ho
  refine CL1 0 ha hs (in_any (ns:=[p.first,p.ack,p.frame]) hs (by simp) (λw' hw=>hw.rdAll)) λr5 a w ha ⟨hr5,hs⟩=>?_
  refine BY 1 ha hs (λhg8 a ha=>?_) λhg8 a ha=>?_
  ·
   refine RT 6 ha hs ?_
   refine⟨_,rfl,?_,hs.sub⟩
   rw[mayPk_1 hh hk1,decide_eq_true_iff]
   exact⟨λh=>⟨hr5.1 hg8,by omega⟩,λh=>by omega⟩
  refine RT 6 ha hs ?_
  exact⟨_,rfl,⟨λh=>(by cases h),λh=>by have:=hr5.2 ((mayPk_1 hh hk1).1 h).1;rw[hg8]at this;cases this⟩,hs.sub⟩
 refine IF 3 ha hs (λhc2 a ha=>?_) λhc2 a ha=>?_
 ·
  have hk2:p.kind=2:=hc2
  refine RN 10 ha hs λa ha=>?_
  refine st_buildSlice ha rfl hs Tryz.underlying52 Ty.t3 rfl rfl rfl rfl (by decide) (by decide) λb56 a w ha hs ho=>?_
  clear ho
  refine CL1 0 ha hs (in_any (ns:=[p.first,p.ack,p.frame,(p.press.length:Int)]) hs (by simp) (λw' hw=>hw.rdAll)) λr7 a w ha ⟨hr7,hs⟩=>?_
  refine BY 1 ha hs (λhg11 a ha=>?_) λhg11 a ha=>?_
  ·
   refine RT 5 ha hs ?_
   refine⟨_,rfl,?_,hs.sub⟩
   rw[mayPk_2 hh hk2,decide_eq_true_iff]
   exact⟨λh=>⟨hr7.1 hg11,by omega⟩,λh=>by omega⟩
  refine RT 5 ha hs ?_
  exact⟨_,rfl,⟨λh=>(by cases h),λh=>by have:=hr7.2 ((mayPk_2 hh hk2).1 h).1;rw[hg11]at this;cases this⟩,hs.sub⟩
 refine RT 2 ha hs ?_
 exact⟨_,rfl,⟨λh=>(by cases h),λh=>by rcases mayPk_k h with h | h;exact absurd h hc1;exact absurd h hc2⟩,hs.sub⟩
end
end
section
def numsL (p:Pk):List Int:=[p.first,p.ack,p.frame]
def upN (p:Pk)(i:Nat):List UInt8:=headPk p++(putL (zz p.id)++((numsL p).take i).flatMap λn=>putL (zz n))
theorem upN_succ {p:Pk}{i:Nat}(h:i<3):upN p (i+1)=upN p i++putL (zz ((numsL p).getD i 0)):=by
 have hl:i<(numsL p).length:=h
 rw[upN,upN,List.take_succ_eq_append_getElem hl,List.flatMap_append,List.append_assoc,List.append_assoc,List.getD_eq_getElem?_getD,List.getElem?_eq_getElem hl]
 simp
theorem upN_all {p:Pk}(h:p.kind=1):upN p 3++(fourL p.sum++(putL (zz (p.press.length:Int))++runsL p.press 0))=bodyPk p:=by
 simp[upN,bodyPk,midPk,numsPk,h,tailPk,numsL]
theorem upN_quit {p:Pk}(h:p.kind≠1):upN p 0=bodyPk p:=by simp[upN,bodyPk,midPk,numsPk,h]
theorem upN_len {p:Pk}(h:mayPk p){i:Nat}(hi:i≤3):(upN p i).length≤43:=by
 obtain⟨h1,h2,h3,h4,h5⟩:=h
 have hq:∀ n:Int,0≤n→n≤1099511627776→(putL (zz n)).length≤10:=λn a b=>putz_len (by omega) (by omega)
 have hf:(0≤p.first∧p.first≤1000)∧(0≤p.ack∧p.ack≤1000)∧(0≤p.frame∧p.frame≤1000):=by unfold frP at h5;omega
 have a0:=hq p.id (by omega) (by omega)
 have a1:=hq p.first (by omega) (by omega)
 have a2:=hq p.ack (by omega) (by omega)
 have a3:=hq p.frame (by omega) (by omega)
 rcases (by omega:i=0∨i=1∨i=2∨i=3) with rfl | rfl | rfl | rfl <;> simp[upN,headPk,numsL] <;> omega
theorem numsL_at {p:Pk}{i:Nat}(h:i<3):([Value.int .i64 p.first,.int .i64 p.ack,.int .i64 p.frame]:List Value)[i]?=some (.int .i64 ((numsL p).getD i 0)):=by
 rcases (by omega:i=0∨i=1∨i=2) with rfl | rfl | rfl <;> rfl
theorem numsL_in {p:Pk}(h:mayPk p)(i:Nat):0≤(numsL p).getD i 0∧(numsL p).getD i 0≤1000:=by
 have h5:=h.2.2.2.2
 have hf:(0≤p.first∧p.first≤1000)∧(0≤p.ack∧p.ack≤1000)∧(0≤p.frame∧p.frame≤1000):=by unfold frP at h5;omega
 match i with
 | 0=>exact hf.1
 | 1=>exact hf.2.1
 | 2=>exact hf.2.2
 | _+3=>exact⟨Int.le_refl _,by show (0:Int)≤1000;omega⟩
theorem headPk_c {p:Pk}(h:mayPk p):[[Value.int .u8 p.kind],[Value.int .u8 p.from'],[Value.int .u8 p.to]].flatten=bc (headPk p):=by
 have hk:=mayPk_k h
 obtain⟨h1,h2,h3,h4,h5⟩:=h
 simp[bc,headPk,UInt8.toNat_ofNat']
 omega
theorem bodyPk_len {p:Pk}(h:mayPk p):(bodyPk p).length≤503:=by
 have:=midPk_len h
 simp[bodyPk,headPk];omega
section
variable {W w:World}{L:List SP}{n c:Nat}{ad:Option Addr}{bs:List UInt8}{p:Pk}
theorem packet_enc (hs:St W w L)(hsum:p.sum<4294967296)(hp:∀ w',St W w' L→RdB w' ad p.press.length p.press) :
   Calls Tryz.prog 240 #[.agg (pkC p ad c).toArray] w λe w'=>∃ ad' c',e=.returned (.slice ad' (encO p).length c')∧St W w' (Sl 5 1 ad' (encO p).length c' (bc (encO p))::L):=by
 refine EN Tryz.func240 Tryz.ntmps240 rfl rfl λa ha=>?_
 refine BX 1 ha hs λb1 a w ha hs=>?_
 refine CL1 4 ha hs (packet_may (p:=p) (ad:=ad) (c:=c) hs) λr1 a w ha ⟨hr1,hs⟩=>?_
 refine IF 1 ha hs (λhc0 a ha=>?_) λhc0 a ha=>?_
 ·
  have hn:¬ mayPk p:=λh=>by rw[hr1.2 h]at hc0;cases hc0
  refine RT 2 ha hs ?_
  have he:encO p=[]:=by rw[encO,if_neg hn]
  rw[he]
  exact⟨none,0,rfl,hs.tail.sl0 _ _ _⟩
 have hm:mayPk p:=hr1.1 hc0
 have hk:=mayPk_k hm
 have hh:=mayPk_h hm
 unfold headP at hh
 have he:encO p=bodyPk p++fourL (crcSum (bodyPk p)):=by rw[encO,if_pos hm,encPk]
 have hbl:=bodyPk_len hm
 refine SX 3 ha hs (by rw[wrap_u8];omega) λa ha=>?_
 refine SX 2 ha hs (by rw[wrap_u8];omega) λa ha=>?_
 refine SX 2 ha hs (by rw[wrap_u8];omega) λa ha=>?_
 refine RN 0 ha hs λa ha=>?_
 refine st_buildSlice ha rfl hs Tryz.underlying22 Ty.t5 rfl rfl rfl rfl (by decide) (by decide) λb18 a w ha hs ho=>?_
 clear ho
 replace hs:=hs.litS (l:=headPk p) rfl rfl (headPk_c hm)
 refine CL2 2 ha hs (put_bytes (bs:=headPk p) (N:=p.id) hs (by omega) (by omega) (by simp[headPk])) λad3 c3 a w ha hs=>?_
 refine RN 1 ha hs λa ha=>?_
 rw[show headPk p++putL (zz p.id)=upN p 0 from by simp[upN]]at ha hs
 refine wp_seq_cut (M:=λa w=>∃ (ad3:Option Addr) (c3:Nat),Fr a 58 [(3,.slice ad3 (bodyPk p).length c3)]∧St W w (Sl 5 1 ad3 (bodyPk p).length c3 (bc (bodyPk p))::L)) ?_ ?_
 ·
  refine IF 4 ha hs (λhc1 a ha=>?_) λhc1 a ha=>?_
  ·
   have hk1:p.kind=1:=hc1
   have hpl:p.press.length≤32:=by have:=hm.2.2.2.2;omega
   refine RN 8 ha hs λa ha=>?_
   refine SS ha (ex_buildA ha Tryz.underlying359 Ty.t359 Ty.t3 rfl rfl) λa ha=>?_
   refine RN 1 ha hs λa ha=>?_
   refine wp_loop_ghost (λμ a w=>∃ (i c3:Nat) (ad3:Option Addr),(μ=3-i∧i≤3)∧Fr a 58 [(1,pt b1),(3,.slice ad3 (upN p i).length c3),(31,.agg #[.int .i64 p.first,.int .i64 p.ack,.int .i64 p.frame]),(32,.int .i64 i)]∧St W w (Sl 5 1 ad3 (upN p i).length c3 (bc (upN p i))::blk b1 70 (pkC p ad c)::L)) (3) (⟨0,c3,ad3,⟨rfl,by omega⟩,ha.keep [1,3,31,32],hs⟩) ?_
   clear ha hs
   rintro μ a w ⟨i,c3,ad3,⟨rfl,hi⟩,ha,hs⟩
   refine IF 3 ha hs (λhc2 a ha=>?_) λhc2 a ha=>?_
   ·
    refine RN 2 ha hs λa ha=>?_
    refine SS ha (ex_index1 ha Tryz.underlying359 Tryz.underlying3 rfl Ty.t3 (by omega) (numsL_at (p:=p) (by omega))) λa ha=>?_
    refine RN 1 ha hs λa ha=>?_
    have hin:=numsL_in hm i
    have hul:=upN_len hm (show i≤3 by omega)
    refine CL2 2 ha hs (put_bytes hs (by omega) (by omega) (by omega)) λad4 c4 a w ha hs=>?_
    refine RN 1 ha hs λa ha=>?_
    rw[← upN_succ (by omega)]at ha hs
    refine RN 2 ha hs λa ha=>?_
    exact⟨3-(i+1),by omega,i+1,_,_,⟨rfl,by omega⟩,ha.keep [1,3,31,32],hs.sub⟩
   obtain rfl:i=3:=by omega
   have hul:=upN_len hm (Nat.le_refl 3)
   have hll:=putz_len (n:=(p.press.length:Int)) (by omega) (by omega)
   have hal:=upN_all hk1
   generalize upN p 3=u3 at ha hs hul hal
   refine DWC 1 (λw0 w=>Rd w b1 0 (pkC p ad c)) [3,4,6,7] [0,1,5,3002,3006,3007,1003,1004,1008,9] ha hs λa w ha hs hH=>?_
   have hC:Rd w b1 0 (pkC p ad c):=hs.rdAll
   refine RH 3 ha hs hH hC λa ha=>?_
   refine QH ha (λw hc=>ld1 ha (hc 8 _ rfl)) hC λa ha=>?_
   refine QH ha (λw hc=>ld1 ha (hc 5 _ rfl)) hC λa ha=>?_
   refine RH 1 ha hs hH hC λa ha=>?_
   refine CL1 0 ha hs (num_four hs) λad5 a w ha hs=>?_
   replace hC:=hH.at w hs.rdAll
   refine RH 0 ha hs hH hC λa ha=>?_
   refine st_appendT ha rfl hs Tryz.underlying22 Ty.t5 rfl rfl (by decide) (λh0=>(hs.rdB ad5 (fourL p.sum) rfl rfl).get h0) (by rw[bc_len];rfl) (bc_one _) (by rw[fourL_len];omega) λad43 c43 a w ha hs=>?_
   replace hC:=hH.at w hs.rdAll
   rw[← bc_app,← List.length_append]at hs
   rw[← List.length_append]at ha
   refine RH 0 ha hs hH hC λa ha=>?_
   refine CL2 0 ha hs (put_bytes hs (by omega) (by omega) (by rw[List.length_append,fourL_len];omega)) λad6 c6 a w ha hs=>?_
   refine RN 1 ha hs λa ha=>?_
   have hrl:=runsL_len p.press 0
   generalize hu:u3++fourL p.sum++putL (zz (p.press.length:Int))=u4 at ha hs
   have hul4:u4.length≤60:=by rw[← hu];simp[fourL_len];omega
   refine CL2 3 ha hs (runs_enc (bs:=p.press) hs (by omega) (λw' hw=>hp w' hw.sub)) λad7 c7 a w ha hs=>?_
   refine RN 0 ha hs λa ha=>?_
   refine st_appendT ha rfl hs Tryz.underlying22 Ty.t5 rfl rfl (by decide) (λh0=>(hs.rdB ad7 _ rfl rfl).get h0) (by rw[bc_len,Nat.mul_one]) (bc_one _) (by omega) λad52 c52 a w ha hs=>?_
   refine RN 1 ha hs λa ha=>?_
   rw[← bc_app,show u4.length+(runsL p.press 0).length=(u4++runsL p.press 0).length from by rw[List.length_append]]at hs
   rw[show u4.length+(runsL p.press 0).length=(u4++runsL p.press 0).length from by rw[List.length_append]]at ha
   rw[show u4++runsL p.press 0=bodyPk p from by rw[← hu,← hal];simp]at ha hs
   exact⟨_,_,ha.keep [3],hs.sub⟩
  rw[upN_quit (by omega)]at ha hs
  refine RN 0 ha hs λa ha=>?_
  exact⟨_,_,ha.keep [3],hs.sub⟩
 clear ha;(try clear hs)
 rintro a w ⟨ad3,c3,ha,hs⟩
 refine CL 3 ha hs (crc_sum hs (by omega) (λw' hw=>hw.rdB ad3 _ rfl rfl)) λa w ha hs=>?_
 refine CL1 0 ha hs (num_four hs) λad8 a w ha hs=>?_
 refine RN 0 ha hs λa ha=>?_
 refine st_appendT ha rfl hs Tryz.underlying22 Ty.t5 rfl rfl (by decide) (λh0=>(hs.rdB ad8 (fourL (crcSum (bodyPk p))) rfl rfl).get h0) (by rw[bc_len];rfl) (bc_one _) (by rw[fourL_len];omega) λad57 c57 a w ha hs=>?_
 refine RT 1 ha hs ?_
 rw[he]
 rw[← bc_app,← List.length_append]at hs
 rw[← List.length_append]
 exact⟨_,_,rfl,hs.sub⟩
end
end
section
def i64P (x:Int):Prop := -9223372036854775808≤x∧x≤9223372036854775807
def fourB (l:List UInt8):Nat:=l.foldl (λn b=>n*256+b.toNat) 0
theorem fourB_lt:∀ (l:List UInt8) (a:Nat),l.foldl (λn b=>n*256+b.toNat) a<(a+1)*256 ^ l.length
 | [],a=>by simp
 | b::l,a=>by
   have h1:=fourB_lt l (a*256+b.toNat)
   have h2:=u8_lt b
   rw[List.foldl_cons,List.length_cons]
   refine Nat.lt_of_lt_of_le h1 ?_
   rw[Nat.pow_succ,Nat.mul_comm (256 ^ l.length) 256,← Nat.mul_assoc]
   exact Nat.mul_le_mul_right _ (by omega)
theorem fourB_four {x:Nat}(h:x<4294967296):fourB (fourL x)=x:=by
 have:=fourL_back h
 simpa [fourB,fourL,fourN] using this
theorem fourB_take {l:List UInt8}{i:Nat}(h:i<l.length):fourB (l.take (i+1))=fourB (l.take i)*256+l[i].toNat:=by
 rw[fourB,List.take_succ_eq_append_getElem h,List.foldl_append];rfl
theorem fourB_bd (l:List UInt8)(n:Nat)(h:l.length≤n):fourB l<256 ^ n:=by
 have:=fourB_lt l 0
 rw[Nat.zero_add,Nat.one_mul]at this
 exact Nat.lt_of_lt_of_le this (Nat.pow_le_pow_right (by decide) h)
theorem shl8 {n:Nat}(h:n<16777216)(b:UInt8):IntKind.u32.wrap (((BitVec.ofInt IntKind.u32.bits (IntKind.u32.wrap ((n:Int)*2 ^ 8)) ||| BitVec.ofInt IntKind.u32.bits (b.toNat:Int)).toNat:Nat):Int)=((n*256+b.toNat:Nat):Int):=by
 have hb:=u8_lt b
 rw[show IntKind.u32.wrap ((n:Int)*2 ^ 8)=((n*256:Nat):Int) from by rw[wrap_u32];omega,bv32,bv32]
 show IntKind.u32.wrap (((BitVec.ofNat 32 (n*256) ||| BitVec.ofNat 32 b.toNat).toNat:Nat):Int)=_
 rw[BitVec.toNat_or,BitVec.toNat_ofNat,BitVec.toNat_ofNat,Nat.mod_eq_of_lt (show n*256<2 ^ 32 by omega),Nat.mod_eq_of_lt (show b.toNat<2 ^ 32 by omega),wrap_u32]
 have h1:=Nat.two_pow_add_eq_or_of_lt (i:=8) (b:=b.toNat) hb n
 rw[show n*256=2 ^ 8*n from by omega,← h1]
 omega
structure Rdr (W:World)(L:List SP)(ad:Option Addr)(c:Nat)(rest:List UInt8):Prop where
 len:rest.length≤65536
 cap:rest.length≤c
 rd:∀ w',St W w' L→RdB w' ad rest.length rest
section
variable {W w:World}{L L':List SP}{n c m rb:Nat}{ad:Option Addr}{bs rest:List UInt8}{p:Pk}{bad:Bool}
theorem Rdr.cut {k:Nat}(h:Rdr W L ad c rest)(hk:k≤rest.length):Rdr W L (cutAd ad k c 1) (c-k) (rest.drop k) :=
 ⟨by rw[List.length_drop];have:=h.len;omega,by rw[List.length_drop];have:=h.cap;omega,λw' hw=>(h.rd w' hw).cutL hk h.cap⟩
theorem rd_num (hs:St W w (blk rb 334 [.slice ad rest.length c,.bool bad]::L'))(hup:∀ w',St W w' L'→St W w' L)(hr:Rdr W L ad c rest) :
   Calls Tryz.prog 241 #[pt rb] w λe w'=>∃ (x:Int) (ad':Option Addr) (c':Nat) (rest':List UInt8) (bad':Bool),e=.returned (.int .i64 x)∧i64P x∧Rdr W L ad' c' rest' ∧
     (∀ (n:Int) (r:List UInt8),i64P n→rest=putL (zz n)++r→bad=false→x=n∧rest'=r∧bad'=false)∧St W w' (blk rb 334 [.slice ad' rest'.length c',.bool bad']::L'):=by
 have hlen:=hr.len
 refine EN Tryz.func241 Tryz.ntmps241 rfl rfl λa ha=>?_
 refine CL3 7 ha hs (num_get (bs:=rest) hs (by omega) (λw' hw=>hr.rd w' (hup _ hw.tail))) λx k er a w ha ⟨hg,hs⟩=>?_
 refine RN 7 ha hs λa ha=>?_
 have hgk:=hg.2.2.1
 have hge:=hg.2.1
 have hkl:k≤rest.length:=by
   by_cases h0:er=0
   · have:=hgk h0;omega
   · have:=(hg.2.2.2.1 h0).1;omega
 refine wp_seq_cut (M:=λa w=>∃ (z:Bool) (ad':Option Addr) (c':Nat) (rest':List UInt8),(er=0→bad=false→z=false)∧Rdr W L ad' c' rest'∧(z=false→rest'=rest.drop k)∧Fr a 41 [(3,.int .i64 x)]∧St W w (blk rb 334 [.slice ad' rest'.length c',.bool z]::L')) ?_ ?_
 ·
  refine wp_seq_cut (M:=λa w=>∃ z:Bool,(bad=true→z=true)∧(er=0→bad=false→z=false)∧Fr a 41 [(0,pt rb),(3,.int .i64 x),(4,.int .i64 k)]∧St W w (blk rb 334 [.slice ad rest.length c,.bool z]::L')) ?_ ?_
  ·
   refine BY 6 ha hs (λhg5 a ha=>?_) λhg5 a ha=>?_
   ·
    refine ST 5 ha hs (λa w ha hs=>?_)
    refine RN 0 ha hs λa ha=>?_
    exact⟨_,λ_=>rfl,λ_ h=>(by rw[h]at hg5;cases hg5),ha.keep [0,3,4],hs⟩
   refine ST 5 ha hs (λa w ha hs=>?_)
   refine RN 0 ha hs λa ha=>?_
   exact⟨_,λh=>(by rw[h]at hg5;cases hg5),λh _=>decide_eq_false (by omega),ha.keep [0,3,4],hs⟩
  clear ha;(try clear hs)
  rintro a w ⟨z,hz1,hz0,ha,hs⟩
  refine IF 6 ha hs (λhc0 a ha=>?_) λhc0 a ha=>?_
  ·
   have hz:z=false:=hc0
   refine RN 7 ha hs λa ha=>?_
   rw[show rest.length-k=(rest.drop k).length from by simp]at ha
   refine ST 2 ha hs (λa w ha hs=>?_)
   refine RN 0 ha hs λa ha=>?_
   exact⟨_,_,_,_,hz0,hr.cut hkl,λ_=>rfl,ha.keep [3],hs⟩
  refine RN 0 ha hs λa ha=>?_
  exact⟨_,_,_,_,hz0,hr,λh=>(by rw[h]at hc0;cases hc0),ha.keep [3],hs⟩
 clear ha;(try clear hs)
 rintro a w ⟨z,ad',c',rest',hz0,hr',hd',ha,hs⟩
 refine RT 3 ha hs ?_
 refine⟨x,ad',c',rest',z,rfl,hg.1,hr',λn r hn e hb=>?_,hs⟩
 obtain⟨rfl,rfl,rfl⟩:=hg.2.2.2.2 n r hn.1 hn.2 e
 have hz:=hz0 rfl hb
 refine⟨rfl,?_,hz⟩
 rw[hd' hz,e,List.drop_left]
theorem rd_four (hs:St W w (blk rb 334 [.slice ad rest.length c,.bool bad]::L'))(hup:∀ w',St W w' L'→St W w' L)(hr:Rdr W L ad c rest) :
   Calls Tryz.prog 242 #[pt rb] w λe w'=>∃ (x:Nat) (ad':Option Addr) (c':Nat) (rest':List UInt8) (bad':Bool),e=.returned (.int .u32 x)∧x<4294967296∧Rdr W L ad' c' rest' ∧
     (∀ (n:Nat) (r:List UInt8),n<4294967296→rest=fourL n++r→bad=false→x=n∧rest'=r∧bad'=false)∧St W w' (blk rb 334 [.slice ad' rest'.length c',.bool bad']::L'):=by
 have hlen:=hr.len
 have hcap:=hr.cap
 refine EN Tryz.func242 Tryz.ntmps242 rfl rfl λa ha=>?_
 refine RN 3 ha hs λa ha=>?_
 refine wp_seq_cut (M:=λa w=>∃ z:Bool,(z=true↔(bad=true∨rest.length<4))∧Fr a 50 [(0,pt rb)]∧St W w (blk rb 334 [.slice ad rest.length c,.bool z]::L')) ?_ ?_
 ·
  refine BY 6 ha hs (λhg5 a ha=>?_) λhg5 a ha=>?_
  ·
   refine ST 9 ha hs (λa w ha hs=>?_)
   refine RN 0 ha hs λa ha=>?_
   exact⟨_,⟨λ_=>.inl hg5,λ_=>rfl⟩,ha.keep [0],hs⟩
  refine ST 9 ha hs (λa w ha hs=>?_)
  refine RN 0 ha hs λa ha=>?_
  exact⟨_,(by rw[decide_eq_true_iff,hg5];simp;omega),ha.keep [0],hs⟩
 clear ha;(try clear hs)
 rintro a w ⟨z,hz,ha,hs⟩
 refine IF 5 ha hs (λhc0 a ha=>?_) λhc0 a ha=>?_
 ·
  have hzt:=hz.1 hc0
  refine RT 2 ha hs ?_
  refine⟨0,ad,c,rest,true,rfl,by decide,hr,λn r hn e hb=>?_,by rw[hc0]at hs;exact hs⟩
  rcases hzt with h | h
  · rw[hb]at h;cases h
  · rw[e,List.length_append,fourL_len]at h;omega
 have hzf:¬ (bad=true∨rest.length<4):=λh=>by rw[hz.2 h]at hc0;cases hc0
 have h4:4≤rest.length:=Nat.le_of_not_lt λh=>hzf (.inr h)
 obtain⟨bb,oo,rfl,_⟩:=(hr.rd _ (hup _ hs.tail)).get (by omega)
 have htl:(rest.take 4).length=4:=by rw[List.length_take];omega
 refine RN 9 ha hs λa ha=>?_
 rw[cutAd_zero,Nat.sub_zero,Nat.sub_zero]at ha
 refine RN 2 ha hs λa ha=>?_
 refine wp_loop_ghost (λμ a w=>∃ (i:Nat),(μ=4-i∧i≤4)∧Fr a 50 [(0,pt rb),(3,.int .u32 (fourB (rest.take i))),(29,.slice (some ⟨bb,oo,none⟩) 4 c),(30,.int .i64 4),(31,.int .i64 i)]∧St W w (blk rb 334 [.slice (some ⟨bb,oo,none⟩) rest.length c,.bool z]::L')) (4) (⟨0,⟨rfl,by omega⟩,ha.keep [0,3,29,30,31],hs⟩) ?_
 clear ha hs
 rintro μ a w ⟨i,⟨rfl,hi⟩,ha,hs⟩
 refine IF 3 ha hs (λhc1 a ha=>?_) λhc1 a ha=>?_
 ·
  have hil:i<rest.length:=by omega
  have hbd:=fourB_bd (rest.take i) 3 (by rw[List.length_take];omega)
  rw[show (256:Nat) ^ 3=16777216 from by decide]at hbd
  have hb8:=u8_lt rest[i]
  refine RN 3 ha hs λa ha=>?_
  refine SS ha (ld1 ha (((hr.rd _ (hup _ hs.tail)).rd (by omega)) i _ (bc_at hil))) λa ha=>?_
  refine SX 4 ha hs (by rw[wrap_u32];omega) λa ha=>?_
  refine RN 1 ha hs λa ha=>?_
  rw[shl8 hbd,← fourB_take hil]at ha
  refine RN 3 ha hs λa ha=>?_
  exact⟨4-(i+1),by omega,i+1,⟨rfl,by omega⟩,ha.keep [0,3,29,30,31],hs⟩
 obtain rfl:i=4:=by omega
 refine RN 7 ha hs λa ha=>?_
 rw[show rest.length-4=(rest.drop 4).length from by simp]at ha
 refine ST 2 ha hs (λa w ha hs=>?_)
 refine RT 3 ha hs ?_
 have hbd:=fourB_bd (rest.take 4) 4 (by rw[List.length_take];omega)
 rw[show (256:Nat) ^ 4=4294967296 from by decide]at hbd
 refine⟨_,_,_,_,z,rfl,hbd,hr.cut h4,λn r hn e hb=>?_,hs⟩
 have ht:rest.take 4=fourL n:=by rw[e];rfl
 have hd:rest.drop 4=r:=by rw[e];rfl
 exact⟨by rw[ht,fourB_four hn],hd,hc0⟩
theorem bytes_equalS {a b:List UInt8}{ad2:Option Addr}{m n c2:Nat}(hs:St W w L)(ha':RdB w ad m a)(hb':RdB w ad2 n b) :
   Calls Tryz.prog 211 #[.slice ad m c,.slice ad2 n c2] w λe w'=>e=.returned (.bool (a==b))∧St W w' L :=
 (bytes_equal ha' hb').mono λe w' h=>⟨h.1,by rw[h.2];exact hs⟩
theorem decP_head {bs:List UInt8}{q:Pk}(h:decP bs q):(q.kind=((bs.getD 0 0).toNat:Int)∧q.from'=((bs.getD 1 0).toNat:Int)∧q.to=((bs.getD 2 0).toNat:Int))∧(bs.drop 3).take (bs.length-7)=midPk q:=by
 have h1:=encPk_head h.2.2
 obtain⟨f1,t1,n1,i1,k1⟩:=h.1
 refine⟨?_,encPk_mid h.2.2⟩
 simp only[List.getD_eq_getElem?_getD,h1.1,h1.2.1,h1.2.2,Option.getD_some,UInt8.toNat_ofNat']
 omega
theorem i64u8 (b:UInt8):IntKind.i64.wrap (b.toNat:Int)=(b.toNat:Int):=wrap_in (by omega) (by have:=u8_lt b;omega)
theorem decP_bad {bs:List UInt8}(h:¬ ∃ q,decP bs q):decO bs=none:=decO_none λq hq=>h ⟨q,hq⟩
def Dec (bs:List UInt8)(p:Pk)(adP:Option Addr)(cP:Nat)(ok:Bool):Prop:=(ok=true∧decO bs=some p)∨(ok=false∧decO bs=none∧p=pk0∧adP=none∧cP=0)
theorem packet_dec (hs:St W w L)(hb:bs.length≤65536)(hc:bs.length≤c)(hp:∀ w',St W w' L→RdB w' ad bs.length bs) :
   Calls Tryz.prog 204 #[.slice ad bs.length c] w λe w'=>∃ (p:Pk) (adP:Option Addr) (cP:Nat) (ok:Bool),e=.returned (.tuple #[.agg (pkC p adP cP).toArray,.int .i64 (if ok=true then 0 else 1)])∧Dec bs p adP cP ok∧St W w' (Sl 5 1 adP p.press.length cP (bc p.press)::L):=by
 refine EN Tryz.func204 Tryz.ntmps204 rfl rfl λa ha=>?_
 refine AL 1 ha hs λb2 a w ha hs=>?_
 refine IF 6 ha hs (λhc0 a ha=>?_) λhc0 a ha=>?_
 ·
  have hno:decO bs=none:=decO_none λq hq=>by
    have:=congrArg List.length hq.2.2
    rw[encPk_len]at this;omega
  refine SA 2 ha hs λa w ha hs=>?_
  refine RT 1 ha hs ?_
  exact⟨pk0,none,0,false,rfl,.inr ⟨rfl,hno,rfl,rfl,rfl⟩,hs.tail.sl0 _ _ _⟩
 obtain⟨bb,oo,rfl,_⟩:=(hp _ hs.tail).get (by omega)
 have h7:7≤bs.length:=by omega
 refine DWC 1 (λw0 w=>Rd w bb oo (bc bs)) [6,7,10,11,13] [0,1,4,5,8,9,3002,3,3006,3007,3010,3011,12,1013,1014] ha hs λa w ha hs hH=>?_
 have hC:Rd w bb oo (bc bs):=(hp _ hs.tail).rd (by omega)
 refine RH 6 ha hs hH hC λa ha=>?_
 refine QH ha (λw hc=>ld1 ha (hc 0 _ (bc_atD (by omega)))) hC λa ha=>?_
 refine QP ha (λw=>ex_convIIs ha Tryz.underlying5 Tryz.underlying3 (i64u8 _)) λa ha=>?_
 refine QH ha (λw hc=>ld1 ha (hc 1 _ (bc_atD (by omega)))) hC λa ha=>?_
 refine QH ha (λw hc=>ex_convIIs ha Tryz.underlying5 Tryz.underlying3 (i64u8 _)) hC λa ha=>?_
 refine QH ha (λw hc=>ld1 ha (hc 2 _ (bc_atD (by omega)))) hC λa ha=>?_
 refine QH ha (λw hc=>ex_convIIs ha Tryz.underlying5 Tryz.underlying3 (i64u8 _)) hC λa ha=>?_
 refine RH 1 ha hs hH hC λa ha=>?_
 refine st_alloc ha rfl hs Ty.t70 rfl λb4 a w ha hs ho=>?_
 clear ho
 replace hC:=hH.at w ((hp _ hs.tail.tail).rd (by omega))
 refine RH 0 ha hs hH hC λa ha=>?_
 refine SA 0 ha hs λa w ha hs=>?_
 refine RN 5 ha hs λa ha=>?_
 rw[show (bs.length:Int)-4=((bs.length-4:Nat):Int) from by omega]at ha
 refine RN 1 ha hs λa ha=>?_
 obtain⟨R1,hR1⟩:∃ R1,R1=(bs.drop 3).take (bs.length-7):=⟨_,rfl⟩
 have hl1:R1.length=bs.length-7:=by rw[hR1,List.length_take,List.length_drop];omega
 have hr1:Rdr W L (cutAd (some ⟨bb,oo,none⟩) 3 c 1) (c-3) R1:=⟨by omega,by omega,λw' hw=>by
   rw[hl1,hR1]
   exact ((hp w' hw).cutL (lo:=3) (by omega) hc).cutH (by rw[List.length_drop];omega)⟩
 have hq1:∀ q,decP bs q→(q.kind=((bs.getD 0 0).toNat:Int)∧q.from'=((bs.getD 1 0).toNat:Int)∧q.to=((bs.getD 2 0).toNat:Int))∧R1=midPk q:=λq h=>by
   rw[hR1];exact decP_head h
 rw[show bs.length-4-3=R1.length from by omega]at ha
 generalize cutAd (some ⟨bb,oo,none⟩) 3 c 1=ad1 at ha hr1
 generalize c-3=c1 at ha hr1
 generalize R1=R1 at ha hr1 hq1
 refine BX 1 ha hs λb33 a w ha hs=>?_
 refine CLX 3 ha hs (rd_num (L:=L) hs (λ_ h=>h.tail.tail) hr1) ?_
 clear ha hs
 rintro e w ⟨x1,ad2,c2,R2,z2,rfl,hx1,hr2,hq2,hs⟩
 refine⟨_,rfl,λa ha=>?_⟩
 refine ST 1 ha hs (λa w ha hs=>?_)
 refine RN 0 ha hs λa ha=>?_
 replace hq2:∀ q,decP bs q→(q.kind=((bs.getD 0 0).toNat:Int)∧q.from'=((bs.getD 1 0).toNat:Int)∧q.to=((bs.getD 2 0).toNat:Int)∧q.id=x1)∧R2=numsPk q∧z2=false:=λq h=>by
   obtain⟨h1,h2⟩:=hq1 q h
   obtain⟨e1,e2,e3⟩:=hq2 q.id (numsPk q) ⟨by have:=h.1.2.2.2.1;omega,by have:=h.1.2.2.2.1;omega⟩ (by rw[h2,midPk]) rfl
   exact⟨⟨h1.1,h1.2.1,h1.2.2,e1.symm⟩,e2,e3⟩
 refine wp_seq_cut (M:=λa w=>∃ (p:Pk) (adP:Option Addr) (cP:Nat) (ad':Option Addr) (c':Nat) (R':List UInt8) (z:Bool),p.sum<4294967296∧(∀ q,decP bs q→p=q∧z=false)∧Fr a 91 [(0,.slice (some ⟨bb,oo,none⟩) bs.length c),(2,pt b2),(4,pt b4),(5,pt b33)]∧St W w (blk b4 70 (pkC p adP cP)::Sl 5 1 adP p.press.length cP (bc p.press)::blk b33 334 [.slice ad' R'.length c',.bool z]::blk b2 70 (pkC pk0 none 0)::L)) ?_ ?_
 ·
  refine IF 4 ha hs (λhc1 a ha=>?_) λhc1 a ha=>?_
  ·
   have hn1:∀ q,decP bs q→numsPk q=putL (zz q.first)++(putL (zz q.ack)++(putL (zz q.frame)++tailPk q))∧(i64P q.first∧i64P q.ack∧i64P q.frame)∧q.press.length≤32:=λq h=>by
     have hk:=(hq2 q h).1.1
     rw[hc1]at hk
     rcases h.1.2.2.2.2 with k | k
     · obtain⟨_,k1,k2,k3,k4⟩:=k
       unfold frP at k1 k2 k3
       exact⟨by rw[numsPk,if_pos hk],⟨⟨by omega,by omega⟩,⟨by omega,by omega⟩,⟨by omega,by omega⟩⟩,k4⟩
     · omega
   refine CLX 2 ha hs (rd_num (L:=L) (hs.perm (List.Perm.swap _ _ _)) (λ_ h=>h.tail.tail) hr2) ?_
   clear ha hs
   rintro e w ⟨x2,ad3,c3,R3,z3,rfl,hx2,hr3,hq3,hs⟩
   refine⟨_,rfl,λa ha=>?_⟩
   replace hq3:∀ q,decP bs q→q.first=x2∧R3=putL (zz q.ack)++(putL (zz q.frame)++tailPk q)∧z3=false:=λq h=>by
     obtain⟨_,h2,h3⟩:=hq2 q h
     obtain⟨e1,e2,e3⟩:=hq3 q.first _ (hn1 q h).2.1.1 (by rw[h2,(hn1 q h).1]) h3
     exact⟨e1.symm,e2,e3⟩
   refine ST 1 ha hs (λa w ha hs=>?_)
   refine CLX 2 ha hs (rd_num (L:=L) (hs.perm (List.Perm.swap _ _ _)) (λ_ h=>h.tail.tail) hr3) ?_
   clear ha hs
   rintro e w ⟨x3,ad4,c4,R4,z4,rfl,hx3,hr4,hq4,hs⟩
   refine⟨_,rfl,λa ha=>?_⟩
   replace hq4:∀ q,decP bs q→q.ack=x3∧R4=putL (zz q.frame)++tailPk q∧z4=false:=λq h=>by
     obtain⟨_,h2,h3⟩:=hq3 q h
     obtain⟨e1,e2,e3⟩:=hq4 q.ack _ (hn1 q h).2.1.2.1 h2 h3
     exact⟨e1.symm,e2,e3⟩
   refine ST 1 ha hs (λa w ha hs=>?_)
   refine CLX 2 ha hs (rd_num (L:=L) (hs.perm (List.Perm.swap _ _ _)) (λ_ h=>h.tail.tail) hr4) ?_
   clear ha hs
   rintro e w ⟨x4,ad5,c5,R5,z5,rfl,hx4,hr5,hq5,hs⟩
   refine⟨_,rfl,λa ha=>?_⟩
   replace hq5:∀ q,decP bs q→q.frame=x4∧R5=fourL q.sum++(putL (zz (q.press.length:Int))++runsL q.press 0)∧z5=false:=λq h=>by
     obtain⟨_,h2,h3⟩:=hq4 q h
     obtain⟨e1,e2,e3⟩:=hq5 q.frame _ (hn1 q h).2.1.2.2 h2 h3
     exact⟨e1.symm,by rw[e2,tailPk],e3⟩
   refine ST 1 ha hs (λa w ha hs=>?_)
   refine CLX 2 ha hs (rd_four (L:=L) (hs.perm (List.Perm.swap _ _ _)) (λ_ h=>h.tail.tail) hr5) ?_
   clear ha hs
   rintro e w ⟨x5,ad6,c6,R6,z6,rfl,hx5,hr6,hq6,hs⟩
   refine⟨_,rfl,λa ha=>?_⟩
   replace hq6:∀ q,decP bs q→q.sum=x5∧R6=putL (zz (q.press.length:Int))++runsL q.press 0∧z6=false:=λq h=>by
     obtain⟨_,h2,h3⟩:=hq5 q h
     obtain⟨e1,e2,e3⟩:=hq6 q.sum _ h.2.1 h2 h3
     exact⟨e1.symm,e2,e3⟩
   refine ST 1 ha hs (λa w ha hs=>?_)
   refine CLX 2 ha hs (rd_num (L:=L) (hs.perm (List.Perm.swap _ _ _)) (λ_ h=>h.tail.tail) hr6) ?_
   clear ha hs
   rintro e w ⟨x6,ad7,c7,R7,z7,rfl,hx6,hr7,hq7,hs⟩
   refine⟨_,rfl,λa ha=>?_⟩
   replace hq7:∀ q,decP bs q→(q.press.length:Int)=x6∧R7=runsL q.press 0∧z7=false:=λq h=>by
     obtain⟨_,h2,h3⟩:=hq6 q h
     have hpl:=(hn1 q h).2.2
     obtain⟨e1,e2,e3⟩:=hq7 q.press.length _ ⟨by omega,by omega⟩ h2 h3
     exact⟨e1.symm,e2,e3⟩
   refine CLX 6 ha hs (runs_dec (m:=32) hs hr7.len hr7.cap (by omega) (λw' hw=>hr7.rd w' hw.tail.tail.tail)) ?_
   clear ha hs
   rintro e w ⟨out,adO,cO,er,rfl,hun,hs⟩
   refine⟨_,rfl,λa ha=>?_⟩
   refine BY 10 ha hs (λhg2 a ha=>?_) λhg2 a ha=>?_
   ·
    refine SA 8 ha hs λa w ha hs=>?_
    refine RT 1 ha hs ?_
    have hno:decO bs=none:=decP_bad λ⟨q,h⟩=>by
      obtain⟨_,e2,_⟩:=hq7 q h
      have:=(hun.2.2 q.press (hn1 q h).2.2 e2).2
      simp[this]at hg2
    exact⟨pk0,none,0,false,rfl,.inr ⟨rfl,hno,rfl,rfl,rfl⟩,hs.sub.sl0 _ _ _⟩
   refine IF 5 ha hs (λhc2 a ha=>?_) λhc2 a ha=>?_
   ·
    refine SA 2 ha hs λa w ha hs=>?_
    refine RT 1 ha hs ?_
    have hno:decO bs=none:=decP_bad λ⟨q,h⟩=>by
      obtain⟨e1,e2,_⟩:=hq7 q h
      have:=(hun.2.2 q.press (hn1 q h).2.2 e2).1
      rw[this]at hc2
      omega
    exact⟨pk0,none,0,false,rfl,.inr ⟨rfl,hno,rfl,rfl,rfl⟩,hs.sub.sl0 _ _ _⟩
   refine ST 2 ha hs (λa w ha hs=>?_)
   refine RN 0 ha hs λa ha=>?_
   refine⟨⟨((bs.getD 0 0).toNat:Int),((bs.getD 1 0).toNat:Int),((bs.getD 2 0).toNat:Int),x1,x2,x3,x4,x5,out⟩,adO,cO,ad7,c7,R7,z7,by assumption,λq h=>?_,ha.keep [0,2,4,5],hs⟩
   obtain⟨h1,h2,h3,h4⟩:=(hq2 q h).1
   have h5:=(hq3 q h).1
   have h6:=(hq4 q h).1
   have h7:=(hq5 q h).1
   have h8:=(hq6 q h).1
   have h9:=hq7 q h
   have h10:=(hun.2.2 q.press (hn1 q h).2.2 h9.2.1).1
   refine⟨?_,h9.2.2⟩
   rw[← h1,← h2,← h3,← h4,← h5,← h6,← h7,← h8,h10]
  refine RN 0 ha hs λa ha=>?_
  refine⟨⟨((bs.getD 0 0).toNat:Int),((bs.getD 1 0).toNat:Int),((bs.getD 2 0).toNat:Int),x1,0,0,0,0,[]⟩,none,0,ad2,c2,R2,z2,by show 0<4294967296;decide,λq h=>?_,ha.keep [0,2,4,5],(hs.sl0 5 1 none).perm (List.Perm.swap _ _ _)⟩
  obtain⟨⟨h1,h2,h3,h4⟩,_,h5⟩:=hq2 q h
  rw[← h1]at hc1
  rcases h.1.2.2.2.2 with k | k
  · exact absurd k.1 hc1
  · obtain⟨k0,k1,k2,k3,k4,k5⟩:=k
    have k4:=List.eq_nil_of_length_eq_zero k4
    refine⟨?_,h5⟩
    rw[← h1,← h2,← h3,← h4]
    cases q
    simp_all
 clear ha;(try clear hs)
 rintro a w ⟨p,adP,cP,ad8,c8,R8,z8,hsum,hq8,ha,hs⟩
 refine CL2 3 ha hs (packet_enc (p:=p) hs hsum (λw' hw=>hw.rdB adP p.press rfl rfl)) λadE cE a w ha hs=>?_
 refine BY 7 ha hs (λhg4 a ha=>?_) λhg4 a ha=>?_
 ·
  refine SA 12 ha hs λa w ha hs=>?_
  refine RT 1 ha hs ?_
  have hno:decO bs=none:=decP_bad λ⟨q,h⟩=>by
    rw[(hq8 q h).2]at hg4;cases hg4
  exact⟨pk0,none,0,false,rfl,.inr ⟨rfl,hno,rfl,rfl,rfl⟩,hs.sub.sl0 _ _ _⟩
 refine BY 4 ha hs (λhg8 a ha=>?_) λhg8 a ha=>?_
 ·
  refine SA 8 ha hs λa w ha hs=>?_
  refine RT 1 ha hs ?_
  have hno:decO bs=none:=decP_bad λ⟨q,h⟩=>by
    have hn:=(hs.rdB adE (encO p) rfl rfl).2.1 (by cases adE with
      | none=>rfl
      | some _=>cases hg8)
    rw[(hq8 q h).1,encO,if_pos h.1,encPk_len]at hn;omega
  exact⟨pk0,none,0,false,rfl,.inr ⟨rfl,hno,rfl,rfl,rfl⟩,hs.sub.sl0 _ _ _⟩
 refine CL 2 ha hs (bytes_equalS hs (hs.rdB adE (encO p) rfl rfl) (hp _ hs.tail.tail.tail.tail.tail)) λa w ha hs=>?_
 refine IF 2 ha hs (λhc3 a ha=>?_) λhc3 a ha=>?_
 ·
  refine SA 2 ha hs λa w ha hs=>?_
  refine RT 1 ha hs ?_
  have hno:decO bs=none:=decP_bad λ⟨q,h⟩=>by
    have e:encO p=bs:=by rw[(hq8 q h).1,encO,if_pos h.1];exact h.2.2
    rw[e]at hc3;simp at hc3
  exact⟨pk0,none,0,false,rfl,.inr ⟨rfl,hno,rfl,rfl,rfl⟩,hs.sub.sl0 _ _ _⟩
 refine SA 2 ha hs λa w ha hs=>?_
 refine RT 1 ha hs ?_
 exact⟨p,adP,cP,true,rfl,.inl ⟨rfl,decO_some ((decP_iff (λe=>by rw[e]at h7;simp at h7) hsum).2 (by simpa using hc3))⟩,hs.sub⟩
end
end
section
section
variable {W w:World}{L:List SP}{c:Nat}{ad:Option Addr}{g:Nat→Int}
theorem state_encode (hs:St W w L):Calls Tryz.prog 91 #[.agg (ints .i32 32 g).toArray] w λe w'=>∃ ad c,e=.returned (.slice ad 128 c)∧St W w' (Sl 5 1 ad 128 c (bc (gameB g))::L):=by
 refine EN Tryz.func91 Tryz.ntmps91 rfl rfl λa ha=>?_
 refine BX 1 ha hs λb1 a w ha hs=>?_
 refine RN 7 ha hs λa ha=>?_
 refine wp_loop_ghost (λμ a w=>∃ (i:Nat) (ad:Option Addr) (c:Nat),(μ=32-i∧i≤32)∧Fr a 16 [(3,.slice ad (gameBn g i).length c),(6,.agg (ints .i32 32 g).toArray),(7,.int .i64 i)]∧St W w (Sl 5 1 ad (gameBn g i).length c (bc (gameBn g i))::L)) (32) (⟨0,none,0,⟨rfl,by omega⟩,ha.keep [3,6,7],hs.tail.sl0 5 1 none⟩) ?_
 clear ha hs
 rintro μ a w ⟨i,ad,c,⟨rfl,hi⟩,ha,hs⟩
 refine IF 3 ha hs (λhc0 a ha=>?_) λhc0 a ha=>?_
 ·
  have hi32:i<32:=by omega
  have hgl:=gameBn_len g i
  refine RN 2 ha hs λa ha=>?_
  refine SS ha (ex_index1 ha Tryz.underlying116 Tryz.underlying21 rfl Ty.t21 (by omega) (ints_get g hi32)) λa ha=>?_
  refine CL1 3 ha hs (word_put hs) λad2 a w ha hs=>?_
  refine RN 0 ha hs λa ha=>?_
  refine st_appendT ha rfl hs Tryz.underlying22 Ty.t5 rfl rfl (by decide) (λh0=>(hs.rdB ad2 (fourL (unI (g i))) rfl rfl).get h0) (by rw[bc_len];rfl) (bc_one _) (by rw[fourL_len];omega) λad13 c13 a w ha hs=>?_
  rw[← bc_app,← gameBn_succ]at hs
  rw[show (gameBn g i).length+(fourL (unI (g i))).length=(gameBn g (i+1)).length from by rw[gameBn_len,gameBn_len,fourL_len];omega]at ha hs
  refine RN 3 ha hs λa ha=>?_
  exact⟨32-(i+1),by omega,i+1,_,_,⟨rfl,by omega⟩,ha.keep [3,6,7],hs.sub⟩
 obtain rfl:i=32:=by omega
 rw[show (gameBn g 32).length=128 from gameBn_len g 32]at ha hs
 refine RT 3 ha hs ?_
 exact⟨_,_,rfl,hs⟩
theorem state_sum (hs:St W w L):Calls Tryz.prog 175 #[.agg (ints .i32 32 g).toArray] w λe w'=>e=.returned (.int .u32 (crcSum (gameB g)))∧St W w' L:=by
 refine EN Tryz.func175 Tryz.ntmps175 rfl rfl λa ha=>?_
 refine BX 1 ha hs λb1 a w ha hs=>?_
 refine CL2 3 ha hs (state_encode hs) λad c a w ha hs=>?_
 rw[show 128=(gameB g).length from (gameB_len g).symm]at ha hs
 refine CL 0 ha hs (crc_sum hs (by rw[gameB_len];decide) (λw' hw=>hw.rdB ad (gameB g) rfl rfl)) λa w ha hs=>?_
 refine RT 1 ha hs ?_
 exact⟨rfl,hs.sub⟩
theorem refBytes_spec (hs:St W w L):Calls Tryz.prog 136 #[.agg (ints .i32 32 g).toArray] w λe w'=>∃ ad c,e=.returned (.slice ad 128 c)∧St W w' (Sl 5 1 ad 128 c (bc (gameB g))::L):=by
 refine EN Tryz.func136 Tryz.ntmps136 rfl rfl λa ha=>?_
 refine BX 1 ha hs λb1 a w ha hs=>?_
 refine RN 6 ha hs λa ha=>?_
 refine wp_loop_ghost (λμ a w=>∃ (i:Nat) (ad:Option Addr) (c:Nat),(μ=32-i∧i≤32)∧Fr a 17 [(1,pt b1),(3,.slice ad (gameBn g i).length c),(4,.int .i64 i)]∧St W w (Sl 5 1 ad (gameBn g i).length c (bc (gameBn g i))::blk b1 63 (ints .i32 32 g)::L)) (32) (⟨0,none,0,⟨rfl,by omega⟩,ha.keep [1,3,4],hs.sl0 5 1 none⟩) ?_
 clear ha hs
 rintro μ a w ⟨i,ad,c,⟨rfl,hi⟩,ha,hs⟩
 refine IF 4 ha hs (λhc0 a ha=>?_) λhc0 a ha=>?_
 ·
  have hi32:i<32:=by omega
  have hgl:=gameBn_len g i
  refine RN 4 ha hs λa ha=>?_
  refine SS ha (ld1 ha (hs.rd1 (b:=b1) (ints_get g hi32))) λa ha=>?_
  refine RN 0 ha hs λa ha=>?_
  refine SS ha (ex_convII ha Tryz.underlying21 Tryz.underlying68) λa ha=>?_
  rw[wrap_un]at ha
  refine CL1 0 ha hs (refFour_spec hs) λad2 a w ha hs=>?_
  refine RN 0 ha hs λa ha=>?_
  refine st_appendT ha rfl hs Tryz.underlying22 Ty.t5 rfl rfl (by decide) (λh0=>(hs.rdB ad2 (fourL (unI (g i))) rfl rfl).get h0) (by rw[bc_len];rfl) (bc_one _) (by rw[fourL_len];omega) λad15 c15 a w ha hs=>?_
  rw[← bc_app,← gameBn_succ]at hs
  rw[show (gameBn g i).length+(fourL (unI (g i))).length=(gameBn g (i+1)).length from by rw[gameBn_len,gameBn_len,fourL_len];omega]at ha hs
  refine RN 4 ha hs λa ha=>?_
  exact⟨32-(i+1),by omega,i+1,_,_,⟨rfl,by omega⟩,ha.keep [1,3,4],hs.sub⟩
 obtain rfl:i=32:=by omega
 rw[show (gameBn g 32).length=128 from gameBn_len g 32]at ha hs
 refine RT 3 ha hs ?_
 exact⟨_,_,rfl,(hs.perm (List.Perm.swap _ _ _)).tail⟩
theorem refSumOf_spec (hs:St W w L):Calls Tryz.prog 135 #[.agg (ints .i32 32 g).toArray] w λe w'=>e=.returned (.int .u32 (crcSum (gameB g)))∧St W w' L:=by
 refine EN Tryz.func135 Tryz.ntmps135 rfl rfl λa ha=>?_
 refine BX 1 ha hs λb1 a w ha hs=>?_
 refine CL2 3 ha hs (refBytes_spec hs) λad c a w ha hs=>?_
 rw[show 128=(gameB g).length from (gameB_len g).symm]at ha hs
 refine CL 0 ha hs (refSum_spec hs (by rw[gameB_len];decide) (λw' hw=>hw.rdB ad (gameB g) rfl rfl)) λa w ha hs=>?_
 refine RT 1 ha hs ?_
 exact⟨rfl,hs.sub⟩
end
end
section
def putLn (l:List UInt8)(f:Nat)(b:List UInt8):List UInt8:=if l.length<f then l else l++(b.drop (l.length-f)).take (1000-l.length)
theorem putLn_len {l:List UInt8}{f:Nat}{b:List UInt8}(h:l.length≤1000):l.length≤(putLn l f b).length∧(putLn l f b).length≤1000:=by
 unfold putLn
 split
 · omega
 · rw[List.length_append,List.length_take];omega
theorem putLn_add {l b:List UInt8}{f i:Nat}(hf:f≤l.length)(hi:i<b.length)(h1:l.length-f≤i)(h2:l.length+(i-(l.length-f))<1000) :
   l++(b.drop (l.length-f)).take (i+1-(l.length-f))=(l++(b.drop (l.length-f)).take (i-(l.length-f)))++[b[i]]:=by
 rw[show i+1-(l.length-f)=(i-(l.length-f))+1 from by omega,List.append_assoc]
 congr 1
 rw[List.take_succ_eq_append_getElem (by rw[List.length_drop];omega)]
 congr 2
 rw[List.getElem_drop]
 congr 1
 omega
def frontN (ls:List (List UInt8)):Nat→Nat
 | 0=>(ls.headD []).length
 | i+1=>min (frontN ls i) (ls.getD i []).length
def frontL (ls:List (List UInt8)):Nat:=frontN ls ls.length
theorem frontN_one (ls:List (List UInt8)):frontN ls 1=frontN ls 0:=by
 rw[frontN,frontN]
 cases ls <;> simp[frontN]
theorem frontN_le {ls:List (List UInt8)}:∀ {i j:Nat},j<i→frontN ls i≤(ls.getD j []).length
 | 0,_,h=>absurd h (by omega)
 | i+1,j,h=>by
   rw[frontN]
   by_cases hj:j=i
   · subst hj;exact Nat.min_le_right _ _
   · exact Nat.le_trans (Nat.min_le_left _ _) (frontN_le (by omega))
theorem frontL_le {ls:List (List UInt8)}{l:List UInt8}(h:l∈ls):frontL ls≤l.length:=by
 obtain⟨i,hi,rfl⟩:=List.getElem_of_mem h
 have:=frontN_le (ls:=ls) (i:=ls.length) hi
 rwa [List.getD_eq_getElem?_getD,List.getElem?_eq_getElem hi]at this
theorem frontN_some (ls:List (List UInt8)):∀ i,i≤ls.length→ls≠[]→∃ l∈ls,frontN ls i=l.length
 | 0,_,h=>by
   cases ls with
   | nil=>exact absurd rfl h
   | cons a r=>exact⟨a,by simp,rfl⟩
 | i+1,hi,h=>by
   obtain⟨l,hl,e⟩:=frontN_some ls i (by omega) h
   rw[frontN]
   rcases Nat.le_total (frontN ls i) (ls.getD i []).length with h1 | h1
   · rw[Nat.min_eq_left h1];exact⟨l,hl,e⟩
   · rw[Nat.min_eq_right h1,List.getD_eq_getElem?_getD,List.getElem?_eq_getElem (by omega)]
     exact⟨ls[i],List.getElem_mem _,rfl⟩
theorem frontL_some {ls:List (List UInt8)}(h:ls≠[]):∃ l∈ls,frontL ls=l.length:=frontN_some ls _ (Nat.le_refl _) h
theorem frontL_ge {ls:List (List UInt8)}{n:Nat}(h:ls≠[])(hn:∀ l∈ls,n≤l.length):n≤frontL ls:=by
 obtain⟨l,hl,e⟩:=frontL_some h
 rw[e];exact hn l hl
def jointN (ls:List (List UInt8))(f i:Nat):List UInt8:=(ls.take i).map (·.getD f 0)
def jointL (ls:List (List UInt8))(f:Nat):List UInt8:=ls.map (·.getD f 0)
theorem jointN_all (ls:List (List UInt8))(f:Nat):jointN ls f ls.length=jointL ls f:=by rw[jointN,List.take_length,jointL]
theorem jointN_succ {ls:List (List UInt8)}{f i:Nat}(h:i<ls.length):jointN ls f (i+1)=jointN ls f i++[ls[i].getD f 0]:=by
 rw[jointN,List.take_succ_eq_append_getElem h,List.map_append];rfl
theorem jointN_len {ls:List (List UInt8)}{f i:Nat}(h:i≤ls.length):(jointN ls f i).length=i:=by
 rw[jointN,List.length_map,List.length_take];omega
theorem jointL_len (ls:List (List UInt8))(f:Nat):(jointL ls f).length=ls.length:=by rw[jointL,List.length_map]
structure Gs where
 kind:Int
 order:Int
 table:List UInt8
def mayGs (b:Gs):Prop:=(b.kind=1∧b.order=0∧b.table.length=0)∨(b.kind=2∧0≤b.order∧b.order≤3∧b.table.length=0)∨(b.kind=3∧b.order=0∧1≤b.table.length∧b.table.length≤1000)
instance (b:Gs):Decidable (mayGs b):=inferInstanceAs (Decidable (_∨_))
def endsB (o:Nat)(past:List UInt8)(i:Nat):Bool:=(past.drop (i-o)).take o==past.drop (past.length-o)
def wtN (o:Nat)(past:List UInt8):Nat→Nat→Int
 | 0=>λ_=>0
 | i+1=>if o≤i∧endsB o past i=true then upd (wtN o past i) (past.getD i 0).toNat (wtN o past i (past.getD i 0).toNat+1) else wtN o past i
theorem wtN_low {o:Nat}{past:List UInt8}:∀ {i:Nat},i≤o→wtN o past i=λ_=>0
 | 0,_=>rfl
 | i+1,h=>by rw[wtN,if_neg (by omega),wtN_low (by omega)]
theorem wtN_bd (o:Nat)(past:List UInt8):∀ (i v:Nat),0≤wtN o past i v∧wtN o past i v≤i
 | 0,v=>⟨Int.le_refl _,Int.le_refl _⟩
 | i+1,v=>by
   have h:=wtN_bd o past i v
   have h2:=wtN_bd o past i (past.getD i 0).toNat
   rw[wtN]
   split
   · unfold upd
     split <;> omega
   · omega
def wtL (b:Gs)(past:List UInt8):Nat→Int:=if b.kind=2 then wtN b.order.toNat past past.length else λ_=>0
def lastB (past:List UInt8):UInt8:=past.getLastD 0
def bestN (w:Nat→Int)(last:Nat):Nat→Nat
 | 0=>last
 | i+1=>if w (bestN w last i)<w i then i else bestN w last i
theorem bestN_lt {w:Nat→Int}{last:Nat}(hl:last<256):∀ {i:Nat},i≤256→bestN w last i<256
 | 0,_=>hl
 | i+1,h=>by
   rw[bestN]
   split
   · omega
   · exact bestN_lt hl (by omega)
theorem bestN_last {w:Nat→Int}{last:Nat}:∀ {i:Nat},(∀ v,v<i→w v≤w last)→bestN w last i=last
 | 0,_=>rfl
 | i+1,h=>by
   have ih:=bestN_last (i:=i) λv hv=>h v (by omega)
   rw[bestN,ih,if_neg]
   have:=h i (by omega)
   omega
theorem bestN_of {w:Nat→Int}{last x:Nat}(h0:w last<w x)(h1:∀ v,v<x→w v<w x):∀ {i:Nat},(∀ v,v<i→w v≤w x)→(i≤x→w (bestN w last i)<w x)∧(x<i→bestN w last i=x)
 | 0,_=>⟨λ_=>h0,λh=>absurd h (by omega)⟩
 | i+1,h=>by
   have ih:=bestN_of h0 h1 (i:=i) λv hv=>h v (by omega)
   rw[bestN]
   refine⟨λhi=>?_,λhi=>?_⟩
   · have:=ih.1 (by omega)
     have:=h1 i (by omega)
     split <;> assumption
   · by_cases hx:x=i
     · subst hx
       rw[if_pos (ih.1 (by omega))]
     · rw[ih.2 (by omega),if_neg]
       have:=h i (by omega)
       omega
def firstB (b:Gs)(past:List UInt8):UInt8:=if b.kind=3 then b.table.getD (past.length%b.table.length) 0 else UInt8.ofNat (bestN (wtL b past) (lastB past).toNat 256)
def chainN (b:Gs)(past:List UInt8):Nat→List UInt8
 | 0=>past
 | i+1=>chainN b past i++[firstB b (chainN b past i)]
theorem chainN_len (b:Gs)(past:List UInt8):∀ i,(chainN b past i).length=past.length+i
 | 0=>rfl
 | i+1=>by rw[chainN,List.length_append,chainN_len b past i];rfl
theorem chainN_take (b:Gs)(past:List UInt8):∀ i,(chainN b past i).take past.length=past
 | 0=>List.take_length
 | i+1=>by
   rw[chainN,List.take_append_of_le_length (by rw[chainN_len];omega),chainN_take b past i]
def chainB (b:Gs)(past:List UInt8)(n:Nat):List UInt8:=(chainN b past n).drop past.length
theorem chainB_len (b:Gs)(past:List UInt8)(n:Nat):(chainB b past n).length=n:=by rw[chainB,List.length_drop,chainN_len];omega
theorem chain_all (b:Gs)(past:List UInt8)(n:Nat):past++chainB b past n=chainN b past n:=by
 conv=>lhs;lhs;rw[← chainN_take b past n]
 rw[chainB,List.take_append_drop]
theorem chainB_succ (b:Gs)(past:List UInt8)(n:Nat):chainB b past (n+1)=chainB b past n++[firstB b (past++chainB b past n)]:=by
 rw[chain_all,chainB,chainN,List.drop_append_of_le_length (by rw[chainN_len];omega)];rfl
def fullB (b:Gs)(past:List UInt8)(to:Nat):List UInt8:=chainN b past (to-past.length)
def fullL (b:Gs)(ls:List (List UInt8))(to:Nat):List (List UInt8):=ls.map λl=>fullB b l to
theorem fullB_len (b:Gs)(past:List UInt8)(to:Nat):to≤(fullB b past to).length:=by rw[fullB,chainN_len];omega
def aheadL (b:Gs)(ls:List (List UInt8))(to:Nat):List (List UInt8):=(List.range (to-frontL ls)).map λi=>jointL (fullL b ls to) (frontL ls+i)
theorem aheadL_len (b:Gs)(ls:List (List UInt8))(to:Nat):(aheadL b ls to).length=to-frontL ls:=by simp[aheadL]
end
section
abbrev Lx:=Nat×List UInt8
def Ln (x:Lx):SP:=λh=>∃ (ad:Option Addr) (c:Nat),sepL [blk x.1 296 [.slice ad x.2.length c],Sl 5 1 ad x.2.length c (bc x.2)] h
section
variable {W w:World}{L L' R:List SP}{n c m lb:Nat}{ad:Option Addr}{l bs:List UInt8}{x:UInt8}
theorem Ln.open (hs:St W w (Ln (lb,l)::L)):∃ (ad:Option Addr) (c:Nat),St W w (blk lb 296 [.slice ad l.length c]::Sl 5 1 ad l.length c (bc l)::L):=by
 obtain⟨ad,_,hs⟩:=hs.exi (p:=λ_=>True) (B:=λad h=>∃ c,sepL [blk lb 296 [.slice ad l.length c],Sl 5 1 ad l.length c (bc l)] h) λ_ ⟨ad,c,h⟩=>⟨ad,trivial,c,h⟩
 obtain⟨c,_,hs⟩:=hs.exi (p:=λ_=>True) (B:=λc h=>sepL [blk lb 296 [.slice ad l.length c],Sl 5 1 ad l.length c (bc l)] h) λ_ ⟨c,h⟩=>⟨c,trivial,h⟩
 exact⟨ad,c,hs.open (M:=[_,_]) λ_ h=>h⟩
theorem Ln.close (hs:St W w (blk lb 296 [.slice ad l.length c]::Sl 5 1 ad l.length c (bc l)::L)):St W w (Ln (lb,l)::L) :=
 St.shut (M:=[_,_]) hs λ_ h=>⟨ad,c,h⟩
theorem Ln.mk' (hs:St W w L)(ad:Option Addr)(c:Nat)[k:Arr L (blk lb 296 [.slice ad l.length c]::Sl 5 1 ad l.length c (bc l)::L') R]:St W w (Ln (lb,l)::L'):=Ln.close (ad:=ad) (c:=c) hs.sub
theorem made8 (d:Nat):(madeCells (Value.int .u8 0).cells (d*1)).toList=bc (List.replicate d 0):=by
 apply List.ext_getElem?
 intro i
 by_cases h:i<d
 · rw[bc_at (by simpa using h)]
   rw[madeCells,Array.getElem?_toList,Array.getElem?_map,Array.getElem?_range]
   simp[h,Value.cells,Nat.mod_one]
 · rw[List.getElem?_eq_none (by simp[madeCells];omega),List.getElem?_eq_none (by rw[bc_len];simp;omega)]
theorem St.slWhole {b e sz m:Nat}{cs:List Value}(hs:St W w (blk b e cs::L))(h:cs.length=m*sz):St W w (Sl e sz (some ⟨b,0,none⟩) m m cs::L) :=
 St.slShut (pre:=[]) (post:=[]) (n:=m) (c:=m) (sz:=sz) (cs:=cs) (by simpa using hs) h (Nat.le_refl _) (by rw[Nat.sub_self,Nat.zero_mul];exact Nat.zero_le _)
theorem RdB.cutLH {w:World}{ad:Option Addr}{bs:List UInt8}{c lo n:Nat}(h:RdB w ad bs.length bs)(hl:lo+n≤bs.length)(hc:bs.length≤c):RdB w (cutAd ad lo c 1) n ((bs.drop lo).take n) :=
 (h.cutL (lo:=lo) (by omega) hc).cutH (by rw[List.length_drop];omega)
theorem line_new {d:Nat}(hs:St W w L)(hd:d≤8):Calls Tryz.prog 221 #[.int .i64 d] w λe w'=>∃ lb,e=.returned (pt lb)∧St W w' (Ln (lb,List.replicate d 0)::L):=by
 refine EN Tryz.func221 Tryz.ntmps221 rfl rfl λa ha=>?_
 refine RN 6 ha hs λa ha=>?_
 rw[show min (max (d:Int) 0) 8=(d:Int) from by omega]at ha
 refine st_makeSlice ha rfl hs Tryz.underlying22 Ty.t5 rfl (by omega) (by omega) λb6 a w ha hs ho=>?_
 clear ho
 rw[made8]at hs
 replace hs:=hs.slWhole (m:=d) (sz:=1) (by rw[bc_len,List.length_replicate,Nat.mul_one])
 refine BX 1 ha hs λb8 a w ha hs=>?_
 refine RN 1 ha hs λa ha=>?_
 replace hs:St W w (blk b8 296 [.slice (some ⟨b6,0,none⟩) (List.replicate d (0:UInt8)).length d]::Sl 5 1 (some ⟨b6,0,none⟩) (List.replicate d (0:UInt8)).length d (bc (List.replicate d 0))::L):=by
   rw[List.length_replicate];exact hs
 refine RT 0 ha hs ?_
 exact⟨b8,rfl,Ln.close hs⟩
theorem line_len (hs:St W w (Ln (lb,l)::L)):Calls Tryz.prog 148 #[pt lb] w λe w'=>e=.returned (.int .i64 l.length)∧St W w' (Ln (lb,l)::L):=by
 obtain⟨ad,c,hs⟩:=Ln.open hs
 refine EN Tryz.func148 Tryz.ntmps148 rfl rfl λa ha=>?_
 refine RN 6 ha hs λa ha=>?_
 replace ha:=ha.isF 4
 refine RT 8 ha hs ?_
 exact⟨rfl,Ln.close hs⟩
theorem line_at {f:Nat}(hs:St W w (Ln (lb,l)::L)):Calls Tryz.prog 183 #[pt lb,.int .i64 f] w λe w'=>e=.returned (.tuple #[.int .u8 ((l.getD f 0).toNat:Nat),.bool (decide (f<l.length))])∧St W w' (Ln (lb,l)::L):=by
 refine EN Tryz.func183 Tryz.ntmps183 rfl rfl λa ha=>?_
 refine RN 8 ha hs λa ha=>?_
 rw[decide_eq_false (by omega)]at ha
 refine CL 2 ha hs (line_len hs) λa w ha hs=>?_
 refine IF 2 ha hs (λhc0 a ha=>?_) λhc0 a ha=>?_
 ·
  refine RT 3 ha hs ?_
  exact⟨by rw[List.getD_eq_getElem?_getD,List.getElem?_eq_none (by omega),decide_eq_false (by omega)];rfl,hs⟩
 obtain⟨ad,c,hs⟩:=Ln.open hs
 have hfl:f<l.length:=by omega
 obtain⟨b,o,rfl,hr⟩:=(hs.rdB ad l rfl rfl).get (by omega)
 refine RN 7 ha hs λa ha=>?_
 refine SS ha (ld1 ha (hr f _ (bc_atD hfl))) λa ha=>?_
 refine RT 2 ha hs ?_
 exact⟨by rw[decide_eq_true hfl],Ln.close hs⟩
theorem line_add (hs:St W w (Ln (lb,l)::L))(hl:l.length≤1000):Calls Tryz.prog 177 #[pt lb,.int .u8 (x.toNat:Nat)] w λe w'=>e=.returned (.int .i64 (if l.length<1000 then 0 else 4))∧St W w' (Ln (lb,if l.length<1000 then l++[x] else l)::L):=by
 obtain⟨ad,c,hs⟩:=Ln.open hs
 refine EN Tryz.func177 Tryz.ntmps177 rfl rfl λa ha=>?_
 refine RN 7 ha hs λa ha=>?_
 replace ha:=ha.isF 5
 refine IF 9 ha hs (λhc1 a ha=>?_) λhc1 a ha=>?_
 ·
  refine RT 2 ha hs ?_
  exact⟨by rw[if_neg (by omega)],by rw[if_neg (by omega)];exact Ln.close hs⟩
 refine RN 7 ha hs λa ha=>?_
 refine st_buildSlice ha rfl hs Tryz.underlying22 Ty.t5 rfl rfl rfl rfl (by decide) (by decide) λb21 a w ha hs ho=>?_
 clear ho
 refine RN 0 ha hs λa ha=>?_
 refine st_append ha rfl hs Tryz.underlying22 Ty.t5 rfl rfl hs.rdAll rfl (bc_one [x]) (by decide) (by decide) (by omega) λad22 c22 a w ha hs=>?_
 rw[show bc l++_=bc (l++[x]) from (bc_app l [x]).symm]at hs
 refine ST 2 ha hs (λa w ha hs=>?_)
 refine RN 0 ha hs λa ha=>?_
 rw[show l.length+1=(l++[x]).length from by simp]at hs
 replace hs:=hs.sub (M:=blk lb 296 [.slice ad22 (l++[x]).length c22]::Sl 5 1 ad22 (l++[x]).length c22 (bc (l++[x]))::L)
 refine RT 2 ha hs ?_
 exact⟨by rw[if_pos (by omega)],by rw[if_pos (by omega)];exact Ln.close hs⟩
theorem line_put {f:Nat}(hs:St W w (Ln (lb,l)::L))(hl:l.length≤1000)(hb:bs.length≤65536)(hp:∀ w',St W w' L→RdB w' ad bs.length bs) :
   Calls Tryz.prog 205 #[pt lb,.int .i64 f,.slice ad bs.length c] w λe w'=>∃ n er:Int,e=.returned (.tuple #[.int .i64 n,.int .i64 er])∧St W w' (Ln (lb,putLn l f bs)::L):=by
 refine EN Tryz.func205 Tryz.ntmps205 rfl rfl λa ha=>?_
 refine RN 8 ha hs λa ha=>?_
 replace ha:=ha.isF 11
 refine RN 5 ha hs λa ha=>?_
 rw[decide_eq_false (by omega)]at ha
 refine RN 2 ha hs λa ha=>?_
 obtain⟨adl,cl,hs⟩:=Ln.open hs
 refine IF 8 ha hs (λhc2 a ha=>?_) λhc2 a ha=>?_
 ·
  replace hs:=Ln.close hs
  refine RT 3 ha hs ?_
  exact⟨_,_,rfl,by rw[putLn,if_pos (by omega)];exact hs⟩
 refine RN 11 ha hs λa ha=>?_
 rw[show ((l.length:Nat):Int)-(f:Int)=((l.length-f:Nat):Int) from by omega]at ha
 refine RN 1 ha hs λa ha=>?_
 replace hs:=Ln.close hs
 have hfl:f≤l.length:=by omega
 refine wp_loop_ghost (λμ a w=>∃ (i:Nat),(μ=bs.length-i∧l.length-f≤i∧(i≤bs.length∨i=l.length-f)∧l.length+(i-(l.length-f))≤1000)∧Fr a 51 [(0,pt lb),(2,.slice ad bs.length c),(8,.int .i64 (i-(l.length-f):Nat)),(9,.int .i64 i)]∧St W w (Ln (lb,l++(bs.drop (l.length-f)).take (i-(l.length-f)))::L)) (bs.length-(l.length-f)) (⟨l.length-f,⟨rfl,Nat.le_refl _,.inr rfl,by omega⟩,by rw[Nat.sub_self];exact ha.keep [0,2,8,9],by rw[Nat.sub_self,List.take_zero,List.append_nil];exact hs⟩) ?_
 clear ha hs
 rintro μ a w ⟨i,⟨rfl,hi,hib,hi1⟩,ha,hs⟩
 refine IF 6 ha hs (λhc3 a ha=>?_) λhc3 a ha=>?_
 ·
  obtain⟨bb,oo,rfl,hr⟩:=(hp _ hs.tail).get (by omega)
  have hil:i<bs.length:=by omega
  have hlen:(l++(bs.drop (l.length-f)).take (i-(l.length-f))).length=l.length+(i-(l.length-f)):=by rw[List.length_append,List.length_take,List.length_drop];omega
  refine RN 7 ha hs λa ha=>?_
  refine SS ha (ld1 ha (hr i _ (bc_at hil))) λa ha=>?_
  refine CL 0 ha hs (line_add hs (by rw[hlen];omega)) λa w ha hs=>?_
  rw[hlen]at ha hs
  refine IF 4 ha hs (λhc4 a ha=>?_) λhc4 a ha=>?_
  ·
   have h9:¬ l.length+(i-(l.length-f))<1000:=λh=>hc4 (if_pos h)
   rw[if_neg h9]at hs
   refine RT 5 ha hs ?_
   exact⟨_,_,rfl,by rw[putLn,if_neg (by omega),show 1000-l.length=i-(l.length-f) from by omega];exact hs⟩
  have h9:l.length+(i-(l.length-f))<1000:=Decidable.of_not_not λh=>by rw[if_neg h]at hc4;cases hc4
  rw[if_pos h9]at hs
  refine RN 6 ha hs λa ha=>?_
  exact⟨bs.length-(i+1),by omega,i+1,⟨rfl,by omega,by omega,by omega⟩,by rw[show ((i+1-(l.length-f):Nat):Int)=((i-(l.length-f):Nat):Int)+1 from by omega];exact ha.keep [0,2,8,9],by rw[putLn_add hfl hil hi h9];exact hs⟩
 refine RT 4 ha hs ?_
 exact⟨_,_,rfl,by rw[putLn,if_neg (by omega),List.take_of_length_le (by rw[List.length_drop];omega)];rw[List.take_of_length_le (by rw[List.length_drop];omega)]at hs;exact hs⟩
theorem line_from {f k:Nat}(hs:St W w (Ln (lb,l)::L))(hl:l.length≤1000)(hf:f≤1000)(hk:1≤k∧k≤1000) :
   Calls Tryz.prog 207 #[pt lb,.int .i64 f,.int .i64 k] w λe w'=>∃ ad' c',e=.returned (.slice ad' ((l.drop f).take k).length c')∧St W w' (Sl 5 1 ad' ((l.drop f).take k).length c' (bc ((l.drop f).take k))::Ln (lb,l)::L):=by
 have htl:((l.drop f).take k).length=min l.length (f+k)-f:=by rw[List.length_take,List.length_drop];omega
 refine EN Tryz.func207 Tryz.ntmps207 rfl rfl λa ha=>?_
 refine RN 7 ha hs λa ha=>?_
 rw[decide_eq_false (by omega)]at ha
 refine CL 2 ha hs (line_len hs) λa w ha hs=>?_
 refine BY 3 ha hs (λhg8 a ha=>?_) λhg8 a ha=>?_
 ·
  have hz:(l.drop f).take k=[]:=by rw[List.drop_eq_nil_of_le (by omega),List.take_nil]
  refine RT 6 ha hs ?_
  rw[hz];exact⟨_,_,rfl,hs.sl0 _ _ none⟩
 refine RN 3 ha hs λa ha=>?_
 rw[decide_eq_false (by omega)]at ha
 refine RN 2 ha hs λa ha=>?_
 obtain⟨adl,cl,hs⟩:=Ln.open hs
 have hcl:=(hs.sl adl).2
 refine DWO 0 [8,9,14] [0,1,2,4,5,6,7,10,11,12,13,3003,1008,1009,1014,15,1016,17] ha hs λa w ha hs hH hC=>?_
 refine RH 10 ha hs hH hC λa ha=>?_
 rw[show min (k:Int) 1000=(k:Int) from by omega]at ha
 refine RH 5 ha hs hH hC λa ha=>?_
 rw[show min (l.length:Int) ((f:Int)+(k:Int))=((min l.length (f+k):Nat):Int) from by omega]at ha
 refine RH 1 ha hs hH hC λa ha=>?_
 refine CL2 0 ha hs (bytes_clone (bs:=(l.drop f).take k) hs (λw' hw=>by have h1:=(hw.rdB adl l rfl rfl).cutLH (c:=cl) (lo:=f) (n:=min l.length (f+k)-f) (by omega) hcl;rw[show (l.drop f).take (min l.length (f+k)-f)=(l.drop f).take k from by rw[← htl,List.take_eq_take_iff,List.length_take,List.length_drop];omega]at h1;exact h1) (by omega)) λad3 c3 a w ha hs=>?_
 refine RN 1 ha hs λa ha=>?_
 refine RT 0 ha hs ?_
 exact⟨ad3,c3,by rw[htl],by rw[htl];exact (Ln.mk' (L':=Sl 5 1 ad3 (min l.length (f+k)-f) c3 (bc ((l.drop f).take k))::L) hs adl cl).perm (List.Perm.swap _ _ _)⟩
theorem line_all (hs:St W w (Ln (lb,l)::L))(hl:l.length≤1000) :
   Calls Tryz.prog 150 #[pt lb] w λe w'=>∃ ad' c',e=.returned (.slice ad' l.length c')∧St W w' (Sl 5 1 ad' l.length c' (bc l)::Ln (lb,l)::L):=by
 have hta:(l.drop 0).take 1000=l:=by rw[List.drop_zero,List.take_of_length_le hl]
 refine EN Tryz.func150 Tryz.ntmps150 rfl rfl λa ha=>?_
 refine CL2 4 ha hs (line_from (f:=0) (k:=1000) hs hl (by decide) (by decide)) λad3 c3 a w ha hs=>?_
 rw[hta]at ha hs
 refine RT 1 ha hs ?_
 exact⟨_,_,rfl,hs⟩
end
end
end Go.Proofs.YtdilfdkendjjhaaGreat
