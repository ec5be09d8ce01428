/- Presses in runs: runs.Encode, runs.Decode, quintainref12.Runs, Unruns. -/
import Derived.Test.YtdilfdkendjjhaaGreatA18PktP
namespace Go.Proofs.YtdilfdkendjjhaaGreat
open Go.RowKit
set_option linter.unusedVariables false
set_option linter.unusedSimpArgs false
set_option maxRecDepth 10000
set_option synthInstance.maxSize 4000
set_option synthInstance.maxHeartbeats 400000
section
theorem putz_len {n:Int}(h1:-9223372036854775808≤n)(h2:n≤9223372036854775807):(putL (zz n)).length≤10:=putL_len 9 _ (by
 have:=zz_lt h1 h2
 have h10:(128:Nat) ^ (9+1)=1180591620717411303424:=by decide
 omega)
theorem bc_snoc {l:List UInt8}{x:UInt8}:bc l++[[Value.int .u8 (x.toNat:Int)]].flatten=bc (l++[x]):=by simp[bc]
structure Same (bs:List UInt8)(i e:Nat):Prop where
 lt:i<e
 le:e≤bs.length
 same:∀ (j:Nat) (h:j<bs.length),i≤j→j<e→bs[j]=bs[i]'(by omega)
theorem Same.one {bs:List UInt8}{i:Nat}(h:i<bs.length):Same bs i (i+1):=⟨by omega,by omega,λj hj h1 h2=>by
 have:j=i:=by omega
 subst this;rfl⟩
theorem Same.more {bs:List UInt8}{i e:Nat}(h:Same bs i e)(he:e<bs.length)(hb:bs[e]'he=bs[i]'(by have:=h.lt;omega)):Same bs i (e+1):=⟨by have:=h.lt;omega,by omega,λj hj h1 h2=>by
 by_cases hje:j=e
 · subst hje;exact hb
 · exact h.same j hj h1 (by omega)⟩
theorem Same.runs {bs:List UInt8}{i e:Nat}(h:Same bs i e)(hi:i<bs.length)(hn:∀ he:e<bs.length,bs[e]≠bs[i])(last:UInt8) :
   runsL (bs.drop i) last=putL (zz ((e-i:Nat):Int))++(bs[i] ^^^ last)::runsL (bs.drop e) bs[i]:=by
 have h1:=h.lt
 have h2:=h.le
 have hr:runN bs[i] (bs.drop (i+1))=e-i-1:=by
   refine runN_eq (λj hj=>?_) ?_
   · rw[List.getElem?_drop,List.getElem?_eq_getElem (by omega),h.same (i+1+j) (by omega) (by omega) (by omega)]
   · rw[List.getElem?_drop,show i+1+(e-i-1)=e from by omega]
     rcases Nat.lt_or_ge e bs.length with he | he
     · rw[List.getElem?_eq_getElem he]
       exact λhx=>hn he (Option.some.inj hx)
     · rw[List.getElem?_eq_none he];simp
 rw[List.drop_eq_getElem_cons hi,runsL_cons,hr,List.drop_drop,show i+1+(e-i-1)=e from by omega,show e-i-1+1=e-i from by omega]
theorem bc_atD {bs:List UInt8}{i:Nat}(h:i<bs.length):(bc bs)[i]?=some (.int .u8 ((bs.getD i 0).toNat:Int)):=by rw[bc_at h,List.getD_eq_getElem?_getD,List.getElem?_eq_getElem h];rfl
theorem RunsAt.get {p dn rest:List UInt8}{last:UInt8}{x:Int}{k:Nat}{er:Int}(h:RunsAt p dn last rest)(hp:p.length≤1000000)(h0:rest≠[])(hg:GetR rest x k er) :
   er=0∧1≤x∧k<rest.length∧(dn≠[]→(rest.getD k 0).toNat≠0)∧(dn.length:Int)+x≤p.length∧RunsAt p (dn++List.replicate x.toNat (last ^^^ rest.getD k 0)) (last ^^^ rest.getD k 0) (rest.drop (k+1)):=by
 obtain⟨m,y,r,e1,e2,e3,e4⟩:=h.next h0
 obtain⟨rfl,rfl,rfl⟩:=hg.2.2.2.2 ((m+1:Nat):Int) _ (by omega) (by omega) e1
 have hk:rest.getD (putL (zz ((m+1:Nat):Int))).length 0=y ^^^ last:=by rw[e1,List.getD_eq_getElem?_getD,List.getElem?_append_right (Nat.le_refl _)];simp
 refine⟨rfl,by omega,by rw[e1];simp,by rw[hk];exact e3,by omega,?_⟩
 rw[hk,xor_back,show ((m+1:Nat):Int).toNat=m+1 from by omega]
 have hd:rest.drop ((putL (zz ((m+1:Nat):Int))).length+1)=r:=by
   rw[e1,← List.drop_drop,List.drop_left];rfl
 rw[hd];exact e4
def Unr (bs:List UInt8)(m:Nat)(out:List UInt8)(er:Int):Prop:=(er=0∨er=1∨er=4)∧out.length≤m∧∀ p:List UInt8,p.length≤m→bs=runsL p 0→out=p∧er=0
theorem getD_drop (bs:List UInt8)(i k:Nat):(bs.drop i).getD k 0=bs.getD (i+k) 0:=by simp[List.getD_eq_getElem?_getD,List.getElem?_drop]
theorem Unr.bad {bs dn rest:List UInt8}{last:UInt8}{m k:Nat}{x er er':Int}(hrn:∀ p:List UInt8,p.length≤m→bs=runsL p 0→RunsAt p dn last rest)(hm:m≤1000000)(h0:rest≠[])(hg:GetR rest x k er)
   (hbad:er≠0∨x<1∨rest.length≤k∨(dn≠[]∧(rest.getD k 0).toNat=0)∨(m:Int)<dn.length+x) (he:er'=1∨er'=4):Unr bs m [] er':=by
 refine⟨by omega,by simp,λp hp e=>?_⟩
 exfalso
 obtain⟨g1,g2,g3,g4,g5,_⟩:=(hrn p hp e).get (by omega) h0 hg
 rcases hbad with h | h | h | h | h
 · exact h g1
 · omega
 · omega
 · exact g4 h.1 h.2
 · omega
section
variable {W w:World}{L:List SP}{n c m:Nat}{ad:Option Addr}{bs:List UInt8}
theorem runs_enc (hs:St W w L)(hb:bs.length≤65536)(hp:∀ w',St W w' L→RdB w' ad bs.length bs) :
   Calls Tryz.prog 274 #[.slice ad bs.length c] w λe w'=>∃ ad' c',e=.returned (.slice ad' (runsL bs 0).length c')∧St W w' (Sl 5 1 ad' (runsL bs 0).length c' (bc (runsL bs 0))::L):=by
 have hrl:=runsL_len bs 0
 refine EN Tryz.func274 Tryz.ntmps274 rfl rfl λa ha=>?_
 refine RN 9 ha hs λa ha=>?_
 refine wp_loop_ghost (λμ a w=>∃ (i c':Nat) (ad':Option Addr) (dn:List UInt8) (last:UInt8),(μ=bs.length-i∧i≤bs.length∧dn++runsL (bs.drop i) last=runsL bs 0)∧Fr a 48 [(0,.slice ad bs.length c),(3,.slice ad' dn.length c'),(4,.int .u8 (last.toNat:Int)),(5,.int .i64 i)]∧St W w (Sl 5 1 ad' dn.length c' (bc dn)::L)) (bs.length) (⟨0,0,none,[],0,⟨rfl,by omega,rfl⟩,ha.keep [0,3,4,5],hs.sl0 5 1 none⟩) ?_
 clear ha hs
 rintro μ a w ⟨i,c',ad',dn,last,⟨rfl,hi,hdn⟩,ha,hs⟩
 refine IF 6 ha hs (λhc0 a ha=>?_) λhc0 a ha=>?_
 ·
  obtain⟨bb,oo,rfl,_⟩:=(hp _ hs.tail).get (by omega)
  have hil:i<bs.length:=by omega
  have hdl:dn.length≤11*bs.length:=by
    have:=congrArg List.length hdn
    rw[List.length_append]at this
    omega
  refine RN 4 ha hs λa ha=>?_
  refine wp_loop_ghost (λμ a w=>∃ (k:Nat),(μ=bs.length-k∧i≤k∧k≤bs.length∧(k=i∨Same bs i k))∧Fr a 48 [(0,.slice (some ⟨bb,oo,none⟩) bs.length c),(3,.slice ad' dn.length c'),(4,.int .u8 (last.toNat:Int)),(5,.int .i64 i),(6,.int .i64 k)]∧St W w (Sl 5 1 ad' dn.length c' (bc dn)::L)) (bs.length-i) (⟨i,⟨rfl,by omega,by omega,.inl rfl⟩,ha.keep [0,3,4,5,6],hs⟩) ?_
  clear ha hs
  rintro μ a w ⟨k,⟨rfl,hik,hk,hsm⟩,ha,hs⟩
  refine RN 1 ha hs λa ha=>?_
  refine wp_seq_cut (M:=λa w=>∃ z:Bool,(z=true→Same bs i (k+1))∧(z=false→Same bs i k∧∀ he:k<bs.length,bs[k]≠bs[i])∧Fr a 48 [(0,.slice (some ⟨bb,oo,none⟩) bs.length c),(3,.slice ad' dn.length c'),(4,.int .u8 (last.toNat:Int)),(5,.int .i64 i),(6,.int .i64 k),(26,.bool z)]∧St W w (Sl 5 1 ad' dn.length c' (bc dn)::L)) ?_ ?_
  ·
   refine DWO 0 [12] [0,1,2,3,4,5,6,7,9,10,11,3008,1012,13,14] ha hs λa w ha hs hH hC=>?_
   have hr:=(hp _ hs.tail).rd (by omega)
   refine RH 5 ha hs hH hC λa ha=>?_
   refine ha.by (s:=16) (λhg4 ha=>?_) (λhg4 ha=>?_)
   ·
    refine RH 6 ha hs hH hC λa ha=>?_
    refine QH ha (λw hc=>ld1 ha ((hc.rd hr) k _ (bc_at (i:=k) (bs:=bs) (show k<bs.length by omega)))) hC λa ha=>?_
    refine RH 0 ha hs hH hC λa ha=>?_
    refine st_set ha (wgT ha rfl (s:=16)) (ld1 ha ((hC.rd hr) i _ (bc_at hil))) rfl λa ha=>?_
    refine RH 2 ha hs hH hC λa ha=>?_
    have hkl:k<bs.length:=by omega
    refine⟨_,λh=>?_,λh=>?_,ha.keep [0,3,4,5,6,26],hs⟩
    · have he:bs[k]=bs[i]:=UInt8.toNat_inj.1 (by have:=of_decide_eq_true h;omega)
      rcases hsm with rfl | hsm
      · exact Same.one hil
      · exact hsm.more hkl he
    · have he:bs[k]≠bs[i]:=λe=>of_decide_eq_false h (by rw[e])
      rcases hsm with rfl | hsm
      · exact absurd rfl he
      · exact⟨hsm,λ_=>he⟩
   refine RH 10 ha hs hH hC λa ha=>?_
   refine⟨_,λh=>(by cases h),λh=>?_,ha.keep [0,3,4,5,6,26],hs⟩
   rcases hsm with rfl | hsm
   · omega
   · exact⟨hsm,λ_=>absurd (show k<bs.length by assumption) (by omega)⟩
  clear ha;(try clear hs)
  rintro a w ⟨z,hz1,hz0,ha,hs⟩
  refine IF 0 ha hs (λhc1 a ha=>?_) λhc1 a ha=>?_
  ·
   have hsm':=hz1 hc1
   refine RN 3 ha hs λa ha=>?_
   exact⟨bs.length-(k+1),by have:=hsm'.le;omega,k+1,⟨rfl,by omega,hsm'.le,.inr hsm'⟩,ha.keep [0,3,4,5,6],hs⟩
  obtain⟨hsm',hne⟩:=hz0 hc1
  rw[hsm'.runs hil hne last]at hdn
  have hkl:=hsm'.lt
  have hke:=hsm'.le
  refine DWC 1 (λw0 w=>Rd w bb oo (bc bs)) [4] [0,1,2,3,5,6,7,9,3008,10,2004,1011,1012,13] ha hs λa w ha hs hH=>?_
  have hC:=(hp _ hs.tail).rd (by omega)
  have hpl:=putz_len (n:=((k-i:Nat):Int)) (by omega) (by omega)
  refine RH 4 ha hs hH hC λa ha=>?_
  rw[show ((k:Nat):Int)-((i:Nat):Int)=((k-i:Nat):Int) from by omega]at ha
  refine RH 4 ha hs hH hC λa ha=>?_
  refine QH ha (λw hc=>ld1 ha (hc i _ (bc_at hil))) hC λa ha=>?_
  refine RH 1 ha hs hH hC λa ha=>?_
  refine DN [(4,[1011,1012,13]),(11,[1004,1012,13])] (by kernel_rfl) rfl ⟨⟨_,rfl,?_⟩,⟨_,rfl,?_⟩,trivial⟩
  ·
   refine RH 0 ha hs hH hC λa ha=>?_
   refine CL2 0 ha hs (put_bytes (N:=((k-i:Nat):Int)) (hs.pick (Sl 5 1 ad' dn.length c' (bc dn))) (by omega) (by omega) (by omega)) λadp cp a w ha hs=>?_
   replace hC:=hH.at w ((hp _ hs.sub).rd (by omega))
   refine RH 0 ha hs hH hC λa ha=>?_
   refine st_buildSlice ha rfl hs Tryz.underlying22 Ty.t5 rfl rfl rfl rfl (by decide) (by decide) λb40 a w ha hs ho=>?_
   clear ho
   refine RN 0 ha hs λa ha=>?_
   refine st_append ha rfl hs Tryz.underlying22 Ty.t5 rfl rfl hs.rdAll rfl (by simp[Value.oneCell']) (by decide) (by decide) (by rw[List.length_append];omega) λad41 c41 a w ha hs=>?_
   refine RN 1 ha hs λa ha=>?_
   rw[bc_snoc]at hs
   have hdn':(dn++putL (zz ((k-i:Nat):Int))++[bs[i] ^^^ last])++runsL (bs.drop k) bs[i]=runsL bs 0:=by rw[← hdn];simp
   rw[show (dn++putL (zz ((k-i:Nat):Int))).length+1=(dn++putL (zz ((k-i:Nat):Int))++[bs[i] ^^^ last]).length from by simp only[List.length_append,List.length_singleton]]at ha hs
   generalize dn++putL (zz ((k-i:Nat):Int))++[bs[i] ^^^ last]=dn' at ha hs hdn'
   refine RN 4 ha hs λa ha=>?_
   refine SS ha (ld1 ha (((hp _ hs.sub).rd (by omega)) i _ (bc_at hil))) λa ha=>?_
   refine RN 3 ha hs λa ha=>?_
   exact⟨bs.length-k,by omega,k,_,ad41,dn',bs[i],⟨rfl,by omega,hdn'⟩,ha.keep [0,3,4,5],hs.sub⟩
  refine RH 0 ha hs hH hC λa ha=>?_
  refine st_buildSlice ha rfl hs Tryz.underlying22 Ty.t5 rfl rfl rfl rfl (by decide) (by decide) λb40 a w ha hs ho=>?_
  clear ho
  refine CL2 0 ha hs (put_bytes (N:=((k-i:Nat):Int)) (hs.pick (Sl 5 1 ad' dn.length c' (bc dn))) (by omega) (by omega) (by omega)) λadp cp a w ha hs=>?_
  replace hC:=hH.at w ((hp _ hs.sub).rd (by omega))
  refine RH 0 ha hs hH hC λa ha=>?_
  refine st_append ha rfl hs Tryz.underlying22 Ty.t5 rfl rfl hs.rdAll rfl (by simp[Value.oneCell']) (by decide) (by decide) (by rw[List.length_append];omega) λad41 c41 a w ha hs=>?_
  refine RN 1 ha hs λa ha=>?_
  rw[bc_snoc]at hs
  have hdn':(dn++putL (zz ((k-i:Nat):Int))++[bs[i] ^^^ last])++runsL (bs.drop k) bs[i]=runsL bs 0:=by rw[← hdn];simp
  rw[show (dn++putL (zz ((k-i:Nat):Int))).length+1=(dn++putL (zz ((k-i:Nat):Int))++[bs[i] ^^^ last]).length from by simp only[List.length_append,List.length_singleton]]at ha hs
  generalize dn++putL (zz ((k-i:Nat):Int))++[bs[i] ^^^ last]=dn' at ha hs hdn'
  refine RN 4 ha hs λa ha=>?_
  refine SS ha (ld1 ha (((hp _ hs.sub).rd (by omega)) i _ (bc_at hil))) λa ha=>?_
  refine RN 3 ha hs λa ha=>?_
  exact⟨bs.length-k,by omega,k,_,ad41,dn',bs[i],⟨rfl,by omega,hdn'⟩,ha.keep [0,3,4,5],hs.sub⟩
 rw[List.drop_eq_nil_of_le (by omega),runsL_nil,List.append_nil]at hdn
 refine RT 3 ha hs ?_
 exact⟨_,_,by rw[← hdn],by rw[← hdn];exact hs⟩
theorem refRuns_spec (hs:St W w L)(hb:bs.length≤65536)(hp:∀ w',St W w' L→RdB w' ad bs.length bs) :
   Calls Tryz.prog 79 #[.slice ad bs.length c] w λe w'=>∃ ad' c',e=.returned (.slice ad' (runsL bs 0).length c')∧St W w' (Sl 5 1 ad' (runsL bs 0).length c' (bc (runsL bs 0))::L):=by
 have hrl:=runsL_len bs 0
 refine EN Tryz.func79 Tryz.ntmps79 rfl rfl λa ha=>?_
 refine RN 9 ha hs λa ha=>?_
 refine wp_loop_ghost (λμ a w=>∃ (i c':Nat) (ad':Option Addr) (dn:List UInt8) (last:UInt8),(μ=bs.length-i∧i≤bs.length∧dn++runsL (bs.drop i) last=runsL bs 0)∧Fr a 52 [(0,.slice ad bs.length c),(3,.slice ad' dn.length c'),(4,.int .u8 (last.toNat:Int)),(5,.int .i64 i)]∧St W w (Sl 5 1 ad' dn.length c' (bc dn)::L)) (bs.length) (⟨0,0,none,[],0,⟨rfl,by omega,rfl⟩,ha.keep [0,3,4,5],hs.sl0 5 1 none⟩) ?_
 clear ha hs
 rintro μ a w ⟨i,c',ad',dn,last,⟨rfl,hi,hdn⟩,ha,hs⟩
 refine IF 6 ha hs (λhc0 a ha=>?_) λhc0 a ha=>?_
 ·
  obtain⟨bb,oo,rfl,_⟩:=(hp _ hs.tail).get (by omega)
  have hil:i<bs.length:=by omega
  have hdl:dn.length≤11*bs.length:=by
    have:=congrArg List.length hdn
    rw[List.length_append]at this
    omega
  refine RN 3 ha hs λa ha=>?_
  refine wp_loop_ghost (λμ a w=>∃ (k:Nat),(μ=bs.length-k∧k≤bs.length∧Same bs i k)∧Fr a 52 [(0,.slice (some ⟨bb,oo,none⟩) bs.length c),(3,.slice ad' dn.length c'),(4,.int .u8 (last.toNat:Int)),(5,.int .i64 i),(6,.int .i64 ((k-i:Nat):Int))]∧St W w (Sl 5 1 ad' dn.length c' (bc dn)::L)) (bs.length-(i+1)) (⟨i+1,⟨rfl,by omega,Same.one hil⟩,by rw[show i+1-i=1 from by omega];exact ha.keep [0,3,4,5,6],hs⟩) ?_
  clear ha hs
  rintro μ a w ⟨k,⟨rfl,hk,hsm⟩,ha,hs⟩
  refine RN 1 ha hs λa ha=>?_
  refine wp_seq_cut (M:=λa w=>∃ z:Bool,(z=true→Same bs i (k+1))∧(z=false→∀ he:k<bs.length,bs[k]≠bs[i])∧Fr a 52 [(0,.slice (some ⟨bb,oo,none⟩) bs.length c),(3,.slice ad' dn.length c'),(4,.int .u8 (last.toNat:Int)),(5,.int .i64 i),(6,.int .i64 ((k-i:Nat):Int)),(29,.bool z)]∧St W w (Sl 5 1 ad' dn.length c' (bc dn)::L)) ?_ ?_
  ·
   refine RN 0 ha hs λa ha=>?_
   have hik:=hsm.lt
   refine DWO 0 [16] [0,1,2,3,4,5,6,7,8,9,10,11,13,14,15,3012,1016,17,18] ha hs λa w ha hs hH hC=>?_
   have hr:=(hp _ hs.tail).rd (by omega)
   refine RH 3 ha hs hH hC λa ha=>?_
   rw[show ((i:Nat):Int)+((k-i:Nat):Int)=(k:Int) from by omega]at ha
   refine RH 4 ha hs hH hC λa ha=>?_
   refine ha.by (s:=17) (λhg6 ha=>?_) (λhg6 ha=>?_)
   ·
    refine RH 4 ha hs hH hC λa ha=>?_
    rw[show ((i:Nat):Int)+((k-i:Nat):Int)=(k:Int) from by omega]at ha
    refine RH 4 ha hs hH hC λa ha=>?_
    refine QH ha (λw hc=>ld1 ha ((hc.rd hr) k _ (bc_at (i:=k) (bs:=bs) (show k<bs.length by omega)))) hC λa ha=>?_
    refine RH 0 ha hs hH hC λa ha=>?_
    refine st_set ha (wgT ha rfl (s:=17)) (ld1 ha ((hC.rd hr) i _ (bc_at hil))) rfl λa ha=>?_
    refine RH 2 ha hs hH hC λa ha=>?_
    have hkl:k<bs.length:=by omega
    refine⟨_,λh=>?_,λh=>?_,ha.keep [0,3,4,5,6,29],hs⟩
    · have he:bs[k]=bs[i]:=UInt8.toNat_inj.1 (by have:=of_decide_eq_true h;omega)
      exact hsm.more hkl he
    · have he:bs[k]≠bs[i]:=λe=>of_decide_eq_false h (by rw[e])
      exact λ_=>he
   refine RH 12 ha hs hH hC λa ha=>?_
   refine⟨_,λh=>(by cases h),λh=>?_,ha.keep [0,3,4,5,6,29],hs⟩
   exact λ_=>absurd (show k<bs.length by assumption) (by omega)
  clear ha;(try clear hs)
  rintro a w ⟨z,hz1,hz0,ha,hs⟩
  refine IF 0 ha hs (λhc1 a ha=>?_) λhc1 a ha=>?_
  ·
   have hsm':=hz1 hc1
   refine RN 1 ha hs λa ha=>?_
   have hik:=hsm.lt
   have hk2:((k-i:Nat):Int)≤65536:=by omega
   refine RN 1 ha hs λa ha=>?_
   rw[show ((k-i:Nat):Int)+1=((k+1-i:Nat):Int) from by omega]at ha
   refine RN 1 ha hs λa ha=>?_
   exact⟨bs.length-(k+1),by have:=hsm'.le;omega,k+1,⟨rfl,hsm'.le,hsm'⟩,ha.keep [0,3,4,5,6],hs⟩
  have hne:=hz0 hc1
  rw[hsm.runs hil hne last]at hdn
  have hkl:=hsm.lt
  have hke:=hsm.le
  refine DWC 1 (λw0 w=>Rd w bb oo (bc bs)) [2,3] [0,1,4,5,6,8,3007,9,2002,2003,1010,1011,12] ha hs λa w ha hs hH=>?_
  have hC:=(hp _ hs.tail).rd (by omega)
  have hpl:=putz_len (n:=((k-i:Nat):Int)) (by omega) (by omega)
  refine RH 6 ha hs hH hC λa ha=>?_
  refine QH ha (λw hc=>ld1 ha (hc i _ (bc_at hil))) hC λa ha=>?_
  refine RH 1 ha hs hH hC λa ha=>?_
  refine DN [(2,[2003,1010,1011,12]),(10,[1002,1003,1011,12])] (by kernel_rfl) rfl ⟨⟨_,rfl,?_⟩,⟨_,rfl,?_⟩,trivial⟩
  ·
   refine RH 0 ha hs hH hC λa ha=>?_
   refine CL2 0 ha hs (refPut_spec (N:=((k-i:Nat):Int)) hs (by omega) (by omega)) λadp cp a w ha hs=>?_
   replace hC:=hH.at w ((hp _ hs.sub).rd (by omega))
   refine RH 0 ha hs hH hC λa ha=>?_
   refine DN [(3,[1010,1011,12]),(10,[1003,1011,12])] (by kernel_rfl) rfl ⟨⟨_,rfl,?_⟩,⟨_,rfl,?_⟩,trivial⟩
   ·
    obtain⟨bp,op,rfl,hrp⟩:=(hs.rdB adp (putL (zz ((k-i:Nat):Int))) rfl rfl).get (putL_pos _)
    refine RH 0 ha hs hH hC λa ha=>?_
    refine st_append ha rfl hs Tryz.underlying22 Ty.t5 rfl rfl hrp (by rw[bc_len,Nat.mul_one]) (bc_one _) (putL_pos _) (by decide) (by omega) λad35 c35 a w ha hs=>?_
    replace hC:=hH.at w ((hp _ hs.sub).rd (by omega))
    refine RH 0 ha hs hH hC λa ha=>?_
    refine st_buildSlice ha rfl hs Tryz.underlying22 Ty.t5 rfl rfl rfl rfl (by decide) (by decide) λb42 a w ha hs ho=>?_
    clear ho
    refine RN 0 ha hs λa ha=>?_
    refine st_append ha rfl hs Tryz.underlying22 Ty.t5 rfl rfl hs.rdAll rfl (by simp[Value.oneCell']) (by decide) (by decide) (by omega) λad43 c43 a w ha hs=>?_
    refine RN 1 ha hs λa ha=>?_
    rw[← bc_app,bc_snoc]at hs
    have hdn':(dn++putL (zz ((k-i:Nat):Int))++[bs[i] ^^^ last])++runsL (bs.drop k) bs[i]=runsL bs 0:=by rw[← hdn];simp
    rw[show dn.length+(putL (zz ((k-i:Nat):Int))).length+1=(dn++putL (zz ((k-i:Nat):Int))++[bs[i] ^^^ last]).length from by simp only[List.length_append,List.length_singleton]]at ha hs
    generalize dn++putL (zz ((k-i:Nat):Int))++[bs[i] ^^^ last]=dn' at ha hs hdn'
    refine RN 4 ha hs λa ha=>?_
    refine SS ha (ld1 ha (((hp _ hs.sub).rd (by omega)) i _ (bc_at hil))) λa ha=>?_
    refine RN 4 ha hs λa ha=>?_
    rw[show ((i:Nat):Int)+((k-i:Nat):Int)=(k:Int) from by omega]at ha
    refine RN 1 ha hs λa ha=>?_
    exact⟨bs.length-k,by omega,k,_,ad43,dn',bs[i],⟨rfl,by omega,hdn'⟩,ha.keep [0,3,4,5],hs.sub⟩
   refine RH 0 ha hs hH hC λa ha=>?_
   refine st_buildSlice ha rfl hs Tryz.underlying22 Ty.t5 rfl rfl rfl rfl (by decide) (by decide) λb42 a w ha hs ho=>?_
   clear ho
   obtain⟨bp,op,rfl,hrp⟩:=(hs.rdB adp (putL (zz ((k-i:Nat):Int))) rfl rfl).get (putL_pos _)
   refine RN 0 ha hs λa ha=>?_
   refine st_append ha rfl hs Tryz.underlying22 Ty.t5 rfl rfl hrp (by rw[bc_len,Nat.mul_one]) (bc_one _) (putL_pos _) (by decide) (by omega) λad35 c35 a w ha hs=>?_
   replace hC:=hH.at w ((hp _ hs.sub).rd (by omega))
   refine RH 0 ha hs hH hC λa ha=>?_
   refine st_append ha rfl hs Tryz.underlying22 Ty.t5 rfl rfl hs.rdAll rfl (by simp[Value.oneCell']) (by decide) (by decide) (by omega) λad43 c43 a w ha hs=>?_
   refine RN 1 ha hs λa ha=>?_
   rw[← bc_app,bc_snoc]at hs
   have hdn':(dn++putL (zz ((k-i:Nat):Int))++[bs[i] ^^^ last])++runsL (bs.drop k) bs[i]=runsL bs 0:=by rw[← hdn];simp
   rw[show dn.length+(putL (zz ((k-i:Nat):Int))).length+1=(dn++putL (zz ((k-i:Nat):Int))++[bs[i] ^^^ last]).length from by simp only[List.length_append,List.length_singleton]]at ha hs
   generalize dn++putL (zz ((k-i:Nat):Int))++[bs[i] ^^^ last]=dn' at ha hs hdn'
   refine RN 4 ha hs λa ha=>?_
   refine SS ha (ld1 ha (((hp _ hs.sub).rd (by omega)) i _ (bc_at hil))) λa ha=>?_
   refine RN 4 ha hs λa ha=>?_
   rw[show ((i:Nat):Int)+((k-i:Nat):Int)=(k:Int) from by omega]at ha
   refine RN 1 ha hs λa ha=>?_
   exact⟨bs.length-k,by omega,k,_,ad43,dn',bs[i],⟨rfl,by omega,hdn'⟩,ha.keep [0,3,4,5],hs.sub⟩
  refine RH 0 ha hs hH hC λa ha=>?_
  refine st_buildSlice ha rfl hs Tryz.underlying22 Ty.t5 rfl rfl rfl rfl (by decide) (by decide) λb42 a w ha hs ho=>?_
  clear ho
  refine CL2 0 ha hs (refPut_spec (N:=((k-i:Nat):Int)) hs (by omega) (by omega)) λadp cp a w ha hs=>?_
  replace hC:=hH.at w ((hp _ hs.sub).rd (by omega))
  obtain⟨bp,op,rfl,hrp⟩:=(hs.rdB adp (putL (zz ((k-i:Nat):Int))) rfl rfl).get (putL_pos _)
  refine RH 0 ha hs hH hC λa ha=>?_
  refine st_append ha rfl hs Tryz.underlying22 Ty.t5 rfl rfl hrp (by rw[bc_len,Nat.mul_one]) (bc_one _) (putL_pos _) (by decide) (by omega) λad35 c35 a w ha hs=>?_
  replace hC:=hH.at w ((hp _ hs.sub).rd (by omega))
  refine RH 0 ha hs hH hC λa ha=>?_
  refine st_append ha rfl hs Tryz.underlying22 Ty.t5 rfl rfl hs.rdAll rfl (by simp[Value.oneCell']) (by decide) (by decide) (by omega) λad43 c43 a w ha hs=>?_
  refine RN 1 ha hs λa ha=>?_
  rw[← bc_app,bc_snoc]at hs
  have hdn':(dn++putL (zz ((k-i:Nat):Int))++[bs[i] ^^^ last])++runsL (bs.drop k) bs[i]=runsL bs 0:=by rw[← hdn];simp
  rw[show dn.length+(putL (zz ((k-i:Nat):Int))).length+1=(dn++putL (zz ((k-i:Nat):Int))++[bs[i] ^^^ last]).length from by simp only[List.length_append,List.length_singleton]]at ha hs
  generalize dn++putL (zz ((k-i:Nat):Int))++[bs[i] ^^^ last]=dn' at ha hs hdn'
  refine RN 4 ha hs λa ha=>?_
  refine SS ha (ld1 ha (((hp _ hs.sub).rd (by omega)) i _ (bc_at hil))) λa ha=>?_
  refine RN 4 ha hs λa ha=>?_
  rw[show ((i:Nat):Int)+((k-i:Nat):Int)=(k:Int) from by omega]at ha
  refine RN 1 ha hs λa ha=>?_
  exact⟨bs.length-k,by omega,k,_,ad43,dn',bs[i],⟨rfl,by omega,hdn'⟩,ha.keep [0,3,4,5],hs.sub⟩
 rw[List.drop_eq_nil_of_le (by omega),runsL_nil,List.append_nil]at hdn
 refine RT 3 ha hs ?_
 exact⟨_,_,by rw[← hdn],by rw[← hdn];exact hs⟩
theorem runs_dec (hs:St W w L)(hb:bs.length≤65536)(hc:bs.length≤c)(hm:m≤1000000)(hp:∀ w',St W w' L→RdB w' ad bs.length bs) :
   Calls Tryz.prog 243 #[.slice ad bs.length c,.int .i64 m] w λe w'=>∃ (out:List UInt8) (ad':Option Addr) (c':Nat) (er:Int),e=.returned (.tuple #[.slice ad' out.length c',.int .i64 er])∧Unr bs m out er∧St W w' (Sl 5 1 ad' out.length c' (bc out)::L):=by
 refine EN Tryz.func243 Tryz.ntmps243 rfl rfl λa ha=>?_
 refine RN 10 ha hs λa ha=>?_
 refine wp_loop_ghost (λμ a w=>∃ (i c':Nat) (ad':Option Addr) (dn:List UInt8) (last:UInt8),(μ=bs.length-i∧i≤bs.length∧dn.length≤m∧(0<i→dn≠[])∧∀ p:List UInt8,p.length≤m→bs=runsL p 0→RunsAt p dn last (bs.drop i))∧Fr a 79 [(0,.slice ad bs.length c),(1,.int .i64 m),(6,.slice ad' dn.length c'),(7,.int .u8 (last.toNat:Int)),(8,.int .i64 i)]∧St W w (Sl 5 1 ad' dn.length c' (bc dn)::L)) (bs.length) (⟨0,0,none,[],0,⟨rfl,by omega,by simp,by omega,λp _ e=>by rw[List.drop_zero,e];exact RunsAt.start p⟩,ha.keep [0,1,6,7,8],hs.sl0 5 1 none⟩) ?_
 clear ha hs
 rintro μ a w ⟨i,c',ad',dn,last,⟨rfl,hi,hdm,hd0,hrn⟩,ha,hs⟩
 refine IF 6 ha hs (λhc0 a ha=>?_) λhc0 a ha=>?_
 ·
  obtain⟨bb,oo,rfl,_⟩:=(hp _ hs.tail).get (by omega)
  have hil:i<bs.length:=by omega
  have hne:bs.drop i≠[]:=λe=>by have:=congrArg List.length e;simp at this;omega
  refine RN 4 ha hs λa ha=>?_
  rw[show bs.length-i=(bs.drop i).length from by simp]at ha
  refine CL3 0 ha hs (num_get (bs:=bs.drop i) hs (by simp;omega) (λw' hw=>(hp w' hw.tail).cutL hi hc)) λx k er a w ha ⟨hg,hs⟩=>?_
  refine RN 8 ha hs λa ha=>?_
  refine wp_seq_cut (M:=λa w=>∃ z:Bool,(z=true↔(er≠0∨x<1∨bs.length≤i+k∨((bs.getD (i+k) 0).toNat=0∧0<i)))∧Fr a 79 [(0,.slice (some ⟨bb,oo,none⟩) bs.length c),(1,.int .i64 m),(6,.slice ad' dn.length c'),(7,.int .u8 (last.toNat:Int)),(8,.int .i64 i),(9,.int .i64 x),(10,.int .i64 k),(50,.bool z)]∧St W w (Sl 5 1 ad' dn.length c' (bc dn)::L)) ?_ ?_
  ·
   have hdl:(bs.drop i).length=bs.length-i:=by simp
   have hgk:=hg.2.2.1
   have hge:=hg.2.1
   have hgb:=hg.1
   have hkl:k≤bs.length:=by
     by_cases h0:er=0
     · have:=hgk h0;omega
     · have:=(hg.2.2.2.1 h0).1;omega
   refine BY 3 ha hs (λhg2 a ha=>?_) λhg2 a ha=>?_
   ·
    refine RN 24 ha hs λa ha=>?_
    exact⟨_,by first | (rw[decide_eq_true_iff];omega) | exact⟨λh=>(by cases h),λh=>absurd h (by omega)⟩ | exact⟨λ_=>by omega,λ_=>rfl⟩,ha.keep [0,1,6,7,8,9,10,50],hs⟩
   refine BY 4 ha hs (λhg6 a ha=>?_) λhg6 a ha=>?_
   ·
    refine RN 20 ha hs λa ha=>?_
    exact⟨_,by first | (rw[decide_eq_true_iff];omega) | exact⟨λh=>(by cases h),λh=>absurd h (by omega)⟩ | exact⟨λ_=>by omega,λ_=>rfl⟩,ha.keep [0,1,6,7,8,9,10,50],hs⟩
   refine BY 8 ha hs (λhg14 a ha=>?_) λhg14 a ha=>?_
   ·
    refine RN 12 ha hs λa ha=>?_
    exact⟨_,by first | (rw[decide_eq_true_iff];omega) | exact⟨λh=>(by cases h),λh=>absurd h (by omega)⟩ | exact⟨λ_=>by omega,λ_=>rfl⟩,ha.keep [0,1,6,7,8,9,10,50],hs⟩
   refine RN 4 ha hs λa ha=>?_
   rw[show ((i:Nat):Int)+((k:Nat):Int)=((i+k:Nat):Int) from by omega]at ha
   refine RN 1 ha hs λa ha=>?_
   refine st_set ha (wgT ha rfl (s:=38)) (ld1 ha (((hp _ hs.tail).rd (by omega)) (i+k) _ (bc_atD (by omega)))) rfl λa ha=>?_
   refine BY 2 ha hs (λhg22 a ha=>?_) λhg22 a ha=>?_
   ·
    refine RN 4 ha hs λa ha=>?_
    exact⟨_,by first | (rw[decide_eq_true_iff];omega) | exact⟨λh=>(by cases h),λh=>absurd h (by omega)⟩ | exact⟨λ_=>by omega,λ_=>rfl⟩,ha.keep [0,1,6,7,8,9,10,50],hs⟩
   refine RN 4 ha hs λa ha=>?_
   exact⟨_,by first | (rw[decide_eq_true_iff];omega) | exact⟨λh=>(by cases h),λh=>absurd h (by omega)⟩ | exact⟨λ_=>by omega,λ_=>rfl⟩,ha.keep [0,1,6,7,8,9,10,50],hs⟩
  clear ha;(try clear hs)
  rintro a w ⟨z,hz,ha,hs⟩
  refine IF 0 ha hs (λhc1 a ha=>?_) λhc1 a ha=>?_
  ·
   have hbad:=hz.1 hc1
   refine RT 3 ha hs ?_
   exact⟨[],none,0,1,rfl,Unr.bad hrn hm hne hg (by rw[getD_drop,List.length_drop];rcases hbad with h | h | h | h;exact .inl h;exact .inr (.inl h);exact .inr (.inr (.inl (by omega)));exact .inr (.inr (.inr (.inl ⟨hd0 h.2,h.1⟩)))) (.inl rfl),hs.tail.sl0 _ _ _⟩
  have hgood:¬ (er≠0∨x<1∨bs.length≤i+k∨((bs.getD (i+k) 0).toNat=0∧0<i)):=λh=>absurd (hz.2 h) (by simp[hc1])
  refine IF 9 ha hs (λhc2 a ha=>?_) λhc2 a ha=>?_
  ·
   refine RT 3 ha hs ?_
   exact⟨[],none,0,4,rfl,Unr.bad hrn hm hne hg (.inr (.inr (.inr (.inr (by omega))))) (.inr rfl),hs.tail.sl0 _ _ _⟩
  refine RN 6 ha hs λa ha=>?_
  rw[show ((i:Nat):Int)+((k:Nat):Int)=((i+k:Nat):Int) from by omega]at ha
  refine RN 1 ha hs λa ha=>?_
  refine SS ha (ld1 ha (((hp _ hs.tail).rd (by omega)) (i+k) _ (bc_atD (by omega)))) λa ha=>?_
  refine RN 2 ha hs λa ha=>?_
  generalize hy:last ^^^ bs.getD (i+k) 0=y at ha
  refine RN 4 ha hs λa ha=>?_
  refine wp_loop_ghost (λμ a w=>∃ (j c2:Nat) (ad2:Option Addr),(μ=x.toNat-j∧j≤x.toNat)∧Fr a 79 [(0,.slice (some ⟨bb,oo,none⟩) bs.length c),(1,.int .i64 m),(6,.slice ad2 (dn++List.replicate j y).length c2),(7,.int .u8 (y.toNat:Int)),(8,.int .i64 i),(10,.int .i64 k),(66,.int .i64 x),(67,.int .i64 j)]∧St W w (Sl 5 1 ad2 (dn++List.replicate j y).length c2 (bc (dn++List.replicate j y))::L)) (x.toNat) (⟨0,c',ad',⟨rfl,by omega⟩,by rw[List.replicate_zero,List.append_nil];exact ha.keep [0,1,6,7,8,10,66,67],by rw[List.replicate_zero,List.append_nil];exact hs⟩) ?_
  clear ha hs
  rintro μ a w ⟨j,c2,ad2,⟨rfl,hj⟩,ha,hs⟩
  refine IF 3 ha hs (λhc3 a ha=>?_) λhc3 a ha=>?_
  ·
   refine RN 1 ha hs λa ha=>?_
   have hjl:(dn++List.replicate j y).length=dn.length+j:=by simp
   refine RN 2 ha hs λa ha=>?_
   refine st_buildSlice ha rfl hs Tryz.underlying22 Ty.t5 rfl rfl rfl rfl (by decide) (by decide) λb71 a w ha hs ho=>?_
   clear ho
   refine RN 0 ha hs λa ha=>?_
   refine st_append ha rfl hs Tryz.underlying22 Ty.t5 rfl rfl hs.rdAll rfl (by simp[Value.oneCell']) (by decide) (by decide) (by omega) λad72 c72 a w ha hs=>?_
   refine RN 1 ha hs λa ha=>?_
   rw[bc_snoc,show (dn++List.replicate j y)++[y]=dn++List.replicate (j+1) y from by rw[List.append_assoc,← List.replicate_succ']]at hs
   rw[show (dn++List.replicate j y).length+1=(dn++List.replicate (j+1) y).length from by simp;omega]at ha hs
   refine RN 2 ha hs λa ha=>?_
   exact⟨x.toNat-(j+1),by omega,j+1,_,_,⟨rfl,by omega⟩,ha.keep [0,1,6,7,8,10,66,67],hs.sub⟩
  obtain rfl:j=x.toNat:=by omega
  refine RN 0 ha hs λa ha=>?_
  have hnl:(dn++List.replicate x.toNat y).length=dn.length+x.toNat:=by simp
  refine RN 4 ha hs λa ha=>?_
  rw[show ((i:Nat):Int)+(((k:Nat):Int)+1)=((i+k+1:Nat):Int) from by omega]at ha
  refine RN 1 ha hs λa ha=>?_
  exact⟨bs.length-(i+k+1),by omega,i+k+1,_,_,_,y,⟨rfl,by omega,by omega,λ_ e=>(by rw[e]at hnl;simp at hnl;omega),λp hp' e=>(by
    have h2:=((hrn p hp' e).get (by omega) hne hg).2.2.2.2.2
    rw[getD_drop,hy,List.drop_drop]at h2
    exact h2)⟩,ha.keep [0,1,6,7,8],hs⟩
 refine RT 4 ha hs ?_
 exact⟨dn,_,_,0,rfl,⟨by omega,hdm,λp hp' e=>⟨by have h2:=hrn p hp' e;rw[List.drop_eq_nil_of_le (by omega)]at h2;exact h2.done.symm,rfl⟩⟩,hs⟩
theorem refUnruns_spec (hs:St W w L)(hb:bs.length≤65536)(hc:bs.length≤c)(hm:m≤1000000)(hp:∀ w',St W w' L→RdB w' ad bs.length bs) :
   Calls Tryz.prog 213 #[.slice ad bs.length c,.int .i64 m] w λe w'=>∃ (out:List UInt8) (ad':Option Addr) (c':Nat) (er:Int),e=.returned (.tuple #[.slice ad' out.length c',.int .i64 er])∧Unr bs m out er∧St W w' (Sl 5 1 ad' out.length c' (bc out)::L):=by
 refine EN Tryz.func213 Tryz.ntmps213 rfl rfl λa ha=>?_
 refine RN 10 ha hs λa ha=>?_
 refine wp_loop_ghost (λμ a w=>∃ (i c' cr:Nat) (ad' adr:Option Addr) (dn rest:List UInt8) (last:UInt8) (fi:Bool),(μ=rest.length∧rest.length≤bs.length∧rest.length≤cr∧dn.length≤m∧(fi=false→dn≠[])∧(∀ w',St W w' L→RdB w' adr rest.length rest)∧∀ p:List UInt8,p.length≤m→bs=runsL p 0→RunsAt p dn last rest)∧Fr a 72 [(0,.slice adr rest.length cr),(1,.int .i64 m),(6,.slice ad' dn.length c'),(7,.int .u8 (last.toNat:Int)),(8,.bool fi)]∧St W w (Sl 5 1 ad' dn.length c' (bc dn)::L)) (bs.length) (⟨0,0,c,none,ad,[],bs,0,true,⟨rfl,by omega,hc,by simp,(by simp),hp,λp _ e=>by rw[e];exact RunsAt.start p⟩,ha.keep [0,1,6,7,8],hs.sl0 5 1 none⟩) ?_
 clear ha hs
 rintro μ a w ⟨i,c',cr,ad',adr,dn,rest,last,fi,⟨rfl,hrb,hrc,hdm,hd0,hpr,hrn⟩,ha,hs⟩
 refine IF 5 ha hs (λhc0 a ha=>?_) λhc0 a ha=>?_
 ·
  obtain⟨bb,oo,rfl,_⟩:=(hpr _ hs.tail).get (by omega)
  have hne:rest≠[]:=λe=>by rw[e]at hc0;simp at hc0
  refine CL3 3 ha hs (refGet_spec (bs:=rest) hs (by omega) (λw' hw=>hpr w' hw.tail)) λx k er a w ha ⟨hg,hs⟩=>?_
  refine RN 8 ha hs λa ha=>?_
  refine wp_seq_cut (M:=λa w=>∃ z:Bool,(z=true↔(er≠0∨x<1∨rest.length≤k∨((rest.getD k 0).toNat=0∧fi=false)))∧Fr a 72 [(0,.slice (some ⟨bb,oo,none⟩) rest.length cr),(1,.int .i64 m),(6,.slice ad' dn.length c'),(7,.int .u8 (last.toNat:Int)),(8,.bool fi),(9,.int .i64 x),(10,.int .i64 k),(44,.bool z)]∧St W w (Sl 5 1 ad' dn.length c' (bc dn)::L)) ?_ ?_
  ·
   have hgk:=hg.2.2.1
   have hge:=hg.2.1
   have hgb:=hg.1
   have hkl:k≤rest.length:=by
     by_cases h0:er=0
     · have:=hgk h0;omega
     · have:=(hg.2.2.2.1 h0).1;omega
   refine BY 3 ha hs (λhg2 a ha=>?_) λhg2 a ha=>?_
   ·
    refine RN 20 ha hs λa ha=>?_
    exact⟨_,by first | (rw[decide_eq_true_iff];omega) | exact⟨λh=>(by cases h),λh=>absurd h (by omega)⟩ | exact⟨λ_=>by omega,λ_=>rfl⟩ | (cases fi;exact⟨λ_=>.inr (.inr (.inr ⟨by omega,rfl⟩)),λ_=>rfl⟩;exact⟨λh=>(by cases h),λh=>by rcases h with h | h | h | h;exact absurd h (by omega);exact absurd h (by omega);exact absurd h (by omega);exact absurd h.2 (by decide)⟩),ha.keep [0,1,6,7,8,9,10,44],hs⟩
   refine BY 4 ha hs (λhg6 a ha=>?_) λhg6 a ha=>?_
   ·
    refine RN 16 ha hs λa ha=>?_
    exact⟨_,by first | (rw[decide_eq_true_iff];omega) | exact⟨λh=>(by cases h),λh=>absurd h (by omega)⟩ | exact⟨λ_=>by omega,λ_=>rfl⟩ | (cases fi;exact⟨λ_=>.inr (.inr (.inr ⟨by omega,rfl⟩)),λ_=>rfl⟩;exact⟨λh=>(by cases h),λh=>by rcases h with h | h | h | h;exact absurd h (by omega);exact absurd h (by omega);exact absurd h (by omega);exact absurd h.2 (by decide)⟩),ha.keep [0,1,6,7,8,9,10,44],hs⟩
   refine BY 6 ha hs (λhg12 a ha=>?_) λhg12 a ha=>?_
   ·
    refine RN 10 ha hs λa ha=>?_
    exact⟨_,by first | (rw[decide_eq_true_iff];omega) | exact⟨λh=>(by cases h),λh=>absurd h (by omega)⟩ | exact⟨λ_=>by omega,λ_=>rfl⟩ | (cases fi;exact⟨λ_=>.inr (.inr (.inr ⟨by omega,rfl⟩)),λ_=>rfl⟩;exact⟨λh=>(by cases h),λh=>by rcases h with h | h | h | h;exact absurd h (by omega);exact absurd h (by omega);exact absurd h (by omega);exact absurd h.2 (by decide)⟩),ha.keep [0,1,6,7,8,9,10,44],hs⟩
   refine RN 3 ha hs λa ha=>?_
   refine st_set ha (wgT ha rfl (s:=34)) (ld1 ha (((hpr _ hs.tail).rd (by omega)) k _ (bc_atD (by omega)))) rfl λa ha=>?_
   refine BY 2 ha hs (λhg18 a ha=>?_) λhg18 a ha=>?_
   ·
    refine RN 4 ha hs λa ha=>?_
    exact⟨_,by first | (rw[decide_eq_true_iff];omega) | exact⟨λh=>(by cases h),λh=>absurd h (by omega)⟩ | exact⟨λ_=>by omega,λ_=>rfl⟩ | (cases fi;exact⟨λ_=>.inr (.inr (.inr ⟨by omega,rfl⟩)),λ_=>rfl⟩;exact⟨λh=>(by cases h),λh=>by rcases h with h | h | h | h;exact absurd h (by omega);exact absurd h (by omega);exact absurd h (by omega);exact absurd h.2 (by decide)⟩),ha.keep [0,1,6,7,8,9,10,44],hs⟩
   refine RN 4 ha hs λa ha=>?_
   exact⟨_,by first | (rw[decide_eq_true_iff];omega) | exact⟨λh=>(by cases h),λh=>absurd h (by omega)⟩ | exact⟨λ_=>by omega,λ_=>rfl⟩ | (cases fi;exact⟨λ_=>.inr (.inr (.inr ⟨by omega,rfl⟩)),λ_=>rfl⟩;exact⟨λh=>(by cases h),λh=>by rcases h with h | h | h | h;exact absurd h (by omega);exact absurd h (by omega);exact absurd h (by omega);exact absurd h.2 (by decide)⟩),ha.keep [0,1,6,7,8,9,10,44],hs⟩
  clear ha;(try clear hs)
  rintro a w ⟨z,hz,ha,hs⟩
  refine IF 0 ha hs (λhc1 a ha=>?_) λhc1 a ha=>?_
  ·
   have hbad:=hz.1 hc1
   refine RT 3 ha hs ?_
   exact⟨[],none,0,1,rfl,Unr.bad hrn hm hne hg (by rcases hbad with h | h | h | h;exact .inl h;exact .inr (.inl h);exact .inr (.inr (.inl (by omega)));exact .inr (.inr (.inr (.inl ⟨hd0 h.2,h.1⟩)))) (.inl rfl),hs.tail.sl0 _ _ _⟩
  have hgood:¬ (er≠0∨x<1∨rest.length≤k∨((rest.getD k 0).toNat=0∧fi=false)):=λh=>absurd (hz.2 h) (by simp[hc1])
  refine IF 9 ha hs (λhc2 a ha=>?_) λhc2 a ha=>?_
  ·
   refine RT 3 ha hs ?_
   exact⟨[],none,0,4,rfl,Unr.bad hrn hm hne hg (.inr (.inr (.inr (.inr (by omega))))) (.inr rfl),hs.tail.sl0 _ _ _⟩
  refine RN 5 ha hs λa ha=>?_
  refine SS ha (ld1 ha (((hpr _ hs.tail).rd (by omega)) k _ (bc_atD (by omega)))) λa ha=>?_
  refine RN 2 ha hs λa ha=>?_
  generalize hy:last ^^^ rest.getD k 0=y at ha
  refine RN 3 ha hs λa ha=>?_
  refine wp_loop_ghost (λμ a w=>∃ (j c2:Nat) (ad2:Option Addr),(μ=x.toNat-j∧j≤x.toNat)∧Fr a 72 [(0,.slice (some ⟨bb,oo,none⟩) rest.length cr),(1,.int .i64 m),(6,.slice ad2 (dn++List.replicate j y).length c2),(7,.int .u8 (y.toNat:Int)),(8,.bool fi),(9,.int .i64 x),(10,.int .i64 k),(12,.int .i64 j)]∧St W w (Sl 5 1 ad2 (dn++List.replicate j y).length c2 (bc (dn++List.replicate j y))::L)) (x.toNat) (⟨0,c',ad',⟨rfl,by omega⟩,by rw[List.replicate_zero,List.append_nil];exact ha.keep [0,1,6,7,8,9,10,12],by rw[List.replicate_zero,List.append_nil];exact hs⟩) ?_
  clear ha hs
  rintro μ a w ⟨j,c2,ad2,⟨rfl,hj⟩,ha,hs⟩
  refine IF 5 ha hs (λhc3 a ha=>?_) λhc3 a ha=>?_
  ·
   refine RN 1 ha hs λa ha=>?_
   have hjl:(dn++List.replicate j y).length=dn.length+j:=by simp
   refine RN 2 ha hs λa ha=>?_
   refine st_buildSlice ha rfl hs Tryz.underlying22 Ty.t5 rfl rfl rfl rfl (by decide) (by decide) λb65 a w ha hs ho=>?_
   clear ho
   refine RN 0 ha hs λa ha=>?_
   refine st_append ha rfl hs Tryz.underlying22 Ty.t5 rfl rfl hs.rdAll rfl (by simp[Value.oneCell']) (by decide) (by decide) (by omega) λad66 c66 a w ha hs=>?_
   refine RN 1 ha hs λa ha=>?_
   rw[bc_snoc,show (dn++List.replicate j y)++[y]=dn++List.replicate (j+1) y from by rw[List.append_assoc,← List.replicate_succ']]at hs
   rw[show (dn++List.replicate j y).length+1=(dn++List.replicate (j+1) y).length from by simp;omega]at ha hs
   refine RN 3 ha hs λa ha=>?_
   exact⟨x.toNat-(j+1),by omega,j+1,_,_,⟨rfl,by omega⟩,ha.keep [0,1,6,7,8,9,10,12],hs.sub⟩
  obtain rfl:j=x.toNat:=by omega
  refine RN 0 ha hs λa ha=>?_
  have hnl:(dn++List.replicate x.toNat y).length=dn.length+x.toNat:=by simp
  refine RN 5 ha hs λa ha=>?_
  rw[show rest.length-(k+1)=(rest.drop (k+1)).length from by simp]at ha
  refine RN 1 ha hs λa ha=>?_
  exact⟨(rest.drop (k+1)).length,by simp;omega,0,_,_,_,_,_,rest.drop (k+1),y,false,⟨rfl,by simp;omega,by simp;omega,by omega,λ_ e=>(by rw[e]at hnl;simp at hnl;omega),λw' hw=>(hpr w' hw).cutL (by omega) hrc,λp hp' e=>(by
    have h2:=((hrn p hp' e).get (by omega) hne hg).2.2.2.2.2
    rw[hy]at h2
    exact h2)⟩,ha.keep [0,1,6,7,8],hs⟩
 refine RT 4 ha hs ?_
 have hr0:rest=[]:=List.eq_nil_of_length_eq_zero (by omega)
 exact⟨dn,_,_,0,rfl,⟨by omega,hdm,λp hp' e=>⟨by have h2:=hrn p hp' e;rw[hr0]at h2;exact h2.done.symm,rfl⟩⟩,hs⟩
end
end
end Go.Proofs.YtdilfdkendjjhaaGreat
