/- Presses in runs: runs.Encode, runs.Decode, quintainref12.Runs, Unruns. -/
import Derived.Test.YtagpkhbkdbaigaaGreatGet
namespace Go.Proofs.YtagpkhbkdbaigaaGreat
open Go.RowKit
set_option linter.unusedVariables false
set_option linter.unusedSimpArgs false
set_option maxRecDepth 10000
set_option synthInstance.maxSize 4000
set_option synthInstance.maxHeartbeats 400000
theorem putz_len {n : Int} (h1 : -9223372036854775808≤n) (h2 : n≤9223372036854775807) : (putL (zz n)).length≤10:=putL_len 9 _ (by
 have:=zz_lt h1 h2
 have h10 : (128 : Nat) ^ (9+1)=1180591620717411303424:=by decide
 omega)
theorem bc_snoc {l : List UInt8} {x : UInt8} : bc l++[[Value.int .u8 (x.toNat : Int)]].flatten=bc (l++[x]):=by simp [bc]
structure Same (bs : List UInt8) (i e : Nat) : Prop where
 lt : i < e
 le : e≤bs.length
 same : ∀ (j : Nat) (h : j < bs.length),i≤j→j < e→bs[j]=bs[i]'(by omega)
theorem Same.one {bs : List UInt8} {i : Nat} (h : i < bs.length) : Same bs i (i+1):=⟨by omega,by omega,fun j hj h1 h2=>by
 have : j=i:=by omega
 subst this; rfl⟩
theorem Same.more {bs : List UInt8} {i e : Nat} (h : Same bs i e) (he : e < bs.length) (hb : bs[e]'he=bs[i]'(by have:=h.lt; omega)) : Same bs i (e+1):=⟨by have:=h.lt; omega,by omega,fun j hj h1 h2=>by
 by_cases hje : j=e
 · subst hje; exact hb
 · exact h.same j hj h1 (by omega)⟩
theorem Same.runs {bs : List UInt8} {i e : Nat} (h : Same bs i e) (hi : i < bs.length) (hn : ∀ he : e < bs.length,bs[e]≠bs[i]) (last : UInt8) :
   runsL (bs.drop i) last=putL (zz ((e - i : Nat) : Int))++(bs[i] ^^^ last)::runsL (bs.drop e) bs[i]:=by
 have h1:=h.lt
 have h2:=h.le
 have hr : runN bs[i] (bs.drop (i+1))=e - i - 1:=by
   refine runN_eq (fun j hj=>?_) ?_
   · rw [List.getElem?_drop,List.getElem?_eq_getElem (by omega),h.same (i+1+j) (by omega) (by omega) (by omega)]
   · rw [List.getElem?_drop,show i+1+(e - i - 1)=e from by omega]
     rcases Nat.lt_or_ge e bs.length with he | he
     · rw [List.getElem?_eq_getElem he]
       exact fun hx=>hn he (Option.some.inj hx)
     · rw [List.getElem?_eq_none he]; simp
 rw [List.drop_eq_getElem_cons hi,runsL_cons,hr,List.drop_drop,show i+1+(e - i - 1)=e from by omega,show e - i - 1+1=e - i from by omega]
theorem bc_atD {bs : List UInt8} {i : Nat} (h : i < bs.length) : (bc bs)[i]?=some (.int .u8 ((bs.getD i 0).toNat : Int)):=by rw [bc_at h,List.getD_eq_getElem?_getD,List.getElem?_eq_getElem h]; rfl
theorem RunsAt.get {p dn rest : List UInt8} {last : UInt8} {x : Int} {k : Nat} {er : Int} (h : RunsAt p dn last rest) (hp : p.length≤1000000) (h0 : rest≠[]) (hg : GetR rest x k er) :
   er=0∧1≤x∧k < rest.length∧(dn≠[]→(rest.getD k 0).toNat≠0)∧(dn.length : Int)+x≤p.length∧RunsAt p (dn++List.replicate x.toNat (last ^^^ rest.getD k 0)) (last ^^^ rest.getD k 0) (rest.drop (k+1)):=by
 obtain ⟨m,y,r,e1,e2,e3,e4⟩:=h.next h0
 obtain ⟨rfl,rfl,rfl⟩:=hg.2.2.2.2 ((m+1 : Nat) : Int) _ (by omega) (by omega) e1
 have hk : rest.getD (putL (zz ((m+1 : Nat) : Int))).length 0=y ^^^ last:=by rw [e1,List.getD_eq_getElem?_getD,List.getElem?_append_right (Nat.le_refl _)]; simp
 refine ⟨rfl,by omega,by rw [e1]; simp,by rw [hk]; exact e3,by omega,?_⟩
 rw [hk,xor_back,show ((m+1 : Nat) : Int).toNat=m+1 from by omega]
 have hd : rest.drop ((putL (zz ((m+1 : Nat) : Int))).length+1)=r:=by
   rw [e1,← List.drop_drop,List.drop_left]; rfl
 rw [hd]; exact e4
def Unr (bs : List UInt8) (m : Nat) (out : List UInt8) (er : Int) : Prop:=(er=0∨er=1∨er=4)∧out.length≤m∧∀ p : List UInt8,p.length≤m→bs=runsL p 0→out=p∧er=0
theorem getD_drop (bs : List UInt8) (i k : Nat) : (bs.drop i).getD k 0=bs.getD (i+k) 0:=by simp [List.getD_eq_getElem?_getD,List.getElem?_drop]
theorem Unr.bad {bs dn rest : List UInt8} {last : UInt8} {m k : Nat} {x er er' : Int} (hrn : ∀ p : List UInt8,p.length≤m→bs=runsL p 0→RunsAt p dn last rest) (hm : m≤1000000) (h0 : rest≠[]) (hg : GetR rest x k er)
   (hbad : er≠0∨x < 1∨rest.length≤k∨(dn≠[]∧(rest.getD k 0).toNat=0)∨(m : Int) < dn.length+x) (he : er'=1∨er'=4) : Unr bs m [] er':=by
 refine ⟨by omega,by simp,fun p hp e=>?_⟩
 exfalso
 obtain ⟨g1,g2,g3,g4,g5,_⟩:=(hrn p hp e).get (by omega) h0 hg
 rcases hbad with h | h | h | h | h
 · exact h g1
 · omega
 · omega
 · exact g4 h.1 h.2
 · omega
section
variable {W w : World} {L L' R : List SP} {n c m : Nat} {ad : Option Addr} {bs : List UInt8}
theorem runs_enc (hs : St W w L) (hb : bs.length≤65536) (hp : ∀ w',St W w' L→RdB w' ad bs.length bs) :
   Calls Tryz.prog 156 #[.slice ad bs.length c] w fun e w'=>∃ ad' c',e=.returned (.slice ad' (runsL bs 0).length c')∧St W w' (Sl 5 1 ad' (runsL bs 0).length c' (bc (runsL bs 0))::L):=by
 have hrl:=runsL_len bs 0
 refine calls_enter Tryz.func156 rfl Tryz.ntmps156 (Nat.le_of_ble_eq_true rfl) ?_
 intro a ha
 replace ha : Fr a 48 [(0,_)]:=ha
 refine WS<|WR ?_
 refine S1 ha fun a ha=>?_
 refine LN<|TN<|WS<|WR ?_
 refine S1 ha fun a ha=>?_
 refine LN<|TN<|WS<|WR ?_
 refine S1 ha fun a ha=>?_
 refine LN<|TN<|WS<|WS<|WR ?_
 refine S1 ha fun a ha=>?_
 refine LN<|TN<|wp_block ?_
 refine wp_loop_ghost (fun μ a w=>∃ (i c' : Nat) (ad' : Option Addr) (dn : List UInt8) (last : UInt8),(μ=bs.length - i∧i≤bs.length∧dn++runsL (bs.drop i) last=runsL bs 0)∧Fr a 48 [(0,.slice ad bs.length c),(3,.slice ad' dn.length c'),(4,.int .u8 (last.toNat : Int)),(5,.int .i64 i)]∧St W w (Sl 5 1 ad' dn.length c' (bc dn)::L)) (bs.length) ?_ ?_
 · exact ⟨0,0,none,[],0,⟨rfl,by omega,rfl⟩,ha.keep [0,3,4,5],hs.sl0 5 1 none⟩
 ·
  clear ha hs
  rintro μ a w ⟨i,c',ad',dn,last,⟨rfl,hi,hdn⟩,ha,hs⟩
  refine WS<|WS<|WR ?_
  iterate 4 (refine S1 ha fun a ha=>?_)
  refine LN<|TN ?_
  refine WI ha (fun hc0=>?_) (fun hc0=>?_)
  ·
   obtain ⟨bb,oo,rfl,_⟩:=(hp _ hs.tail).get (by omega)
   have hil : i < bs.length:=by omega
   have hdl : dn.length≤11*bs.length:=by
     have:=congrArg List.length hdn
     rw [List.length_append] at this
     omega
   refine WK<|TN<|wp_block<|WS<|WR ?_
   iterate 2 (refine S1 ha fun a ha=>?_)
   refine LN<|TN<|WS<|wp_block ?_
   refine wp_loop_ghost (fun μ a w=>∃ (k : Nat),(μ=bs.length - k∧i≤k∧k≤bs.length∧(k=i∨Same bs i k))∧Fr a 48 [(0,.slice (some ⟨bb,oo,none⟩) bs.length c),(3,.slice ad' dn.length c'),(4,.int .u8 (last.toNat : Int)),(5,.int .i64 i),(6,.int .i64 k)]∧St W w (Sl 5 1 ad' dn.length c' (bc dn)::L)) (bs.length - i) ?_ ?_
   · exact ⟨i,⟨rfl,by omega,by omega,.inl rfl⟩,ha.keep [0,3,4,5,6],hs⟩
   ·
    clear ha hs
    rintro μ a w ⟨k,⟨rfl,hik,hk,hsm⟩,ha,hs⟩
    refine WS ?_
    refine wp_seq_cut (M:=fun a w=>∃ z : Bool,(z=true→Same bs i (k+1))∧(z=false→Same bs i k∧∀ he : k < bs.length,bs[k]≠bs[i])∧Fr a 48 [(0,.slice (some ⟨bb,oo,none⟩) bs.length c),(3,.slice ad' dn.length c'),(4,.int .u8 (last.toNat : Int)),(5,.int .i64 i),(6,.int .i64 k),(26,.bool z)]∧St W w (Sl 5 1 ad' dn.length c' (bc dn)::L)) ?_ ?_
    ·
     refine DW (m:=15) (Old w.drew) [12] [0,1,2,3,4,5,6,7,9,10,11,8,12,13,14] Ty.mixed (pk_then (pk_then (pk_then (pk_blk (pk_then (pk_blk (pk_then (pk_blk (pk_then pk_body))))))))) (fun hpk=>?_)
     replace hs:=hs.drew
     have hC:=Old.refl w.drew
     generalize w.drew=w at hs hC hpk ⊢
     have hr:=(hp _ hs.tail).rd (by omega)
     iterate 5 (refine DP hpk ha rfl fun a ha=>?_)
     refine ha.by (s:=16) (fun hg4 ha=>?_) (fun hg4 ha=>?_)
     ·
      iterate 2 (refine DPg (s:=16) hpk ha rfl fun a ha=>?_)
      refine DQ hpk ha rfl (wgT ha rfl (s:=16)) (fun w=>ex_indexAddr ha Tryz.underlying22 Ty.t5 (by omega)) fun a ha=>?_
      rw [Nat.mul_one] at ha
      iterate 2 (refine DPg (s:=16) hpk ha rfl fun a ha=>?_)
      refine DQ hpk ha rfl (wgT ha rfl (s:=16)) (fun w=>ex_indexAddr ha Tryz.underlying22 Ty.t5 (by omega)) fun a ha=>?_
      rw [Nat.mul_one] at ha
      refine DH hpk ha rfl (wgT ha rfl (s:=16)) (fun w hc=>ex_load1 ha Tryz.underlying5 rfl ((hc.rd hr) k _ (bc_at (i:=k) (bs:=bs) (show k < bs.length by omega)))) hC fun a ha=>?_
      refine D1 rfl (st_set ha (wgT ha rfl (s:=16)) (ex_load1 ha Tryz.underlying5 rfl ((hC.rd hr) i _ (bc_at hil))) rfl fun a ha=>?_)
      refine ⟨fun _=>hC,?_⟩
      refine DPg (s:=16) hpk ha rfl fun a ha=>?_
      refine DT hpk ha rfl fun a ha=>?_
      refine DD<|TN ?_
      have hkl : k < bs.length:=by omega
      refine ⟨_,fun h=>?_,fun h=>?_,ha.keep [0,3,4,5,6,26],hs⟩
      · have he : bs[k]=bs[i]:=UInt8.toNat_inj.1 (by have:=of_decide_eq_true h; omega)
        rcases hsm with rfl | hsm
        · exact Same.one hil
        · exact hsm.more hkl he
      · have he : bs[k]≠bs[i]:=fun e=>of_decide_eq_false h (by rw [e])
        rcases hsm with rfl | hsm
        · exact absurd rfl he
        · exact ⟨hsm,fun _=>he⟩
     ·
      iterate 6 (refine DO (s:=16) hpk ha rfl fun a ha=>?_)
      iterate 2 (refine DOH (s:=16) hpk ha rfl hC fun a ha=>?_)
      refine DO (s:=16) hpk ha rfl fun a ha=>?_
      refine DF hpk ha rfl fun a ha=>?_
      refine DD<|TN ?_
      refine ⟨_,fun h=>(by cases h),fun h=>?_,ha.keep [0,3,4,5,6,26],hs⟩
      rcases hsm with rfl | hsm
      · omega
      · exact ⟨hsm,fun _=>absurd (show k < bs.length by assumption) (by omega)⟩
    ·
     clear ha; (try clear hs)
     intro a w hcut
     obtain ⟨z,hz1,hz0,ha,hs⟩:=hcut
     refine WI ha (fun hc1=>?_) (fun hc1=>?_)
     ·
      have hsm':=hz1 hc1
      refine WK<|TN<|wp_block<|WR ?_
      refine S1 ha fun a ha=>?_
      refine SK (st_set ha rfl (ex_addI ha (by omega) (by omega)) rfl fun a ha=>?_)
      refine S1d ha fun a ha=>?_
      refine LN<|BN<|TN ?_
      exact ⟨bs.length - (k+1),by have:=hsm'.le; omega,k+1,⟨rfl,by omega,hsm'.le,.inr hsm'⟩,ha.keep [0,3,4,5,6],hs⟩
     ·
      obtain ⟨hsm',hne⟩:=hz0 hc1
      rw [hsm'.runs hil hne last] at hdn
      have hkl:=hsm'.lt
      have hke:=hsm'.le
      refine wp_exit<|TE<|TE<|blk_e<|TN<|WS ?_
      refine DW (m:=14) (fun w=>Rd w bb oo (bc bs)) [4] [0,1,2,3,5,6,7,9,8,10,4,11,12,13] Ty.mixed (pk_then (pk_blk (pk_then (pk_blk (pk_then pk_body))))) (fun hpk=>?_)
      replace hs:=hs.drew
      generalize w.drew=w at hs hpk ⊢
      have hC:=(hp _ hs.tail).rd (by omega)
      have hpl:=putz_len (n:=((k - i : Nat) : Int)) (by omega) (by omega)
      iterate 3 (refine DP hpk ha rfl fun a ha=>?_)
      refine DQ hpk ha rfl rfl (fun w=>ex_subI ha (by omega) (by omega)) fun a ha=>?_
      rw [show ((k : Nat) : Int) - ((i : Nat) : Int)=((k - i : Nat) : Int) from by omega] at ha
      iterate 2 (refine DP hpk ha rfl fun a ha=>?_)
      refine DQ hpk ha rfl rfl (fun w=>ex_indexAddr ha Tryz.underlying22 Ty.t5 (by omega)) fun a ha=>?_
      rw [Nat.mul_one] at ha
      refine DP hpk ha rfl fun a ha=>?_
      refine DL hpk ha rfl (fun w hc=>hc i _ (bc_at hil)) hC fun a ha=>?_
      refine DQ hpk ha rfl rfl (fun w=>ex_xor8 ha) fun a ha=>?_
      refine D2 (i:=4) (j:=11) [11,12,13] [4,12,13] (by kernel_rfl) rfl rfl ?_ ?_
      ·
       refine st_call ha rfl Ty.c146 rfl (put_bytes (N:=((k - i : Nat) : Int)) (hs.pick (Sl 5 1 ad' dn.length c' (bc dn))) (by omega) (by omega) (by omega)) ?_; clear ha hs
       rintro e w ⟨adp,cp,rfl,hs⟩
       refine ⟨_,rfl,?_⟩
       intro a ha
       replace hC : (fun w=>Rd w bb oo (bc bs)) w:=((hp _ hs.sub).rd (by omega))
       refine ⟨fun _=>hC,?_⟩
       refine D1 rfl (st_buildSlice ha rfl hs Tryz.underlying22 Ty.t5 rfl rfl rfl rfl (by decide) (by decide) fun b40 a w ha hs ho=>?_)
       (try replace hC:=hC.trans ho); clear ho
       refine ⟨fun h=>absurd h (by decide),?_⟩
       refine D1 rfl (st_append ha rfl hs Tryz.underlying22 Ty.t5 rfl rfl hs.rdAll rfl (by simp [Value.oneCell']) (by decide) (by decide) (by rw [List.length_append]; omega) fun ad41 c41 a w ha hs=>?_)
       refine ⟨fun h=>absurd h (by decide),?_⟩
       replace ha:=ha.del 3
       refine DP hpk ha rfl fun a ha=>?_
       rw [bc_snoc] at hs
       have hdn' : (dn++putL (zz ((k - i : Nat) : Int))++[bs[i] ^^^ last])++runsL (bs.drop k) bs[i]=runsL bs 0:=by rw [← hdn]; simp
       rw [show (dn++putL (zz ((k - i : Nat) : Int))).length+1=(dn++putL (zz ((k - i : Nat) : Int))++[bs[i] ^^^ last]).length from by simp only [List.length_append,List.length_singleton]] at ha hs
       generalize dn++putL (zz ((k - i : Nat) : Int))++[bs[i] ^^^ last]=dn' at ha hs hdn'
       refine DD<|TN<|WS<|WR ?_
       iterate 2 (refine S1 ha fun a ha=>?_)
       refine SK (st_set ha rfl (ex_indexAddr ha Tryz.underlying22 Ty.t5 (by omega)) rfl fun a ha=>?_)
       rw [Nat.mul_one] at ha
       refine SL ha (((hp _ hs.sub).rd (by omega)) i _ (bc_at hil)) fun a ha=>?_
       refine S1d ha fun a ha=>?_
       refine LN<|TN<|WR ?_
       refine S1 ha fun a ha=>?_
       refine S1d ha fun a ha=>?_
       refine LN<|BN<|TN ?_
       exact ⟨bs.length - k,by omega,k,_,ad41,dn',bs[i],⟨rfl,by omega,hdn'⟩,ha.keep [0,3,4,5],hs.sub⟩
      ·
       refine st_buildSlice ha rfl hs Tryz.underlying22 Ty.t5 rfl rfl rfl rfl (by decide) (by decide) fun b40 a w ha hs ho=>?_
       (try replace hC:=hC.trans ho); clear ho
       refine ⟨fun h=>absurd h (by decide),?_⟩
       refine D1 rfl (st_call ha rfl Ty.c146 rfl (put_bytes (N:=((k - i : Nat) : Int)) (hs.pick (Sl 5 1 ad' dn.length c' (bc dn))) (by omega) (by omega) (by omega)) ?_); clear ha hs
       rintro e w ⟨adp,cp,rfl,hs⟩
       refine ⟨_,rfl,?_⟩
       intro a ha
       replace hC : (fun w=>Rd w bb oo (bc bs)) w:=((hp _ hs.sub).rd (by omega))
       refine ⟨fun _=>hC,?_⟩
       refine D1 rfl (st_append ha rfl hs Tryz.underlying22 Ty.t5 rfl rfl hs.rdAll rfl (by simp [Value.oneCell']) (by decide) (by decide) (by rw [List.length_append]; omega) fun ad41 c41 a w ha hs=>?_)
       refine ⟨fun h=>absurd h (by decide),?_⟩
       replace ha:=ha.del 3
       refine DP hpk ha rfl fun a ha=>?_
       rw [bc_snoc] at hs
       have hdn' : (dn++putL (zz ((k - i : Nat) : Int))++[bs[i] ^^^ last])++runsL (bs.drop k) bs[i]=runsL bs 0:=by rw [← hdn]; simp
       rw [show (dn++putL (zz ((k - i : Nat) : Int))).length+1=(dn++putL (zz ((k - i : Nat) : Int))++[bs[i] ^^^ last]).length from by simp only [List.length_append,List.length_singleton]] at ha hs
       generalize dn++putL (zz ((k - i : Nat) : Int))++[bs[i] ^^^ last]=dn' at ha hs hdn'
       refine DD<|TN<|WS<|WR ?_
       iterate 2 (refine S1 ha fun a ha=>?_)
       refine SK (st_set ha rfl (ex_indexAddr ha Tryz.underlying22 Ty.t5 (by omega)) rfl fun a ha=>?_)
       rw [Nat.mul_one] at ha
       refine SL ha (((hp _ hs.sub).rd (by omega)) i _ (bc_at hil)) fun a ha=>?_
       refine S1d ha fun a ha=>?_
       refine LN<|TN<|WR ?_
       refine S1 ha fun a ha=>?_
       refine S1d ha fun a ha=>?_
       refine LN<|BN<|TN ?_
       exact ⟨bs.length - k,by omega,k,_,ad41,dn',bs[i],⟨rfl,by omega,hdn'⟩,ha.keep [0,3,4,5],hs.sub⟩
  ·
   rw [List.drop_eq_nil_of_le (by omega),runsL_nil,List.append_nil] at hdn
   refine wp_exit<|TE<|TE<|blk_e<|TN<|WS<|WR ?_
   iterate 2 (refine S1 ha fun a ha=>?_)
   refine LN<|TN<|wp_ret ?_
   refine ret1 ha rfl ?_
   exact ⟨_,_,by rw [← hdn],by rw [← hdn]; exact hs⟩
theorem refRuns_spec (hs : St W w L) (hb : bs.length≤65536) (hp : ∀ w',St W w' L→RdB w' ad bs.length bs) :
   Calls Tryz.prog 45 #[.slice ad bs.length c] w fun e w'=>∃ ad' c',e=.returned (.slice ad' (runsL bs 0).length c')∧St W w' (Sl 5 1 ad' (runsL bs 0).length c' (bc (runsL bs 0))::L):=by
 have hrl:=runsL_len bs 0
 refine calls_enter Tryz.func45 rfl Tryz.ntmps45 (Nat.le_of_ble_eq_true rfl) ?_
 intro a ha
 replace ha : Fr a 52 [(0,_)]:=ha
 refine WS<|WR ?_
 refine S1 ha fun a ha=>?_
 refine LN<|TN<|WS<|WR ?_
 refine S1 ha fun a ha=>?_
 refine LN<|TN<|WS<|WR ?_
 refine S1 ha fun a ha=>?_
 refine LN<|TN<|WS<|WS<|WR ?_
 refine S1 ha fun a ha=>?_
 refine LN<|TN<|wp_block ?_
 refine wp_loop_ghost (fun μ a w=>∃ (i c' : Nat) (ad' : Option Addr) (dn : List UInt8) (last : UInt8),(μ=bs.length - i∧i≤bs.length∧dn++runsL (bs.drop i) last=runsL bs 0)∧Fr a 52 [(0,.slice ad bs.length c),(3,.slice ad' dn.length c'),(4,.int .u8 (last.toNat : Int)),(5,.int .i64 i)]∧St W w (Sl 5 1 ad' dn.length c' (bc dn)::L)) (bs.length) ?_ ?_
 · exact ⟨0,0,none,[],0,⟨rfl,by omega,rfl⟩,ha.keep [0,3,4,5],hs.sl0 5 1 none⟩
 ·
  clear ha hs
  rintro μ a w ⟨i,c',ad',dn,last,⟨rfl,hi,hdn⟩,ha,hs⟩
  refine WS<|WS<|WR ?_
  iterate 4 (refine S1 ha fun a ha=>?_)
  refine LN<|TN ?_
  refine WI ha (fun hc0=>?_) (fun hc0=>?_)
  ·
   obtain ⟨bb,oo,rfl,_⟩:=(hp _ hs.tail).get (by omega)
   have hil : i < bs.length:=by omega
   have hdl : dn.length≤11*bs.length:=by
     have:=congrArg List.length hdn
     rw [List.length_append] at this
     omega
   refine WK<|TN<|wp_block<|WS<|WR ?_
   refine S1 ha fun a ha=>?_
   refine LN<|TN<|WS<|wp_block ?_
   refine wp_loop_ghost (fun μ a w=>∃ (k : Nat),(μ=bs.length - k∧k≤bs.length∧Same bs i k)∧Fr a 52 [(0,.slice (some ⟨bb,oo,none⟩) bs.length c),(3,.slice ad' dn.length c'),(4,.int .u8 (last.toNat : Int)),(5,.int .i64 i),(6,.int .i64 ((k - i : Nat) : Int))]∧St W w (Sl 5 1 ad' dn.length c' (bc dn)::L)) (bs.length - (i+1)) ?_ ?_
   · exact ⟨i+1,⟨rfl,by omega,Same.one hil⟩,by rw [show i+1 - i=1 from by omega]; exact ha.keep [0,3,4,5,6],hs⟩
   ·
    clear ha hs
    rintro μ a w ⟨k,⟨rfl,hk,hsm⟩,ha,hs⟩
    refine WS ?_
    refine wp_seq_cut (M:=fun a w=>∃ z : Bool,(z=true→Same bs i (k+1))∧(z=false→∀ he : k < bs.length,bs[k]≠bs[i])∧Fr a 52 [(0,.slice (some ⟨bb,oo,none⟩) bs.length c),(3,.slice ad' dn.length c'),(4,.int .u8 (last.toNat : Int)),(5,.int .i64 i),(6,.int .i64 ((k - i : Nat) : Int)),(29,.bool z)]∧St W w (Sl 5 1 ad' dn.length c' (bc dn)::L)) ?_ ?_
    ·
     have hik:=hsm.lt
     refine DW (m:=19) (Old w.drew) [16] [0,1,2,3,4,5,6,7,8,9,10,11,13,14,15,12,16,17,18] Ty.mixed (pk_then (pk_then (pk_then (pk_blk (pk_then (pk_blk (pk_then (pk_blk (pk_then pk_body))))))))) (fun hpk=>?_)
     replace hs:=hs.drew
     have hC:=Old.refl w.drew
     generalize w.drew=w at hs hC hpk ⊢
     have hr:=(hp _ hs.tail).rd (by omega)
     iterate 2 (refine DP hpk ha rfl fun a ha=>?_)
     refine DQ hpk ha rfl rfl (fun w=>ex_addI ha (by omega) (by omega)) fun a ha=>?_
     rw [show ((i : Nat) : Int)+((k - i : Nat) : Int)=(k : Int) from by omega] at ha
     iterate 4 (refine DP hpk ha rfl fun a ha=>?_)
     refine ha.by (s:=17) (fun hg6 ha=>?_) (fun hg6 ha=>?_)
     ·
      iterate 3 (refine DPg (s:=17) hpk ha rfl fun a ha=>?_)
      refine DQ hpk ha rfl (wgT ha rfl (s:=17)) (fun w=>ex_addI ha (by omega) (by omega)) fun a ha=>?_
      rw [show ((i : Nat) : Int)+((k - i : Nat) : Int)=(k : Int) from by omega] at ha
      refine DQ hpk ha rfl (wgT ha rfl (s:=17)) (fun w=>ex_indexAddr ha Tryz.underlying22 Ty.t5 (by omega)) fun a ha=>?_
      rw [Nat.mul_one] at ha
      iterate 2 (refine DPg (s:=17) hpk ha rfl fun a ha=>?_)
      refine DQ hpk ha rfl (wgT ha rfl (s:=17)) (fun w=>ex_indexAddr ha Tryz.underlying22 Ty.t5 (by omega)) fun a ha=>?_
      rw [Nat.mul_one] at ha
      refine DH hpk ha rfl (wgT ha rfl (s:=17)) (fun w hc=>ex_load1 ha Tryz.underlying5 rfl ((hc.rd hr) k _ (bc_at (i:=k) (bs:=bs) (show k < bs.length by omega)))) hC fun a ha=>?_
      refine D1 rfl (st_set ha (wgT ha rfl (s:=17)) (ex_load1 ha Tryz.underlying5 rfl ((hC.rd hr) i _ (bc_at hil))) rfl fun a ha=>?_)
      refine ⟨fun _=>hC,?_⟩
      refine DPg (s:=17) hpk ha rfl fun a ha=>?_
      refine DT hpk ha rfl fun a ha=>?_
      refine DD<|TN ?_
      have hkl : k < bs.length:=by omega
      refine ⟨_,fun h=>?_,fun h=>?_,ha.keep [0,3,4,5,6,29],hs⟩
      · have he : bs[k]=bs[i]:=UInt8.toNat_inj.1 (by have:=of_decide_eq_true h; omega)
        exact hsm.more hkl he
      · have he : bs[k]≠bs[i]:=fun e=>of_decide_eq_false h (by rw [e])
        exact fun _=>he
     ·
      iterate 8 (refine DO (s:=17) hpk ha rfl fun a ha=>?_)
      iterate 2 (refine DOH (s:=17) hpk ha rfl hC fun a ha=>?_)
      refine DO (s:=17) hpk ha rfl fun a ha=>?_
      refine DF hpk ha rfl fun a ha=>?_
      refine DD<|TN ?_
      refine ⟨_,fun h=>(by cases h),fun h=>?_,ha.keep [0,3,4,5,6,29],hs⟩
      exact fun _=>absurd (show k < bs.length by assumption) (by omega)
    ·
     clear ha; (try clear hs)
     intro a w hcut
     obtain ⟨z,hz1,hz0,ha,hs⟩:=hcut
     refine WI ha (fun hc1=>?_) (fun hc1=>?_)
     ·
      have hsm':=hz1 hc1
      refine WK<|TN<|wp_block<|WR ?_
      refine S1 ha fun a ha=>?_
      have hik:=hsm.lt
      have hk2 : ((k - i : Nat) : Int)≤65536:=by omega
      refine SK (st_set ha rfl (ex_addI ha (by omega) (by omega)) rfl fun a ha=>?_)
      rw [show ((k - i : Nat) : Int)+1=((k+1 - i : Nat) : Int) from by omega] at ha
      refine S1d ha fun a ha=>?_
      refine LN<|BN<|TN ?_
      exact ⟨bs.length - (k+1),by have:=hsm'.le; omega,k+1,⟨rfl,hsm'.le,hsm'⟩,ha.keep [0,3,4,5,6],hs⟩
     ·
      have hne:=hz0 hc1
      rw [hsm.runs hil hne last] at hdn
      have hkl:=hsm.lt
      have hke:=hsm.le
      refine wp_exit<|TE<|TE<|blk_e<|TN<|WS ?_
      refine DW (m:=13) (fun w=>Rd w bb oo (bc bs)) [2,3] [0,1,4,5,6,8,7,9,2,3,10,11,12] Ty.mixed (pk_then (pk_blk (pk_then (pk_blk (pk_then pk_body))))) (fun hpk=>?_)
      replace hs:=hs.drew
      generalize w.drew=w at hs hpk ⊢
      have hC:=(hp _ hs.tail).rd (by omega)
      have hpl:=putz_len (n:=((k - i : Nat) : Int)) (by omega) (by omega)
      iterate 4 (refine DP hpk ha rfl fun a ha=>?_)
      refine DQ hpk ha rfl rfl (fun w=>ex_indexAddr ha Tryz.underlying22 Ty.t5 (by omega)) fun a ha=>?_
      rw [Nat.mul_one] at ha
      refine DP hpk ha rfl fun a ha=>?_
      refine DL hpk ha rfl (fun w hc=>hc i _ (bc_at hil)) hC fun a ha=>?_
      refine DQ hpk ha rfl rfl (fun w=>ex_xor8 ha) fun a ha=>?_
      refine D2 (i:=2) (j:=10) [3,10,11,12] [2,3,11,12] (by kernel_rfl) rfl rfl ?_ ?_
      ·
       refine st_call ha rfl Ty.c43 rfl (refPut_spec (N:=((k - i : Nat) : Int)) hs (by omega) (by omega)) ?_; clear ha hs
       rintro e w ⟨adp,cp,rfl,hs⟩
       refine ⟨_,rfl,?_⟩
       intro a ha
       replace hC : (fun w=>Rd w bb oo (bc bs)) w:=((hp _ hs.sub).rd (by omega))
       refine ⟨fun _=>hC,?_⟩
       refine D2 (i:=3) (j:=10) [10,11,12] [3,11,12] (by kernel_rfl) rfl rfl ?_ ?_
       ·
        obtain ⟨bp,op,rfl,hrp⟩:=(hs.rdB adp (putL (zz ((k - i : Nat) : Int))) rfl rfl).get (putL_pos _)
        refine st_append ha rfl hs Tryz.underlying22 Ty.t5 rfl rfl hrp (by rw [bc_len,Nat.mul_one]) (bc_one _) (putL_pos _) (by decide) (by omega) fun ad35 c35 a w ha hs=>?_
        replace hC : (fun w=>Rd w bb oo (bc bs)) w:=((hp _ hs.sub).rd (by omega))
        refine ⟨fun _=>hC,?_⟩
        refine D1 rfl (st_buildSlice ha rfl hs Tryz.underlying22 Ty.t5 rfl rfl rfl rfl (by decide) (by decide) fun b42 a w ha hs ho=>?_)
        (try replace hC:=hC.trans ho); clear ho
        refine ⟨fun h=>absurd h (by decide),?_⟩
        refine D1 rfl (st_append ha rfl hs Tryz.underlying22 Ty.t5 rfl rfl hs.rdAll rfl (by simp [Value.oneCell']) (by decide) (by decide) (by omega) fun ad43 c43 a w ha hs=>?_)
        refine ⟨fun h=>absurd h (by decide),?_⟩
        replace ha:=ha.del 3
        refine DP hpk ha rfl fun a ha=>?_
        rw [← bc_app,bc_snoc] at hs
        have hdn' : (dn++putL (zz ((k - i : Nat) : Int))++[bs[i] ^^^ last])++runsL (bs.drop k) bs[i]=runsL bs 0:=by rw [← hdn]; simp
        rw [show dn.length+(putL (zz ((k - i : Nat) : Int))).length+1=(dn++putL (zz ((k - i : Nat) : Int))++[bs[i] ^^^ last]).length from by simp only [List.length_append,List.length_singleton]] at ha hs
        generalize dn++putL (zz ((k - i : Nat) : Int))++[bs[i] ^^^ last]=dn' at ha hs hdn'
        refine DD<|TN<|WS<|WR ?_
        iterate 2 (refine S1 ha fun a ha=>?_)
        refine SK (st_set ha rfl (ex_indexAddr ha Tryz.underlying22 Ty.t5 (by omega)) rfl fun a ha=>?_)
        rw [Nat.mul_one] at ha
        refine SL ha (((hp _ hs.sub).rd (by omega)) i _ (bc_at hil)) fun a ha=>?_
        refine S1d ha fun a ha=>?_
        refine LN<|TN<|WR ?_
        iterate 2 (refine S1 ha fun a ha=>?_)
        refine SK (st_set ha rfl (ex_addI ha (by omega) (by omega)) rfl fun a ha=>?_)
        rw [show ((i : Nat) : Int)+((k - i : Nat) : Int)=(k : Int) from by omega] at ha
        refine S1d ha fun a ha=>?_
        refine LN<|BN<|TN ?_
        exact ⟨bs.length - k,by omega,k,_,ad43,dn',bs[i],⟨rfl,by omega,hdn'⟩,ha.keep [0,3,4,5],hs.sub⟩
       ·
        refine st_buildSlice ha rfl hs Tryz.underlying22 Ty.t5 rfl rfl rfl rfl (by decide) (by decide) fun b42 a w ha hs ho=>?_
        (try replace hC:=hC.trans ho); clear ho
        refine ⟨fun h=>absurd h (by decide),?_⟩
        obtain ⟨bp,op,rfl,hrp⟩:=(hs.rdB adp (putL (zz ((k - i : Nat) : Int))) rfl rfl).get (putL_pos _)
        refine D1 rfl (st_append ha rfl hs Tryz.underlying22 Ty.t5 rfl rfl hrp (by rw [bc_len,Nat.mul_one]) (bc_one _) (putL_pos _) (by decide) (by omega) fun ad35 c35 a w ha hs=>?_)
        replace hC : (fun w=>Rd w bb oo (bc bs)) w:=((hp _ hs.sub).rd (by omega))
        refine ⟨fun _=>hC,?_⟩
        refine D1 rfl (st_append ha rfl hs Tryz.underlying22 Ty.t5 rfl rfl hs.rdAll rfl (by simp [Value.oneCell']) (by decide) (by decide) (by omega) fun ad43 c43 a w ha hs=>?_)
        refine ⟨fun h=>absurd h (by decide),?_⟩
        replace ha:=ha.del 3
        refine DP hpk ha rfl fun a ha=>?_
        rw [← bc_app,bc_snoc] at hs
        have hdn' : (dn++putL (zz ((k - i : Nat) : Int))++[bs[i] ^^^ last])++runsL (bs.drop k) bs[i]=runsL bs 0:=by rw [← hdn]; simp
        rw [show dn.length+(putL (zz ((k - i : Nat) : Int))).length+1=(dn++putL (zz ((k - i : Nat) : Int))++[bs[i] ^^^ last]).length from by simp only [List.length_append,List.length_singleton]] at ha hs
        generalize dn++putL (zz ((k - i : Nat) : Int))++[bs[i] ^^^ last]=dn' at ha hs hdn'
        refine DD<|TN<|WS<|WR ?_
        iterate 2 (refine S1 ha fun a ha=>?_)
        refine SK (st_set ha rfl (ex_indexAddr ha Tryz.underlying22 Ty.t5 (by omega)) rfl fun a ha=>?_)
        rw [Nat.mul_one] at ha
        refine SL ha (((hp _ hs.sub).rd (by omega)) i _ (bc_at hil)) fun a ha=>?_
        refine S1d ha fun a ha=>?_
        refine LN<|TN<|WR ?_
        iterate 2 (refine S1 ha fun a ha=>?_)
        refine SK (st_set ha rfl (ex_addI ha (by omega) (by omega)) rfl fun a ha=>?_)
        rw [show ((i : Nat) : Int)+((k - i : Nat) : Int)=(k : Int) from by omega] at ha
        refine S1d ha fun a ha=>?_
        refine LN<|BN<|TN ?_
        exact ⟨bs.length - k,by omega,k,_,ad43,dn',bs[i],⟨rfl,by omega,hdn'⟩,ha.keep [0,3,4,5],hs.sub⟩
      ·
       refine st_buildSlice ha rfl hs Tryz.underlying22 Ty.t5 rfl rfl rfl rfl (by decide) (by decide) fun b42 a w ha hs ho=>?_
       (try replace hC:=hC.trans ho); clear ho
       refine ⟨fun h=>absurd h (by decide),?_⟩
       refine D1 rfl (st_call ha rfl Ty.c43 rfl (refPut_spec (N:=((k - i : Nat) : Int)) hs (by omega) (by omega)) ?_); clear ha hs
       rintro e w ⟨adp,cp,rfl,hs⟩
       refine ⟨_,rfl,?_⟩
       intro a ha
       replace hC : (fun w=>Rd w bb oo (bc bs)) w:=((hp _ hs.sub).rd (by omega))
       refine ⟨fun _=>hC,?_⟩
       obtain ⟨bp,op,rfl,hrp⟩:=(hs.rdB adp (putL (zz ((k - i : Nat) : Int))) rfl rfl).get (putL_pos _)
       refine D1 rfl (st_append ha rfl hs Tryz.underlying22 Ty.t5 rfl rfl hrp (by rw [bc_len,Nat.mul_one]) (bc_one _) (putL_pos _) (by decide) (by omega) fun ad35 c35 a w ha hs=>?_)
       replace hC : (fun w=>Rd w bb oo (bc bs)) w:=((hp _ hs.sub).rd (by omega))
       refine ⟨fun _=>hC,?_⟩
       refine D1 rfl (st_append ha rfl hs Tryz.underlying22 Ty.t5 rfl rfl hs.rdAll rfl (by simp [Value.oneCell']) (by decide) (by decide) (by omega) fun ad43 c43 a w ha hs=>?_)
       refine ⟨fun h=>absurd h (by decide),?_⟩
       replace ha:=ha.del 3
       refine DP hpk ha rfl fun a ha=>?_
       rw [← bc_app,bc_snoc] at hs
       have hdn' : (dn++putL (zz ((k - i : Nat) : Int))++[bs[i] ^^^ last])++runsL (bs.drop k) bs[i]=runsL bs 0:=by rw [← hdn]; simp
       rw [show dn.length+(putL (zz ((k - i : Nat) : Int))).length+1=(dn++putL (zz ((k - i : Nat) : Int))++[bs[i] ^^^ last]).length from by simp only [List.length_append,List.length_singleton]] at ha hs
       generalize dn++putL (zz ((k - i : Nat) : Int))++[bs[i] ^^^ last]=dn' at ha hs hdn'
       refine DD<|TN<|WS<|WR ?_
       iterate 2 (refine S1 ha fun a ha=>?_)
       refine SK (st_set ha rfl (ex_indexAddr ha Tryz.underlying22 Ty.t5 (by omega)) rfl fun a ha=>?_)
       rw [Nat.mul_one] at ha
       refine SL ha (((hp _ hs.sub).rd (by omega)) i _ (bc_at hil)) fun a ha=>?_
       refine S1d ha fun a ha=>?_
       refine LN<|TN<|WR ?_
       iterate 2 (refine S1 ha fun a ha=>?_)
       refine SK (st_set ha rfl (ex_addI ha (by omega) (by omega)) rfl fun a ha=>?_)
       rw [show ((i : Nat) : Int)+((k - i : Nat) : Int)=(k : Int) from by omega] at ha
       refine S1d ha fun a ha=>?_
       refine LN<|BN<|TN ?_
       exact ⟨bs.length - k,by omega,k,_,ad43,dn',bs[i],⟨rfl,by omega,hdn'⟩,ha.keep [0,3,4,5],hs.sub⟩
  ·
   rw [List.drop_eq_nil_of_le (by omega),runsL_nil,List.append_nil] at hdn
   refine wp_exit<|TE<|TE<|blk_e<|TN<|WS<|WR ?_
   iterate 2 (refine S1 ha fun a ha=>?_)
   refine LN<|TN<|wp_ret ?_
   refine ret1 ha rfl ?_
   exact ⟨_,_,by rw [← hdn],by rw [← hdn]; exact hs⟩
theorem runs_dec (hs : St W w L) (hb : bs.length≤65536) (hc : bs.length≤c) (hm : m≤1000000) (hp : ∀ w',St W w' L→RdB w' ad bs.length bs) :
   Calls Tryz.prog 130 #[.slice ad bs.length c,.int .i64 m] w fun e w'=>∃ (out : List UInt8) (ad' : Option Addr) (c' : Nat) (er : Int),e=.returned (.tuple #[.slice ad' out.length c',.int .i64 er])∧Unr bs m out er∧St W w' (Sl 5 1 ad' out.length c' (bc out)::L):=by
 refine calls_enter Tryz.func130 rfl Tryz.ntmps130 (Nat.le_of_ble_eq_true rfl) ?_
 intro a ha
 replace ha : Fr a 79 [(0,_),(1,_)]:=ha
 refine WS<|WR ?_
 iterate 2 (refine S1 ha fun a ha=>?_)
 refine LN<|TN<|WS<|WR ?_
 refine S1 ha fun a ha=>?_
 refine LN<|TN<|WS<|WR ?_
 refine S1 ha fun a ha=>?_
 refine LN<|TN<|WS<|WS<|WR ?_
 refine S1 ha fun a ha=>?_
 refine LN<|TN<|wp_block ?_
 refine wp_loop_ghost (fun μ a w=>∃ (i c' : Nat) (ad' : Option Addr) (dn : List UInt8) (last : UInt8),(μ=bs.length - i∧i≤bs.length∧dn.length≤m∧(0 < i→dn≠[])∧∀ p : List UInt8,p.length≤m→bs=runsL p 0→RunsAt p dn last (bs.drop i))∧Fr a 79 [(0,.slice ad bs.length c),(1,.int .i64 m),(6,.slice ad' dn.length c'),(7,.int .u8 (last.toNat : Int)),(8,.int .i64 i)]∧St W w (Sl 5 1 ad' dn.length c' (bc dn)::L)) (bs.length) ?_ ?_
 · exact ⟨0,0,none,[],0,⟨rfl,by omega,by simp,by omega,fun p _ e=>by rw [List.drop_zero,e]; exact RunsAt.start p⟩,ha.keep [0,1,6,7,8],hs.sl0 5 1 none⟩
 ·
  clear ha hs
  rintro μ a w ⟨i,c',ad',dn,last,⟨rfl,hi,hdm,hd0,hrn⟩,ha,hs⟩
  refine WS<|WS<|WR ?_
  iterate 4 (refine S1 ha fun a ha=>?_)
  refine LN<|TN ?_
  refine WI ha (fun hc0=>?_) (fun hc0=>?_)
  ·
   obtain ⟨bb,oo,rfl,_⟩:=(hp _ hs.tail).get (by omega)
   have hil : i < bs.length:=by omega
   have hne : bs.drop i≠[]:=fun e=>by have:=congrArg List.length e; simp at this; omega
   refine WK<|TN<|wp_block<|WS<|WR ?_
   iterate 2 (refine S1 ha fun a ha=>?_)
   refine SK (st_set ha rfl (ex_sliceL ha Tryz.underlying22 Ty.t5 (by omega)) rfl fun a ha=>?_)
   rw [show bs.length - i=(bs.drop i).length from by simp] at ha
   refine SK (st_call ha rfl Ty.c153 rfl (num_get (bs:=bs.drop i) hs (by simp; omega) (fun w' hw=>(hp w' hw.tail).cutL hi hc)) ?_); clear ha hs
   rintro e w ⟨x,k,er,rfl,hg,hs⟩
   refine ⟨_,rfl,?_⟩
   intro a ha
   iterate 7 (refine S1 ha fun a ha=>?_)
   refine LN<|TN<|WS ?_
   refine wp_seq_cut (M:=fun a w=>∃ z : Bool,(z=true ↔ (er≠0∨x < 1∨bs.length≤i+k∨((bs.getD (i+k) 0).toNat=0∧0 < i)))∧Fr a 79 [(0,.slice (some ⟨bb,oo,none⟩) bs.length c),(1,.int .i64 m),(6,.slice ad' dn.length c'),(7,.int .u8 (last.toNat : Int)),(8,.int .i64 i),(9,.int .i64 x),(10,.int .i64 k),(50,.bool z)]∧St W w (Sl 5 1 ad' dn.length c' (bc dn)::L)) ?_ ?_
   ·
    have hdl : (bs.drop i).length=bs.length - i:=by simp
    have hgk:=hg.2.2.1
    have hge:=hg.2.1
    have hgb:=hg.1
    have hkl : k≤bs.length:=by
      by_cases h0 : er=0
      · have:=hgk h0; omega
      · have:=(hg.2.2.2.1 h0).1; omega
    refine WR ?_
    iterate 3 (refine S1 ha fun a ha=>?_)
    refine ha.by (s:=26) (fun hg2 ha=>?_) (fun hg2 ha=>?_)
    ·
     iterate 2 (refine SO (s:=26) ha fun a ha=>?_)
     refine PT ha fun a ha=>?_
     refine S1 ha fun a ha=>?_
     iterate 6 (refine SO (s:=30) ha fun a ha=>?_)
     refine PT ha fun a ha=>?_
     refine S1 ha fun a ha=>?_
     iterate 7 (refine SO (s:=38) ha fun a ha=>?_)
     refine SK (st_offU ha (wgF ha rfl (s:=38) rfl) rfl fun a ha=>?_)
     iterate 2 (refine SK (st_off ha (wgU ha rfl (s:=46)) rfl fun a ha=>?_))
     refine SO (s:=38) ha fun a ha=>?_
     refine PT ha fun a ha=>?_
     refine LN<|TN ?_
     exact ⟨_,by first | (rw [decide_eq_true_iff]; omega) | exact ⟨fun h=>(by cases h),fun h=>absurd h (by omega)⟩ | exact ⟨fun _=>by omega,fun _=>rfl⟩,ha.keep [0,1,6,7,8,9,10,50],hs⟩
    ·
     iterate 2 (refine S1g (s:=26) ha fun a ha=>?_)
     refine PF ha fun a ha=>?_
     refine S1 ha fun a ha=>?_
     refine ha.by (s:=30) (fun hg6 ha=>?_) (fun hg6 ha=>?_)
     ·
      iterate 6 (refine SO (s:=30) ha fun a ha=>?_)
      refine PT ha fun a ha=>?_
      refine S1 ha fun a ha=>?_
      iterate 7 (refine SO (s:=38) ha fun a ha=>?_)
      refine SK (st_offU ha (wgF ha rfl (s:=38) rfl) rfl fun a ha=>?_)
      iterate 2 (refine SK (st_off ha (wgU ha rfl (s:=46)) rfl fun a ha=>?_))
      refine SO (s:=38) ha fun a ha=>?_
      refine PT ha fun a ha=>?_
      refine LN<|TN ?_
      exact ⟨_,by first | (rw [decide_eq_true_iff]; omega) | exact ⟨fun h=>(by cases h),fun h=>absurd h (by omega)⟩ | exact ⟨fun _=>by omega,fun _=>rfl⟩,ha.keep [0,1,6,7,8,9,10,50],hs⟩
     ·
      iterate 2 (refine S1g (s:=30) ha fun a ha=>?_)
      refine SK (st_set ha (wgT ha rfl (s:=30)) (ex_addI ha (by omega) (by omega)) rfl fun a ha=>?_)
      iterate 3 (refine S1g (s:=30) ha fun a ha=>?_)
      refine PF ha fun a ha=>?_
      refine S1 ha fun a ha=>?_
      refine ha.by (s:=38) (fun hg14 ha=>?_) (fun hg14 ha=>?_)
      ·
       iterate 7 (refine SO (s:=38) ha fun a ha=>?_)
       refine SK (st_offU ha (wgF ha rfl (s:=38) rfl) rfl fun a ha=>?_)
       iterate 2 (refine SK (st_off ha (wgU ha rfl (s:=46)) rfl fun a ha=>?_))
       refine SO (s:=38) ha fun a ha=>?_
       refine PT ha fun a ha=>?_
       refine LN<|TN ?_
       exact ⟨_,by first | (rw [decide_eq_true_iff]; omega) | exact ⟨fun h=>(by cases h),fun h=>absurd h (by omega)⟩ | exact ⟨fun _=>by omega,fun _=>rfl⟩,ha.keep [0,1,6,7,8,9,10,50],hs⟩
      ·
       iterate 3 (refine S1g (s:=38) ha fun a ha=>?_)
       refine SK (st_set ha (wgT ha rfl (s:=38)) (ex_addI ha (by omega) (by omega)) rfl fun a ha=>?_)
       rw [show ((i : Nat) : Int)+((k : Nat) : Int)=((i+k : Nat) : Int) from by omega] at ha
       refine SK (st_set ha (wgT ha rfl (s:=38)) (ex_indexAddr ha Tryz.underlying22 Ty.t5 (by omega)) rfl fun a ha=>?_)
       rw [Nat.mul_one] at ha
       refine SLg (s:=38) ha (((hp _ hs.tail).rd (by omega)) (i+k) _ (bc_atD (by omega))) fun a ha=>?_
       iterate 2 (refine S1g (s:=38) ha fun a ha=>?_)
       refine ha.by (s:=46) (fun hg22 ha=>?_) (fun hg22 ha=>?_)
       ·
        iterate 2 (refine S1g (s:=46) ha fun a ha=>?_)
        refine PTg (s:=38) ha fun a ha=>?_
        refine PF ha fun a ha=>?_
        refine LN<|TN ?_
        exact ⟨_,by first | (rw [decide_eq_true_iff]; omega) | exact ⟨fun h=>(by cases h),fun h=>absurd h (by omega)⟩ | exact ⟨fun _=>by omega,fun _=>rfl⟩,ha.keep [0,1,6,7,8,9,10,50],hs⟩
       ·
        iterate 2 (refine SO (s:=46) ha fun a ha=>?_)
        refine PFg (s:=38) ha fun a ha=>?_
        refine PF ha fun a ha=>?_
        refine LN<|TN ?_
        exact ⟨_,by first | (rw [decide_eq_true_iff]; omega) | exact ⟨fun h=>(by cases h),fun h=>absurd h (by omega)⟩ | exact ⟨fun _=>by omega,fun _=>rfl⟩,ha.keep [0,1,6,7,8,9,10,50],hs⟩
   ·
    clear ha; (try clear hs)
    intro a w hcut
    obtain ⟨z,hz,ha,hs⟩:=hcut
    refine WI ha (fun hc1=>?_) (fun hc1=>?_)
    ·
     have hbad:=hz.1 hc1
     refine WS<|WR ?_
     iterate 2 (refine S1 ha fun a ha=>?_)
     refine LN<|TN<|wp_ret<|TR<|BR<|TR<|BR<|TR ?_
     refine ret2 ha rfl ?_
     exact ⟨[],none,0,1,rfl,Unr.bad hrn hm hne hg (by rw [getD_drop,List.length_drop]; rcases hbad with h | h | h | h; exact .inl h; exact .inr (.inl h); exact .inr (.inr (.inl (by omega))); exact .inr (.inr (.inr (.inl ⟨hd0 h.2,h.1⟩)))) (.inl rfl),hs.tail.sl0 _ _ _⟩
    ·
     have hgood : ¬ (er≠0∨x < 1∨bs.length≤i+k∨((bs.getD (i+k) 0).toNat=0∧0 < i)):=fun h=>absurd (hz.2 h) (by simp [hc1])
     refine WK<|TN<|WS<|WS<|WR ?_
     iterate 2 (refine S1 ha fun a ha=>?_)
     refine SK (st_set ha rfl (ex_max ha) rfl fun a ha=>?_)
     iterate 2 (refine S1 ha fun a ha=>?_)
     refine SK (st_set ha rfl (ex_subI ha (by omega) (by omega)) rfl fun a ha=>?_)
     refine S1 ha fun a ha=>?_
     refine LN<|TN ?_
     refine WI ha (fun hc2=>?_) (fun hc2=>?_)
     ·
      refine WS<|WR ?_
      iterate 2 (refine S1 ha fun a ha=>?_)
      refine LN<|TN<|wp_ret<|TR<|BR<|TR<|BR<|TR ?_
      refine ret2 ha rfl ?_
      exact ⟨[],none,0,4,rfl,Unr.bad hrn hm hne hg (.inr (.inr (.inr (.inr (by omega))))) (.inr rfl),hs.tail.sl0 _ _ _⟩
     ·
      refine WK<|TN<|WS<|WR ?_
      iterate 4 (refine S1 ha fun a ha=>?_)
      refine SK (st_set ha rfl (ex_addI ha (by omega) (by omega)) rfl fun a ha=>?_)
      rw [show ((i : Nat) : Int)+((k : Nat) : Int)=((i+k : Nat) : Int) from by omega] at ha
      refine SK (st_set ha rfl (ex_indexAddr ha Tryz.underlying22 Ty.t5 (by omega)) rfl fun a ha=>?_)
      rw [Nat.mul_one] at ha
      refine SL ha (((hp _ hs.tail).rd (by omega)) (i+k) _ (bc_atD (by omega))) fun a ha=>?_
      refine SK (st_set ha rfl (ex_xor8 ha) rfl fun a ha=>?_)
      refine S1d ha fun a ha=>?_
      refine LN ?_
      generalize hy : last ^^^ bs.getD (i+k) 0=y at ha
      refine TN<|WS<|WS<|WR ?_
      iterate 2 (refine S1 ha fun a ha=>?_)
      refine LN<|TN<|wp_block ?_
      refine wp_loop_ghost (fun μ a w=>∃ (j c2 : Nat) (ad2 : Option Addr),(μ=x.toNat - j∧j≤x.toNat)∧Fr a 79 [(0,.slice (some ⟨bb,oo,none⟩) bs.length c),(1,.int .i64 m),(6,.slice ad2 (dn++List.replicate j y).length c2),(7,.int .u8 (y.toNat : Int)),(8,.int .i64 i),(10,.int .i64 k),(66,.int .i64 x),(67,.int .i64 j)]∧St W w (Sl 5 1 ad2 (dn++List.replicate j y).length c2 (bc (dn++List.replicate j y))::L)) (x.toNat) ?_ ?_
      · exact ⟨0,c',ad',⟨rfl,by omega⟩,by rw [List.replicate_zero,List.append_nil]; exact ha.keep [0,1,6,7,8,10,66,67],by rw [List.replicate_zero,List.append_nil]; exact hs⟩
      ·
       clear ha hs
       rintro μ a w ⟨j,c2,ad2,⟨rfl,hj⟩,ha,hs⟩
       refine WS<|WR ?_
       refine S1 ha fun a ha=>?_
       refine LN<|TN<|WS ?_
       refine WI ha (fun hc3=>?_) (fun hc3=>?_)
       ·
        refine WK<|TN<|WS<|wp_block ?_
        have hjl : (dn++List.replicate j y).length=dn.length+j:=by simp
        refine WR ?_
        iterate 2 (refine S1 ha fun a ha=>?_)
        refine SK (st_buildSlice ha rfl hs Tryz.underlying22 Ty.t5 rfl rfl rfl rfl (by decide) (by decide) fun b71 a w ha hs ho=>?_)
        clear ho
        refine SK (st_append ha rfl hs Tryz.underlying22 Ty.t5 rfl rfl hs.rdAll rfl (by simp [Value.oneCell']) (by decide) (by decide) (by omega) fun ad72 c72 a w ha hs=>?_)
        refine S1d ha fun a ha=>?_
        rw [bc_snoc,show (dn++List.replicate j y)++[y]=dn++List.replicate (j+1) y from by rw [List.append_assoc,← List.replicate_succ']] at hs
        rw [show (dn++List.replicate j y).length+1=(dn++List.replicate (j+1) y).length from by simp; omega] at ha hs
        refine LN<|BN<|TN<|WR ?_
        refine SK (st_set ha rfl (ex_addI ha (by omega) (by omega)) rfl fun a ha=>?_)
        refine S1d ha fun a ha=>?_
        refine LN<|TN ?_
        exact ⟨x.toNat - (j+1),by omega,j+1,_,_,⟨rfl,by omega⟩,ha.keep [0,1,6,7,8,10,66,67],hs.sub⟩
       ·
        obtain rfl : j=x.toNat:=by omega
        refine wp_exit<|TE<|TE<|blk_e<|TN ?_
        have hnl : (dn++List.replicate x.toNat y).length=dn.length+x.toNat:=by simp
        refine WR ?_
        iterate 2 (refine S1 ha fun a ha=>?_)
        iterate 2 (refine SK (st_set ha rfl (ex_addI ha (by omega) (by omega)) rfl fun a ha=>?_))
        rw [show ((i : Nat) : Int)+(((k : Nat) : Int)+1)=((i+k+1 : Nat) : Int) from by omega] at ha
        refine S1d ha fun a ha=>?_
        refine LN<|BN<|TN ?_
        exact ⟨bs.length - (i+k+1),by omega,i+k+1,_,_,_,y,⟨rfl,by omega,by omega,fun _ e=>(by rw [e] at hnl; simp at hnl; omega),fun p hp' e=>(by
          have h2:=((hrn p hp' e).get (by omega) hne hg).2.2.2.2.2
          rw [getD_drop,hy,List.drop_drop] at h2
          exact h2)⟩,ha.keep [0,1,6,7,8],hs⟩
  ·
   refine wp_exit<|TE<|TE<|blk_e<|TN<|WS<|WR ?_
   iterate 3 (refine S1 ha fun a ha=>?_)
   refine LN<|TN<|wp_ret ?_
   refine ret2 ha rfl ?_
   exact ⟨dn,_,_,0,rfl,⟨by omega,hdm,fun p hp' e=>⟨by have h2:=hrn p hp' e; rw [List.drop_eq_nil_of_le (by omega)] at h2; exact h2.done.symm,rfl⟩⟩,hs⟩
theorem refUnruns_spec (hs : St W w L) (hb : bs.length≤65536) (hc : bs.length≤c) (hm : m≤1000000) (hp : ∀ w',St W w' L→RdB w' ad bs.length bs) :
   Calls Tryz.prog 164 #[.slice ad bs.length c,.int .i64 m] w fun e w'=>∃ (out : List UInt8) (ad' : Option Addr) (c' : Nat) (er : Int),e=.returned (.tuple #[.slice ad' out.length c',.int .i64 er])∧Unr bs m out er∧St W w' (Sl 5 1 ad' out.length c' (bc out)::L):=by
 refine calls_enter Tryz.func164 rfl Tryz.ntmps164 (Nat.le_of_ble_eq_true rfl) ?_
 intro a ha
 replace ha : Fr a 72 [(0,_),(1,_)]:=ha
 refine WS<|WR ?_
 iterate 2 (refine S1 ha fun a ha=>?_)
 refine LN<|TN<|WS<|WR ?_
 refine S1 ha fun a ha=>?_
 refine LN<|TN<|WS<|WR ?_
 refine S1 ha fun a ha=>?_
 refine LN<|TN<|WS<|WS<|WR ?_
 refine S1 ha fun a ha=>?_
 refine LN<|TN<|wp_block ?_
 refine wp_loop_ghost (fun μ a w=>∃ (i c' cr : Nat) (ad' adr : Option Addr) (dn rest : List UInt8) (last : UInt8) (fi : Bool),(μ=rest.length∧rest.length≤bs.length∧rest.length≤cr∧dn.length≤m∧(fi=false→dn≠[])∧(∀ w',St W w' L→RdB w' adr rest.length rest)∧∀ p : List UInt8,p.length≤m→bs=runsL p 0→RunsAt p dn last rest)∧Fr a 72 [(0,.slice adr rest.length cr),(1,.int .i64 m),(6,.slice ad' dn.length c'),(7,.int .u8 (last.toNat : Int)),(8,.bool fi)]∧St W w (Sl 5 1 ad' dn.length c' (bc dn)::L)) (bs.length) ?_ ?_
 · exact ⟨0,0,c,none,ad,[],bs,0,true,⟨rfl,by omega,hc,by simp,(by simp),hp,fun p _ e=>by rw [e]; exact RunsAt.start p⟩,ha.keep [0,1,6,7,8],hs.sl0 5 1 none⟩
 ·
  clear ha hs
  rintro μ a w ⟨i,c',cr,ad',adr,dn,rest,last,fi,⟨rfl,hrb,hrc,hdm,hd0,hpr,hrn⟩,ha,hs⟩
  refine WS<|WS<|WR ?_
  iterate 3 (refine S1 ha fun a ha=>?_)
  refine LN<|TN ?_
  refine WI ha (fun hc0=>?_) (fun hc0=>?_)
  ·
   obtain ⟨bb,oo,rfl,_⟩:=(hpr _ hs.tail).get (by omega)
   have hne : rest≠[]:=fun e=>by rw [e] at hc0; simp at hc0
   refine WK<|TN<|WS<|wp_block<|WS<|WR ?_
   refine S1 ha fun a ha=>?_
   refine SK (st_call ha rfl Ty.c163 rfl (refGet_spec (bs:=rest) hs (by omega) (fun w' hw=>hpr w' hw.tail)) ?_); clear ha hs
   rintro e w ⟨x,k,er,rfl,hg,hs⟩
   refine ⟨_,rfl,?_⟩
   intro a ha
   iterate 7 (refine S1 ha fun a ha=>?_)
   refine LN<|TN<|WS ?_
   refine wp_seq_cut (M:=fun a w=>∃ z : Bool,(z=true ↔ (er≠0∨x < 1∨rest.length≤k∨((rest.getD k 0).toNat=0∧fi=false)))∧Fr a 72 [(0,.slice (some ⟨bb,oo,none⟩) rest.length cr),(1,.int .i64 m),(6,.slice ad' dn.length c'),(7,.int .u8 (last.toNat : Int)),(8,.bool fi),(9,.int .i64 x),(10,.int .i64 k),(44,.bool z)]∧St W w (Sl 5 1 ad' dn.length c' (bc dn)::L)) ?_ ?_
   ·
    have hgk:=hg.2.2.1
    have hge:=hg.2.1
    have hgb:=hg.1
    have hkl : k≤rest.length:=by
      by_cases h0 : er=0
      · have:=hgk h0; omega
      · have:=(hg.2.2.2.1 h0).1; omega
    refine WR ?_
    iterate 3 (refine S1 ha fun a ha=>?_)
    refine ha.by (s:=24) (fun hg2 ha=>?_) (fun hg2 ha=>?_)
    ·
     iterate 2 (refine SO (s:=24) ha fun a ha=>?_)
     refine PT ha fun a ha=>?_
     refine S1 ha fun a ha=>?_
     iterate 4 (refine SO (s:=28) ha fun a ha=>?_)
     refine PT ha fun a ha=>?_
     refine S1 ha fun a ha=>?_
     iterate 5 (refine SO (s:=34) ha fun a ha=>?_)
     refine SK (st_offU ha (wgF ha rfl (s:=34) rfl) rfl fun a ha=>?_)
     iterate 2 (refine SK (st_off ha (wgU ha rfl (s:=40)) rfl fun a ha=>?_))
     refine SO (s:=34) ha fun a ha=>?_
     refine PT ha fun a ha=>?_
     refine LN<|TN ?_
     exact ⟨_,by first | (rw [decide_eq_true_iff]; omega) | exact ⟨fun h=>(by cases h),fun h=>absurd h (by omega)⟩ | exact ⟨fun _=>by omega,fun _=>rfl⟩ | (cases fi; exact ⟨fun _=>.inr (.inr (.inr ⟨by omega,rfl⟩)),fun _=>rfl⟩; exact ⟨fun h=>(by cases h),fun h=>by rcases h with h | h | h | h; exact absurd h (by omega); exact absurd h (by omega); exact absurd h (by omega); exact absurd h.2 (by decide)⟩),ha.keep [0,1,6,7,8,9,10,44],hs⟩
    ·
     iterate 2 (refine S1g (s:=24) ha fun a ha=>?_)
     refine PF ha fun a ha=>?_
     refine S1 ha fun a ha=>?_
     refine ha.by (s:=28) (fun hg6 ha=>?_) (fun hg6 ha=>?_)
     ·
      iterate 4 (refine SO (s:=28) ha fun a ha=>?_)
      refine PT ha fun a ha=>?_
      refine S1 ha fun a ha=>?_
      iterate 5 (refine SO (s:=34) ha fun a ha=>?_)
      refine SK (st_offU ha (wgF ha rfl (s:=34) rfl) rfl fun a ha=>?_)
      iterate 2 (refine SK (st_off ha (wgU ha rfl (s:=40)) rfl fun a ha=>?_))
      refine SO (s:=34) ha fun a ha=>?_
      refine PT ha fun a ha=>?_
      refine LN<|TN ?_
      exact ⟨_,by first | (rw [decide_eq_true_iff]; omega) | exact ⟨fun h=>(by cases h),fun h=>absurd h (by omega)⟩ | exact ⟨fun _=>by omega,fun _=>rfl⟩ | (cases fi; exact ⟨fun _=>.inr (.inr (.inr ⟨by omega,rfl⟩)),fun _=>rfl⟩; exact ⟨fun h=>(by cases h),fun h=>by rcases h with h | h | h | h; exact absurd h (by omega); exact absurd h (by omega); exact absurd h (by omega); exact absurd h.2 (by decide)⟩),ha.keep [0,1,6,7,8,9,10,44],hs⟩
     ·
      iterate 4 (refine S1g (s:=28) ha fun a ha=>?_)
      refine PF ha fun a ha=>?_
      refine S1 ha fun a ha=>?_
      refine ha.by (s:=34) (fun hg12 ha=>?_) (fun hg12 ha=>?_)
      ·
       iterate 5 (refine SO (s:=34) ha fun a ha=>?_)
       refine SK (st_offU ha (wgF ha rfl (s:=34) rfl) rfl fun a ha=>?_)
       iterate 2 (refine SK (st_off ha (wgU ha rfl (s:=40)) rfl fun a ha=>?_))
       refine SO (s:=34) ha fun a ha=>?_
       refine PT ha fun a ha=>?_
       refine LN<|TN ?_
       exact ⟨_,by first | (rw [decide_eq_true_iff]; omega) | exact ⟨fun h=>(by cases h),fun h=>absurd h (by omega)⟩ | exact ⟨fun _=>by omega,fun _=>rfl⟩ | (cases fi; exact ⟨fun _=>.inr (.inr (.inr ⟨by omega,rfl⟩)),fun _=>rfl⟩; exact ⟨fun h=>(by cases h),fun h=>by rcases h with h | h | h | h; exact absurd h (by omega); exact absurd h (by omega); exact absurd h (by omega); exact absurd h.2 (by decide)⟩),ha.keep [0,1,6,7,8,9,10,44],hs⟩
      ·
       iterate 2 (refine S1g (s:=34) ha fun a ha=>?_)
       refine SK (st_set ha (wgT ha rfl (s:=34)) (ex_indexAddr ha Tryz.underlying22 Ty.t5 (by omega)) rfl fun a ha=>?_)
       rw [Nat.mul_one] at ha
       refine SLg (s:=34) ha (((hpr _ hs.tail).rd (by omega)) k _ (bc_atD (by omega))) fun a ha=>?_
       iterate 2 (refine S1g (s:=34) ha fun a ha=>?_)
       refine ha.by (s:=40) (fun hg18 ha=>?_) (fun hg18 ha=>?_)
       ·
        iterate 2 (refine S1g (s:=40) ha fun a ha=>?_)
        refine PTg (s:=34) ha fun a ha=>?_
        refine PF ha fun a ha=>?_
        refine LN<|TN ?_
        exact ⟨_,by first | (rw [decide_eq_true_iff]; omega) | exact ⟨fun h=>(by cases h),fun h=>absurd h (by omega)⟩ | exact ⟨fun _=>by omega,fun _=>rfl⟩ | (cases fi; exact ⟨fun _=>.inr (.inr (.inr ⟨by omega,rfl⟩)),fun _=>rfl⟩; exact ⟨fun h=>(by cases h),fun h=>by rcases h with h | h | h | h; exact absurd h (by omega); exact absurd h (by omega); exact absurd h (by omega); exact absurd h.2 (by decide)⟩),ha.keep [0,1,6,7,8,9,10,44],hs⟩
       ·
        iterate 2 (refine SO (s:=40) ha fun a ha=>?_)
        refine PFg (s:=34) ha fun a ha=>?_
        refine PF ha fun a ha=>?_
        refine LN<|TN ?_
        exact ⟨_,by first | (rw [decide_eq_true_iff]; omega) | exact ⟨fun h=>(by cases h),fun h=>absurd h (by omega)⟩ | exact ⟨fun _=>by omega,fun _=>rfl⟩ | (cases fi; exact ⟨fun _=>.inr (.inr (.inr ⟨by omega,rfl⟩)),fun _=>rfl⟩; exact ⟨fun h=>(by cases h),fun h=>by rcases h with h | h | h | h; exact absurd h (by omega); exact absurd h (by omega); exact absurd h (by omega); exact absurd h.2 (by decide)⟩),ha.keep [0,1,6,7,8,9,10,44],hs⟩
   ·
    clear ha; (try clear hs)
    intro a w hcut
    obtain ⟨z,hz,ha,hs⟩:=hcut
    refine WI ha (fun hc1=>?_) (fun hc1=>?_)
    ·
     have hbad:=hz.1 hc1
     refine WS<|WR ?_
     iterate 2 (refine S1 ha fun a ha=>?_)
     refine LN<|TN<|wp_ret<|TR<|BR<|TR<|TR<|BR<|TR ?_
     refine ret2 ha rfl ?_
     exact ⟨[],none,0,1,rfl,Unr.bad hrn hm hne hg (by rcases hbad with h | h | h | h; exact .inl h; exact .inr (.inl h); exact .inr (.inr (.inl (by omega))); exact .inr (.inr (.inr (.inl ⟨hd0 h.2,h.1⟩)))) (.inl rfl),hs.tail.sl0 _ _ _⟩
    ·
     have hgood : ¬ (er≠0∨x < 1∨rest.length≤k∨((rest.getD k 0).toNat=0∧fi=false)):=fun h=>absurd (hz.2 h) (by simp [hc1])
     refine WK<|TN<|WS<|WS<|WR ?_
     iterate 2 (refine S1 ha fun a ha=>?_)
     refine SK (st_set ha rfl (ex_max ha) rfl fun a ha=>?_)
     iterate 2 (refine S1 ha fun a ha=>?_)
     refine SK (st_set ha rfl (ex_subI ha (by omega) (by omega)) rfl fun a ha=>?_)
     refine S1 ha fun a ha=>?_
     refine LN<|TN ?_
     refine WI ha (fun hc2=>?_) (fun hc2=>?_)
     ·
      refine WS<|WR ?_
      iterate 2 (refine S1 ha fun a ha=>?_)
      refine LN<|TN<|wp_ret<|TR<|BR<|TR<|TR<|BR<|TR ?_
      refine ret2 ha rfl ?_
      exact ⟨[],none,0,4,rfl,Unr.bad hrn hm hne hg (.inr (.inr (.inr (.inr (by omega))))) (.inr rfl),hs.tail.sl0 _ _ _⟩
     ·
      refine WK<|TN<|WS<|WR ?_
      iterate 3 (refine S1 ha fun a ha=>?_)
      refine SK (st_set ha rfl (ex_indexAddr ha Tryz.underlying22 Ty.t5 (by omega)) rfl fun a ha=>?_)
      rw [Nat.mul_one] at ha
      refine SL ha (((hpr _ hs.tail).rd (by omega)) k _ (bc_atD (by omega))) fun a ha=>?_
      refine SK (st_set ha rfl (ex_xor8 ha) rfl fun a ha=>?_)
      refine S1d ha fun a ha=>?_
      refine LN ?_
      generalize hy : last ^^^ rest.getD k 0=y at ha
      refine TN<|WS<|WS<|WR ?_
      refine S1 ha fun a ha=>?_
      refine LN<|TN<|wp_block ?_
      refine wp_loop_ghost (fun μ a w=>∃ (j c2 : Nat) (ad2 : Option Addr),(μ=x.toNat - j∧j≤x.toNat)∧Fr a 72 [(0,.slice (some ⟨bb,oo,none⟩) rest.length cr),(1,.int .i64 m),(6,.slice ad2 (dn++List.replicate j y).length c2),(7,.int .u8 (y.toNat : Int)),(8,.bool fi),(9,.int .i64 x),(10,.int .i64 k),(12,.int .i64 j)]∧St W w (Sl 5 1 ad2 (dn++List.replicate j y).length c2 (bc (dn++List.replicate j y))::L)) (x.toNat) ?_ ?_
      · exact ⟨0,c',ad',⟨rfl,by omega⟩,by rw [List.replicate_zero,List.append_nil]; exact ha.keep [0,1,6,7,8,9,10,12],by rw [List.replicate_zero,List.append_nil]; exact hs⟩
      ·
       clear ha hs
       rintro μ a w ⟨j,c2,ad2,⟨rfl,hj⟩,ha,hs⟩
       refine WS<|WS<|WR ?_
       iterate 3 (refine S1 ha fun a ha=>?_)
       refine LN<|TN ?_
       refine WI ha (fun hc3=>?_) (fun hc3=>?_)
       ·
        refine WK<|TN<|WS<|wp_block ?_
        have hjl : (dn++List.replicate j y).length=dn.length+j:=by simp
        refine WR ?_
        iterate 2 (refine S1 ha fun a ha=>?_)
        refine SK (st_buildSlice ha rfl hs Tryz.underlying22 Ty.t5 rfl rfl rfl rfl (by decide) (by decide) fun b65 a w ha hs ho=>?_)
        clear ho
        refine SK (st_append ha rfl hs Tryz.underlying22 Ty.t5 rfl rfl hs.rdAll rfl (by simp [Value.oneCell']) (by decide) (by decide) (by omega) fun ad66 c66 a w ha hs=>?_)
        refine S1d ha fun a ha=>?_
        rw [bc_snoc,show (dn++List.replicate j y)++[y]=dn++List.replicate (j+1) y from by rw [List.append_assoc,← List.replicate_succ']] at hs
        rw [show (dn++List.replicate j y).length+1=(dn++List.replicate (j+1) y).length from by simp; omega] at ha hs
        refine LN<|BN<|TN<|WR ?_
        refine S1 ha fun a ha=>?_
        refine SK (st_set ha rfl (ex_addI ha (by omega) (by omega)) rfl fun a ha=>?_)
        refine S1d ha fun a ha=>?_
        refine LN<|TN ?_
        exact ⟨x.toNat - (j+1),by omega,j+1,_,_,⟨rfl,by omega⟩,ha.keep [0,1,6,7,8,9,10,12],hs.sub⟩
       ·
        obtain rfl : j=x.toNat:=by omega
        refine wp_exit<|TE<|TE<|blk_e<|TN ?_
        have hnl : (dn++List.replicate x.toNat y).length=dn.length+x.toNat:=by simp
        refine WR ?_
        iterate 2 (refine S1 ha fun a ha=>?_)
        refine SK (st_set ha rfl (ex_addI ha (by omega) (by omega)) rfl fun a ha=>?_)
        refine SK (st_set ha rfl (ex_sliceL ha Tryz.underlying22 Ty.t5 (by omega)) rfl fun a ha=>?_)
        refine S1d ha fun a ha=>?_
        rw [show rest.length - (k+1)=(rest.drop (k+1)).length from by simp] at ha
        refine LN<|BN<|TN<|WR ?_
        refine S1d ha fun a ha=>?_
        refine LN<|TN ?_
        exact ⟨(rest.drop (k+1)).length,by simp; omega,0,_,_,_,_,_,rest.drop (k+1),y,false,⟨rfl,by simp; omega,by simp; omega,by omega,fun _ e=>(by rw [e] at hnl; simp at hnl; omega),fun w' hw=>(hpr w' hw).cutL (by omega) hrc,fun p hp' e=>(by
          have h2:=((hrn p hp' e).get (by omega) hne hg).2.2.2.2.2
          rw [hy] at h2
          exact h2)⟩,ha.keep [0,1,6,7,8],hs⟩
  ·
   refine wp_exit<|TE<|TE<|blk_e<|TN<|WS<|WR ?_
   iterate 3 (refine S1 ha fun a ha=>?_)
   refine LN<|TN<|wp_ret ?_
   refine ret2 ha rfl ?_
   have hr0 : rest=[]:=List.eq_nil_of_length_eq_zero (by omega)
   exact ⟨dn,_,_,0,rfl,⟨by omega,hdm,fun p hp' e=>⟨by have h2:=hrn p hp' e; rw [hr0] at h2; exact h2.done.symm,rfl⟩⟩,hs⟩
end
end Go.Proofs.YtagpkhbkdbaigaaGreat
