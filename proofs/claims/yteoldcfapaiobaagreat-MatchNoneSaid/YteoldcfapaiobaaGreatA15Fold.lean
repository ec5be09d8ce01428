/- Frames over cells of their own: vm.Step, fold.From. -/
import Derived.Test.YteoldcfapaiobaaGreatA09Chk2
import Derived.Test.YteoldcfapaiobaaGreatA10Wk
import Derived.ChangeSame
import Derived.Test.YteoldcfapaiobaaGreatA04Ty
import Derived.Test.YteoldcfapaiobaaGreatA13CoQ
import Derived.Test.YteoldcfapaiobaaGreatA12Pkt3
import Derived.Test.YteoldcfapaiobaaGreatA02Row
namespace Go.Proofs.YteoldcfapaiobaaGreat
open Go.RowKit
set_option linter.unusedVariables false
set_option linter.unusedSimpArgs false
set_option maxRecDepth 10000
set_option synthInstance.maxSize 4000
set_option synthInstance.maxHeartbeats 400000
section
section
variable {W w:World}{L:List SP}{c cO cP q:Nat}{adO adP:Option Addr}{b:List UInt8}{g:Nat→Int}{p:Pr}{fr:Int}{bad:Bool}
def Jv (q:Nat)(g:Nat→Int)(bad:Bool):SP:=λh=>(gOk g∧bad=false)∧blk q 296 (ints .i32 32 g) h
theorem Jv.open (hs:St W w (Jv q g bad::L)):(gOk g∧bad=false)∧St W w (blk q 296 (ints .i32 32 g)::L):=by
 obtain⟨_,h1,h2⟩:=hs.exi (ι:=Unit) (p:=λ_=>gOk g∧bad=false) (B:=λ_=>blk q 296 (ints .i32 32 g)) (λh ⟨h1,h2⟩=>⟨(),h1,h2⟩)
 exact⟨h1,h2⟩
theorem Jv.close (hs:St W w (blk q 296 (ints .i32 32 g)::L))(h1:gOk g):St W w (Jv q g false::L) :=
 St.shut (M:=[_]) hs (λ_ ⟨_,_,_,a,b,x,_⟩=>⟨⟨h1,rfl⟩,a _ _ x⟩)
theorem vcells_get {c:Nat}(hc:c<32)(hs:St W w (Jv q g bad::L)):Calls Tryz.prog 351 (List.toArray [pt q,.int .i64 c]) w λe w'=>e=.returned (.int .i32 (g c))∧St W w' (Jv q g bad::L):=by
 have hj:=Jv.open hs
 clear hs
 obtain⟨⟨h1,rfl⟩,hs⟩:=hj
 refine EN Tryz.func351 Tryz.ntmps351 rfl rfl λa ha=>?_
 refine RN 8 ha hs λa ha=>?_
 refine SS ha (ld1 ha (hs.rd1 (ints_get _ hc))) λa ha=>?_
 refine RT 1 ha hs ?_
 exact⟨rfl,Jv.close hs h1⟩
theorem vcells_set {c:Nat}{v:Int}(hc:c<32)(hv:i32P v)(hs:St W w (Jv q g bad::L)):Calls Tryz.prog 352 (List.toArray [pt q,.int .i64 c,.int .i32 v]) w λe w' =>
   ∃ (g':Nat→Int) (bad':Bool),e=.returned (.tuple #[])∧((bad'=true∧g'=g)∨(bad'=false∧bad=false∧g'=upd g c v))∧St W w' (Jv q g' bad'::L):=by
 have hj:=Jv.open hs
 clear hs
 obtain⟨⟨h1,rfl⟩,hs⟩:=hj
 refine EN Tryz.func352 Tryz.ntmps352 rfl rfl λa ha=>?_
 refine ST 6 ha hs (λa w ha hs=>?_) (hlt:=(by rw[ints_len];exact hc))
 rw[ints_set]at hs
 refine RT 0 ha hs ?_
 exact⟨upd g c v,false,rfl,.inr ⟨rfl,rfl,rfl⟩,Jv.close hs (upd_ok h1 hv)⟩
theorem vcells_mem:MemS W 294 ⟨q,0,none⟩ 351 352 (Jv q) where
 mG:=λad w=>by kernel_rfl
 cG:=(by kernel_rfl)
 mS:=λad w=>by kernel_rfl
 cS:=(by kernel_rfl)
 ok:=λw L g bad h=>(Jv.open h).1.1
 get:=λw L g bad c hc h=>vcells_get hc h
 set:=λw L g bad c v hc hv h=>vcells_set hc hv h
theorem vm_step (hs:St W w (RoP W p adO cO::L))(hpr:prOk p)(hsz:p.title.size≤1000000000)(hg:gOk g)(hb:b.length≤1099511627776)(hp:∀ w',St W w' L→RdB w' adP b.length b) :
   Calls Tryz.prog 137 #[.agg (prV p adO cO).toArray,.agg (ints .i32 32 g).toArray,.int .i64 fr,.slice adP b.length cP] w λe w'=>e=.returned (.agg (ints .i32 32 (frameI p fr b g)).toArray)∧St W w' (RoP W p adO cO::L):=by
 refine EN Tryz.func137 Tryz.ntmps137 rfl rfl λa ha=>?_
 refine BX 1 ha hs λb4 a w ha hs=>?_
 change St W w (blk b4 45 (prV p adO cO)::_) at hs
 refine BX 0 ha hs λb5 a w ha hs=>?_
 refine AL 0 ha hs λb8 a w ha hs=>?_
 change St W w (blk b8 183 (ints .i32 32 (λ_=>0))::_) at hs
 refine RN 2 ha hs λa ha=>?_
 refine SK (st_set ha rfl (ex_build ha Ty.b296 Ty.t296 (cs:=ints .i32 32 g) rfl) rfl ?_);clear ha a;intro a ha
 refine BX 0 ha hs λb12 a w ha hs=>?_
 refine RN 7 ha hs λa ha=>?_
 replace hs:=Jv.close (hs.bring b12) hg
 refine CL3 0 ha hs (run_spec (M:=vcells_mem (q:=b12)) (L:=blk b8 183 (ints .i32 32 (λ_=>0))::L) (hs.sub (M:=Jv b12 g false::RoP W p adO cO::blk b8 183 (ints .i32 32 (λ_=>0))::L)) hpr hsz hb (λw' hw=>hp w' hw.tail)) λg' bad' nn a w ha ⟨hgb,hs⟩=>?_
 refine RN 1 ha hs λa ha=>?_
 have hj:=Jv.open hs
 clear hs
 obtain⟨⟨hg',rfl⟩,hs⟩:=hj
 obtain⟨_,rfl⟩:=hgb rfl
 refine SA 4 ha hs λa w ha hs=>?_
 refine RT 0 ha hs ?_
 exact⟨rfl,hs.sub⟩
theorem fold_from {P:List (List UInt8)}{zs:List BBx}(hs:St W w (RoP W p adO cO::L))(hpr:prOk p)(hsz:p.title.size≤1000000000)(hg:gOk g)(hP:P.length≤65536∧∀ b∈P,b.length≤1099511627776)(hf:-1099511627776≤fr∧fr≤1099511627776)(hz:zs.map (·.2.2)=P)(hp:∀ w',St W w' L→RdX w' adP zs) :
   Calls Tryz.prog 280 #[.agg (prV p adO cO).toArray,.agg (ints .i32 32 g).toArray,.int .i64 fr,.slice adP P.length cP] w λe w'=>e=.returned (.agg (ints .i32 32 (foldI p fr g P)).toArray)∧St W w' (RoP W p adO cO::L):=by
 have hzl:zs.length=P.length:=by rw[← hz,List.length_map]
 have hPl:=hP.1
 refine EN Tryz.func280 Tryz.ntmps280 rfl rfl λa ha=>?_
 refine BX 1 ha hs λb4 a w ha hs=>?_
 change St W w (blk b4 45 (prV p adO cO)::_) at hs
 refine BX 0 ha hs λb5 a w ha hs=>?_
 refine AL 0 ha hs λb8 a w ha hs=>?_
 change St W w (blk b8 183 (ints .i32 32 (λ_=>0))::_) at hs
 refine RN 5 ha hs λa ha=>?_
 refine wp_loop_ghost (λμ a w=>∃ (i:Nat) (g':Nat→Int),(μ=P.length-i∧i≤P.length∧gOk g'∧foldI p fr g P=foldI p (fr+i) g' (P.drop i))∧Fr a 27 [(2,.int .i64 fr),(4,pt b4),(5,pt b5),(8,pt b8),(11,.slice adP P.length cP),(12,.int .i64 P.length),(13,.int .i64 i)]∧St W w (blk b5 183 (ints .i32 32 g')::blk b4 45 (prV p adO cO)::blk b8 183 (ints .i32 32 (λ_=>0))::RoP W p adO cO::L)) (P.length) (⟨0,g,⟨by simp,by simp,hg,by simp⟩,ha.keep [2,4,5,8,11,12,13],hs.sub⟩) ?_
 clear ha hs
 rintro μ a w ⟨i,g',⟨rfl,hi,hgo,hfo⟩,ha,hs⟩
 refine IF 3 ha hs (λhc0 a ha=>?_) λhc0 a ha=>?_
 ·
  obtain⟨z,hzi⟩:∃ z,zs[i]?=some z:=⟨_,List.getElem?_eq_getElem (by omega)⟩
  have hbs:P[i]?=some z.2.2:=by rw[← hz,List.getElem?_map,hzi];rfl
  obtain⟨bp,op,rfl,hrd⟩:=(hp _ (hs.sub (M:=L))).1 (by omega)
  have hcb:=hrd i (bbv z) (by rw[List.getElem?_map,hzi];rfl)
  have hbm:=hP.2 _ (List.mem_of_getElem? hbs)
  have hfo2:foldI p fr g P=foldI p (fr+(i+1:Nat)) (frameI p (fr+i) z.2.2 g') (P.drop (i+1)):=by
    rw[hfo,List.drop_eq_getElem_cons (by omega),foldI]
    have:P[i]'(by omega)=z.2.2:=by rw[List.getElem?_eq_getElem (by omega)]at hbs;exact Option.some.inj hbs
    rw[this]
    congr 1
    omega
  refine RN 4 ha hs λa ha=>?_
  refine SS ha (ld1 ha (hcb)) λa ha=>?_
  rw[bbv]at ha
  refine CL 8 ha hs (vm_step (hs.pick (RoP W p adO cO)) hpr hsz hgo hbm (λw' hw=>(hp w' hw.sub).2 z (List.mem_of_getElem? hzi))) λa w ha hs=>?_
  refine SA 0 ha hs λa w ha hs=>?_
  refine RN 2 ha hs λa ha=>?_
  exact⟨P.length-(i+1),by omega,i+1,_,⟨rfl,by omega,frameI_ok hpr hgo,hfo2⟩,ha.keep [2,4,5,8,11,12,13],hs.sub⟩
 refine RN 1 ha hs λa ha=>?_
 obtain rfl:i=P.length:=by omega
 rw[List.drop_length,foldI]at hfo
 refine SA 1 ha hs λa w ha hs=>?_
 refine RT 0 ha hs ?_
 exact⟨by rw[hfo],hs.sub⟩
end
end
section
theorem rep_ints (k:IntKind)(m:Nat)(x:Int):List.replicate m (Value.int k x)=ints k m (λ_=>x):=by
 apply List.ext_getElem (by simp[ints,fn])
 intro i h1 h2
 simp[ints,fn]
abbrev gsC (b:Gs)(adT:Option Addr)(cT:Nat):List Value:=[.int .i64 b.kind,.int .i64 b.order,.slice adT b.table.length cT]
theorem bc_drop (l:List UInt8)(k:Nat):bc (l.drop k)=(bc l).drop k:=by rw[bc,bc,List.map_drop]
section
variable {W w:World}{L:List SP}{n c m cT:Nat}{ad adT:Option Addr}{past:List UInt8}{b:Gs}
theorem pred_may (hs:St W w L):Calls Tryz.prog 98 #[.agg (gsC b adT cT).toArray] w λe w'=>∃ r:Bool,e=.returned (.bool r)∧(r=true↔mayGs b)∧St W w' L:=by
 refine EN Tryz.func98 Tryz.ntmps98 rfl rfl λa ha=>?_
 refine BX 1 ha hs λb1 a w ha hs=>?_
 change St W w (blk b1 186 (gsC b adT cT)::_) at hs
 refine IF 8 ha hs (λhc0 a ha=>?_) λhc0 a ha=>?_
 ·
  refine BY 5 ha hs (λhg3 a ha=>?_) λhg3 a ha=>?_
  ·
   refine RT 6 ha hs ?_
   exact⟨_,rfl,(by rw[decide_eq_true_iff,mayGs];omega),hs.sub⟩
  refine RT 6 ha hs ?_
  exact⟨_,rfl,⟨λh=>(by cases h),λh=>by rw[mayGs]at h;exfalso;omega⟩,hs.sub⟩
 refine IF 3 ha hs (λhc1 a ha=>?_) λhc1 a ha=>?_
 ·
  refine BY 5 ha hs (λhg3 a ha=>?_) λhg3 a ha=>?_
  ·
   refine BY 5 ha hs (λhg8 a ha=>?_) λhg8 a ha=>?_
   ·
    refine RT 6 ha hs ?_
    exact⟨_,rfl,(by rw[decide_eq_true_iff,mayGs];omega),hs.sub⟩
   refine RT 6 ha hs ?_
   exact⟨_,rfl,⟨λh=>(by cases h),λh=>by rw[mayGs]at h;exfalso;omega⟩,hs.sub⟩
  refine RT 11 ha hs ?_
  exact⟨_,rfl,⟨λh=>(by cases h),λh=>by rw[mayGs]at h;exfalso;omega⟩,hs.sub⟩
 refine IF 3 ha hs (λhc2 a ha=>?_) λhc2 a ha=>?_
 ·
  refine BY 5 ha hs (λhg3 a ha=>?_) λhg3 a ha=>?_
  ·
   refine BY 6 ha hs (λhg9 a ha=>?_) λhg9 a ha=>?_
   ·
    refine RT 6 ha hs ?_
    exact⟨_,rfl,(by rw[decide_eq_true_iff,mayGs];omega),hs.sub⟩
   refine RT 6 ha hs ?_
   exact⟨_,rfl,⟨λh=>(by cases h),λh=>by rw[mayGs]at h;exfalso;omega⟩,hs.sub⟩
  refine RT 12 ha hs ?_
  exact⟨_,rfl,⟨λh=>(by cases h),λh=>by rw[mayGs]at h;exfalso;omega⟩,hs.sub⟩
 refine RT 2 ha hs ?_
 exact⟨_,rfl,⟨λh=>(by cases h),λh=>by rw[mayGs]at h;exfalso;omega⟩,hs.sub⟩
theorem pred_weights (hs:St W w L)(hb:mayGs b)(hpl:past.length≤4000)(hpc:past.length≤c)(hp:∀ w',St W w' L→RdB w' ad past.length past) :
   Calls Tryz.prog 324 #[.agg (gsC b adT cT).toArray,.slice ad past.length c] w λe w'=>e=.returned (.agg (ints .i64 256 (wtL b past)).toArray)∧St W w' L:=by
 simp only[mayGs]at hb
 refine EN Tryz.func324 Tryz.ntmps324 rfl rfl λa ha=>?_
 refine BX 1 ha hs λb2 a w ha hs=>?_
 change St W w (blk b2 186 (gsC b adT cT)::_) at hs
 refine AL 0 ha hs λb4 a w ha hs=>?_
 rw[rep_ints]at hs
 refine AL 1 ha hs λb5 a w ha hs=>?_
 rw[rep_ints]at hs
 refine BY 6 ha hs (λhg3 a ha=>?_) λhg3 a ha=>?_
 ·
  refine SA 9 ha hs λa w ha hs=>?_
  refine RT 0 ha hs ?_
  exact⟨by rw[wtL,if_neg (by omega)],hs.sub⟩
 refine IF 6 ha hs (λhc0 a ha=>?_) λhc0 a ha=>?_
 ·
  refine SA 2 ha hs λa w ha hs=>?_
  refine RT 0 ha hs ?_
  exact⟨by rw[wtL,if_pos (by omega),wtN_low (by omega)],hs.sub⟩
 refine RN 1 ha hs λa ha=>?_
 have hk2:b.kind=2:=by omega
 obtain⟨o,ho⟩:∃ o:Nat,b.order=(o:Int):=⟨b.order.toNat,by omega⟩
 rw[gsC,ho]at hs
 have hol:o≤past.length:=by omega
 have hwt:wtL b past=wtN o past past.length:=by rw[wtL,if_pos hk2,ho,Int.toNat_natCast]
 refine RN 6 ha hs λa ha=>?_
 rw[show ((past.length:Nat):Int)-(o:Int)=((past.length-o:Nat):Int) from by omega]at ha
 refine RN 7 ha hs λa ha=>?_
 rw[show past.length-(past.length-o)=o from by omega]at ha
 have ho3:o≤3:=by omega
 refine wp_loop_ghost (λμ a w=>∃ (i:Nat),(μ=past.length-i∧o≤i∧i≤past.length)∧Fr a 52 [(1,.slice ad past.length c),(2,pt b2),(4,pt b4),(5,pt b5),(6,.slice (cutAd ad (past.length-o) c 1) o (c-(past.length-o))),(7,.int .i64 i)]∧St W w (blk b5 320 (ints .i64 256 (wtN o past i))::blk b4 320 (ints .i64 256 (λ_=>0))::blk b2 186 [.int .i64 b.kind,.int .i64 o,.slice adT b.table.length cT]::L)) (past.length-o) (⟨o,⟨rfl,Nat.le_refl _,hol⟩,ha.keep [1,2,4,5,6,7],by rw[wtN_low (Nat.le_refl _)];exact hs.sub⟩) ?_
 clear ha hs
 rintro μ a w ⟨i,⟨rfl,hio,hi⟩,ha,hs⟩
 refine IF 6 ha hs (λhc1 a ha=>?_) λhc1 a ha=>?_
 ·
  have hil:i<past.length:=by omega
  have hbd:=wtN_bd o past i past[i].toNat
  have hb8:=u8_lt past[i]
  refine RN 7 ha hs λa ha=>?_
  rw[show ((i:Nat):Int)-(o:Int)=((i-o:Nat):Int) from by omega]at ha
  refine RN 2 ha hs λa ha=>?_
  rw[show i-(i-o)=o from by omega]at ha
  refine CL 1 ha hs (bytes_equalS hs ((hp _ hs.tail.tail.tail).cutLH (lo:=i-o) (n:=o) (by omega) hpc) (by have:=(hp _ hs.tail.tail.tail).cutLH (lo:=past.length-o) (n:=o) (by omega) hpc;exact this)) λa w ha hs=>?_
  refine IF 0 ha hs (λhc2 a ha=>?_) λhc2 a ha=>?_
  ·
   obtain⟨bb,oo,rfl,hr⟩:=(hp _ hs.tail.tail.tail).get (by omega)
   refine RN 3 ha hs λa ha=>?_
   refine SS ha (ld1 ha (hr i _ (bc_at hil))) λa ha=>?_
   refine RN 1 ha hs λa ha=>?_
   refine SS ha (ld1 ha (hs.rd1 (ints_get _ hb8))) λa ha=>?_
   refine ST 2 ha hs (λa w ha hs=>?_) (hlt:=(by rw[ints_len];omega))
   rw[ints_set]at hs
   refine RN 3 ha hs λa ha=>?_
   exact⟨past.length-(i+1),by omega,i+1,⟨rfl,by omega,by omega⟩,ha.keep [1,2,4,5,6,7],by
     rw[show wtN o past (i+1)=λj=>if j=past[i].toNat then wtN o past i past[i].toNat+1 else wtN o past i j from by
       rw[wtN,if_pos ⟨hio,by rw[endsB,← hc2,List.take_of_length_le (l:=past.drop (past.length-o)) (by rw[List.length_drop];omega)]⟩,List.getD_eq_getElem?_getD,List.getElem?_eq_getElem hil];rfl]
     exact hs.sub⟩
  refine RN 3 ha hs λa ha=>?_
  exact⟨past.length-(i+1),by omega,i+1,⟨rfl,by omega,by omega⟩,ha.keep [1,2,4,5,6,7],by
    rw[show wtN o past (i+1)=wtN o past i from by
      rw[wtN,if_neg (λh=>by
        have h2:=h.2
        rw[endsB,← List.take_of_length_le (l:=past.drop (past.length-o)) (i:=o) (by rw[List.length_drop];omega)]at h2
        rw[h2]at hc2;cases hc2)]]
    exact hs.sub⟩
 obtain rfl:i=past.length:=by omega
 refine SA 2 ha hs λa w ha hs=>?_
 refine RT 0 ha hs ?_
 exact⟨by rw[hwt],hs.sub⟩
theorem pred_last (hs:St W w L)(hpl:past.length≤4000)(hp:∀ w',St W w' L→RdB w' ad past.length past) :
   Calls Tryz.prog 326 #[.slice ad past.length c] w λe w'=>e=.returned (.int .u8 ((lastB past).toNat:Nat))∧St W w' L:=by
 refine EN Tryz.func326 Tryz.ntmps326 rfl rfl λa ha=>?_
 refine IF 7 ha hs (λhc0 a ha=>?_) λhc0 a ha=>?_
 ·
  refine RT 2 ha hs ?_
  exact⟨by rw[lastB,List.eq_nil_of_length_eq_zero (l:=past) (by omega)];rfl,hs⟩
 refine RN 1 ha hs λa ha=>?_
 obtain⟨bb,oo,rfl,hr⟩:=(hp _ hs).get (by omega)
 refine RN 4 ha hs λa ha=>?_
 rw[show ((past.length:Nat):Int)-1=((past.length-1:Nat):Int) from by omega]at ha
 refine RN 1 ha hs λa ha=>?_
 refine SS ha (ld1 ha (hr (past.length-1) _ (bc_at (by omega)))) λa ha=>?_
 refine RT 1 ha hs ?_
 refine⟨?_,hs⟩
 have h0:past≠[]:=λh=>by rw[h]at hc0;simp at hc0
 rw[lastB,List.getLastD_eq_getLast?,List.getLast?_eq_getElem?,List.getElem?_eq_getElem (by omega)];rfl
theorem pred_first (hs:St W w L)(hb:mayGs b)(hpl:past.length≤4000)(hpc:past.length≤c)(hp:∀ w',St W w' L→RdB w' ad past.length past)(ht:∀ w',St W w' L→RdB w' adT b.table.length b.table) :
   Calls Tryz.prog 325 #[.agg (gsC b adT cT).toArray,.slice ad past.length c] w λe w'=>e=.returned (.int .u8 ((firstB b past).toNat:Nat))∧St W w' L:=by
 have hb':=hb
 simp only[mayGs]at hb'
 refine EN Tryz.func325 Tryz.ntmps325 rfl rfl λa ha=>?_
 refine BX 1 ha hs λb2 a w ha hs=>?_
 change St W w (blk b2 186 (gsC b adT cT)::_) at hs
 refine IF 6 ha hs (λhc0 a ha=>?_) λhc0 a ha=>?_
 ·
  refine DWO 1 [5,6,7] [0,2,3,4,3001,1005,1006,1007,8,1009,10] ha hs λa w ha hs hH hC=>?_
  obtain⟨bt,ot,rfl,hrt⟩:=(ht _ hs.tail).get (by omega)
  have hmod:past.length%b.table.length<b.table.length:=Nat.mod_lt _ (by omega)
  refine RH 8 ha hs hH hC λa ha=>?_
  rw[remN]at ha
  refine RH 1 ha hs hH hC λa ha=>?_
  refine SS ha (ld1 ha (hrt (past.length%b.table.length) _ (bc_atD hmod))) λa ha=>?_
  refine RH 1 ha hs hH hC λa ha=>?_
  refine RT 0 ha hs ?_
  exact⟨by rw[firstB,if_pos (by omega)],hs.sub⟩
 refine CL 3 ha hs (pred_weights hs hb hpl hpc (λw' hw=>hp w' hw.tail)) λa w ha hs=>?_
 refine AL 0 ha hs λb5 a w ha hs=>?_
 rw[rep_ints]at hs
 refine SA 0 ha hs λa w ha hs=>?_
 refine CL 2 ha hs (pred_last hs hpl (λw' hw=>hp w' hw.tail.tail)) λa w ha hs=>?_
 refine RN 5 ha hs λa ha=>?_
 have hlb:=u8_lt (lastB past)
 refine wp_loop_ghost (λμ a w=>∃ (i:Nat),(μ=256-i∧i≤256)∧Fr a 41 [(2,pt b2),(5,pt b5),(6,.int .u8 (bestN (wtL b past) (lastB past).toNat i:Nat)),(27,.agg (ints .i64 256 (wtL b past)).toArray),(28,.int .i64 i)]∧St W w (blk b5 320 (ints .i64 256 (wtL b past))::blk b2 186 (gsC b adT cT)::L)) (256) (⟨0,⟨rfl,by omega⟩,ha.keep [2,5,6,27,28],hs.sub⟩) ?_
 clear ha hs
 rintro μ a w ⟨i,⟨rfl,hi⟩,ha,hs⟩
 refine IF 3 ha hs (λhc1 a ha=>?_) λhc1 a ha=>?_
 ·
  have hbl:=bestN_lt (w:=wtL b past) hlb (i:=i) hi
  have hi6:i<256:=by omega
  refine RN 3 ha hs λa ha=>?_
  refine SS ha (ex_index1 ha Tryz.underlying320 Tryz.underlying3 rfl Ty.t3 (by omega) (ints_get _ hi6)) λa ha=>?_
  refine RN 6 ha hs λa ha=>?_
  refine SS ha (ld1 ha (hs.rd1 (ints_get _ hbl))) λa ha=>?_
  refine IF 1 ha hs (λhc2 a ha=>?_) λhc2 a ha=>?_
  ·
   refine SX 1 ha hs (by rw[wrap_u8];omega) λa ha=>?_
   refine RN 3 ha hs λa ha=>?_
   exact⟨256-(i+1),by omega,i+1,⟨rfl,by omega⟩,by rw[show bestN (wtL b past) (lastB past).toNat (i+1)=i from by rw[bestN,if_pos (by omega)]];exact ha.keep [2,5,6,27,28],hs.sub⟩
  refine RN 2 ha hs λa ha=>?_
  exact⟨256-(i+1),by omega,i+1,⟨rfl,by omega⟩,by rw[show bestN (wtL b past) (lastB past).toNat (i+1)=bestN (wtL b past) (lastB past).toNat i from by rw[bestN,if_neg (by omega)]];exact ha.keep [2,5,6,27,28],hs.sub⟩
 obtain rfl:i=256:=by omega
 have hbl:=bestN_lt (w:=wtL b past) hlb (i:=256) (by omega)
 refine RT 3 ha hs ?_
 exact⟨by rw[firstB,if_neg (by omega),UInt8.toNat_ofNat',Nat.mod_eq_of_lt (by omega)],hs.sub⟩
theorem slices_clone (hs:St W w L)(hpl:past.length≤4000)(hp:∀ w',St W w' L→RdB w' ad past.length past) :
   Calls Tryz.prog 329 #[.slice ad past.length c] w λe w'=>∃ ad' c',e=.returned (.slice ad' past.length c')∧St W w' (Sl 5 1 ad' past.length c' (bc past)::L):=by
 obtain⟨h1,h2,h3⟩:=hp _ hs
 cases had:ad with
 | none =>
   have h0:=h2 had
   rw[List.eq_nil_of_length_eq_zero (l:=past) h0]
   refine EN Tryz.func329 Tryz.ntmps329 rfl rfl λa ha=>?_
   refine RN 6 ha hs λa ha=>?_
   replace ha:=ha.isT 4
   refine RT 3 ha hs ?_
   exact⟨_,_,rfl,hs.sl0 _ _ _⟩
 | some a =>
   rw[← had]
   refine EN Tryz.func329 Tryz.ntmps329 rfl rfl λa ha=>?_
   refine RN 6 ha hs λa ha=>?_
   rw[show ad.isNone=false from by rw[had];rfl]at ha
   replace ha:=ha.isF 4
   refine RN 2 ha hs λa ha=>?_
   refine st_buildSlice0 ha rfl hs Tryz.underlying22 Ty.t5 rfl λb5 a w ha hs ho=>?_
   clear ho
   replace hs:St W w (Sl 5 1 (some ⟨b5,0,none⟩) 0 0 []::L):=hs.tail.sl0 _ _ _
   refine RN 1 ha hs λa ha=>?_
   refine st_appendT ha rfl hs Tryz.underlying22 Ty.t5 rfl rfl (by decide) (λh0=>(hp _ hs.tail).get h0) (by rw[bc_len];omega) (bc_one _) (by omega) λad7 c7 a w ha hs=>?_
   rw[List.nil_append,Nat.zero_add]at hs;rw[Nat.zero_add]at ha
   refine RT 1 ha hs ?_
   exact⟨_,_,rfl,hs⟩
theorem pred_chain {to:Int}(hs:St W w L)(hb:mayGs b)(hpl:past.length≤1001)(hpc:past.length≤c)(hn:m≤1000)(hp:∀ w',St W w' L→RdB w' ad past.length past)(ht:∀ w',St W w' L→RdB w' adT b.table.length b.table) :
   Calls Tryz.prog 311 #[.agg (gsC b adT cT).toArray,.slice ad past.length c,.int .i64 m] w λe w'=>∃ ad' c',e=.returned (.slice ad' m c')∧St W w' (Sl 5 1 ad' m c' (bc (chainB b past m))::L):=by
 refine EN Tryz.func311 Tryz.ntmps311 rfl rfl λa ha=>?_
 refine BX 1 ha hs λb3 a w ha hs=>?_
 change St W w (blk b3 186 (gsC b adT cT)::_) at hs
 refine CL1 4 ha hs (pred_may hs) λr a w ha ⟨hr,hs⟩=>?_
 rw[hr.2 hb]at ha
 refine RN 1 ha hs λa ha=>?_
 replace ha:=ha.isF 10
 refine CL2 3 ha hs (slices_clone hs (by omega) (λw' hw=>hp w' hw.tail)) λad1 c1 a w ha hs=>?_
 refine RN 6 ha hs λa ha=>?_
 rw[show min (max (m:Int) 0) 1000=(m:Int) from by omega]at ha
 refine RN 1 ha hs λa ha=>?_
 refine wp_loop_ghost (λμ a w=>∃ (i:Nat) (ad2:Option Addr) (c2:Nat),(μ=m-i∧i≤m)∧Fr a 29 [(1,.slice ad past.length c),(3,pt b3),(7,.slice ad2 (chainN b past i).length c2),(15,.int .i64 m),(16,.int .i64 i)]∧St W w (Sl 5 1 ad2 (chainN b past i).length c2 (bc (chainN b past i))::blk b3 186 (gsC b adT cT)::L)) (m) (⟨0,ad1,c1,⟨rfl,by omega⟩,ha.keep [1,3,7,15,16],hs⟩) ?_
 clear ha hs
 rintro μ a w ⟨i,ad2,c2,⟨rfl,hi⟩,ha,hs⟩
 refine IF 3 ha hs (λhc1 a ha=>?_) λhc1 a ha=>?_
 ·
  have hcl:=chainN_len b past i
  have hc2l:=(hs.sl ad2).2
  refine CL 4 ha hs (pred_first hs hb (by omega) hc2l (λw' hw=>hw.rdB ad2 (chainN b past i) rfl rfl) (λw' hw=>ht w' hw.tail.tail)) λa w ha hs=>?_
  refine RN 0 ha hs λa ha=>?_
  refine st_buildSlice ha rfl hs Tryz.underlying22 Ty.t5 rfl rfl rfl rfl (by decide) (by decide) λb22 a w ha hs ho=>?_
  clear ho
  refine RN 0 ha hs λa ha=>?_
  refine st_append ha rfl hs Tryz.underlying22 Ty.t5 rfl rfl hs.rdAll rfl (bc_one [firstB b (chainN b past i)]) (by decide) (by decide) (by omega) λad23 c23 a w ha hs=>?_
  rw[show bc (chainN b past i)++_=bc (chainN b past (i+1)) from (bc_app _ [_]).symm,show (chainN b past i).length+1=(chainN b past (i+1)).length from by rw[chainN_len,chainN_len];omega]at hs
  rw[show (chainN b past i).length+1=(chainN b past (i+1)).length from by rw[chainN_len,chainN_len];omega]at ha
  refine RN 3 ha hs λa ha=>?_
  exact⟨m-(i+1),by omega,i+1,ad23,c23,⟨rfl,by omega⟩,ha.keep [1,3,7,15,16],hs.sub⟩
 obtain rfl:i=m:=by omega
 have hcl:=chainN_len b past i
 refine RT 6 ha hs ?_
 have h1:=hs.cutSl ad2 past.length (chainN b past i).length (by omega) (Nat.le_refl _)
 rw[show (chainN b past i).length-past.length=i from by omega,Nat.mul_one,Nat.mul_one,← bc_drop,List.take_of_length_le (by rw[bc_len,List.length_drop];omega),show List.drop past.length (chainN b past i)=chainB b past i from rfl]at h1
 refine⟨_,_,by rw[show (chainN b past i).length-past.length=i from by omega],h1.sub⟩
end
end
section
def FitB (to:Nat)(l x:List UInt8):Prop:=(∃ t,x=l++t)∧to≤x.length∧x.length≤1001
def aheadX (X:List (List UInt8))(front to:Nat):List (List UInt8):=(List.range (to-front)).map λi=>jointL X (front+i)
theorem aheadX_full (b:Gs)(ls:List (List UInt8))(to:Nat):aheadX (fullL b ls to) (frontL ls) to=aheadL b ls to:=rfl
theorem aheadX_len (X:List (List UInt8))(front to:Nat):(aheadX X front to).length=to-front:=by simp[aheadX]
structure FitX (to:Nat)(ls X:List (List UInt8)):Prop where
 len:X.length=ls.length
 fit:∀ (j:Nat) (l x:List UInt8),ls[j]?=some l→X[j]?=some x→FitB to l x
theorem fullB_long {b:Gs}{l:List UInt8}{to:Nat}(h:to≤l.length):fullB b l to=l:=by rw[fullB,show to-l.length=0 from by omega];rfl
structure RankS:Prop where
 rank:∀ {W w:World} {L:List SP} {c k cT:Nat} {ad adT:Option Addr} {past:List UInt8} {b:Gs},St W w L→mayGs b→(1≤k∧k≤256)→past.length≤1000→past.length≤c→(∀ w',St W w' L→RdB w' ad past.length past)→(∀ w',St W w' L→RdB w' adT b.table.length b.table) →
 Calls Tryz.prog 310 #[.agg (gsC b adT cT).toArray,.slice ad past.length c,.int .i64 k] w λe w'=>∃ (ad':Option Addr) (c':Nat) (out:List UInt8),e=.returned (.slice ad' out.length c')∧out.length=k∧St W w' (Sl 5 1 ad' out.length c' (bc out)::L)
section
variable {W w:World}{L:List SP}{c m cT to r:Nat}{ad adT:Option Addr}{past:List UInt8}{b:Gs}
set_option maxHeartbeats 1000000 in
theorem guess_line (hR:r=0∨RankS)(hr:r≤100000)(hs:St W w (Sl 5 1 ad past.length c (bc past)::L))(hb:mayGs b)(hpl:past.length≤1000)(hto:to≤1000)(ht:∀ w',St W w' L→RdB w' adT b.table.length b.table) :
   Calls Tryz.prog 294 #[.slice ad past.length c,.agg (gsC b adT cT).toArray,.int .i64 r,.int .i64 to] w λe w'=>∃ (ad':Option Addr) (c':Nat) (x:List UInt8),e=.returned (.slice ad' x.length c')∧(FitB to past x∧(r=0→x=fullB b past to)) ∧
     St W w' (Sl 5 1 ad' x.length c' (bc x)::L):=by
 have hpc:=(hs.sl ad).2
 refine EN Tryz.func294 Tryz.ntmps294 rfl rfl λa ha=>?_
 refine BX 1 ha hs λb5 a w ha hs=>?_
 change St W w (blk b5 186 (gsC b adT cT)::_) at hs
 refine IF 7 ha hs (λhc0 a ha=>?_) λhc0 a ha=>?_
 ·
  refine RT 3 ha hs ?_
  exact⟨ad,c,past,rfl,⟨⟨⟨[],by simp⟩,by omega,by omega⟩,λ_=>(fullB_long (by omega)).symm⟩,hs.tail⟩
 refine RN 0 ha hs λa ha=>?_
 refine wp_seq_cut (M:=λa w=>∃ (ad2:Option Addr) (c2:Nat) (y:List UInt8),((∃ t,y=past++t)∧y.length≤past.length+1∧past.length<to∧(r=0→y=past))∧Fr a 48 [(0,.slice ad2 y.length c2),(3,.int .i64 to),(5,pt b5)]∧St W w (Sl 5 1 ad2 y.length c2 (bc y)::blk b5 186 (gsC b adT cT)::L)) ?_ ?_
 ·
  refine SX 2 ha hs (by decide) λa ha=>?_
  rw[show ((r:Nat):Int).tmod 256=((r%256:Nat):Int) from remN _ 256]at ha
  refine RN 1 ha hs λa ha=>?_
  have hr6:r%256<256:=Nat.mod_lt _ (by decide)
  generalize hre:r%256=r6 at ha hr6
  refine IF 3 ha hs (λhc1 a ha=>?_) λhc1 a ha=>?_
  ·
   have hRk:=hR.resolve_left (λh=>by rw[h]at hre;omega)
   have hp0:=hs.drew.tail.tail
   refine DWO 0 [] [0,1,2,3,4,5,7,8,9,11,1006,1010,12,1013,1014,1015,16] ha hs λa w ha hs hH hC=>?_
   refine RH 5 ha hs hH hC λa ha=>?_
   refine QP ha (λw=>ex_sliceHM ha Tryz.underlying22 Ty.t5 (Nat.le_refl _) (by omega)) λa ha=>?_
   rw[cutAd_zero]at ha
   refine RH 3 ha hs hH hC λa ha=>?_
   rw[show ((r6:Nat):Int)+1=((r6+1:Nat):Int) from by omega]at ha
   refine RH 2 ha hs hH hC λa ha=>?_
   refine CL3 0 ha hs (hRk.rank hs hb (by omega) hpl hpc (λw' hw=>hw.tail.rdB ad past rfl rfl) (λw' hw=>ht w' hw.tail.tail)) λadr cr out a w ha ⟨hol,hs⟩=>?_
   obtain⟨br,or',rfl,hrr⟩:=hs.slRd adr (by omega)
   refine RN 1 ha hs λa ha=>?_
   refine SS ha (ld1 ha (hrr r6 _ (bc_at (by omega)))) λa ha=>?_
   refine RN 0 ha hs λa ha=>?_
   refine st_buildSlice ha rfl hs Tryz.underlying22 Ty.t5 rfl rfl rfl rfl (by decide) (by decide) λb32 a w ha hs ho=>?_
   clear ho
   replace hs:=hs.cutSlM ad past.length (Nat.le_refl _)
   rw[cutAd_zero,Nat.mul_one,List.take_of_length_le (by rw[bc_len];exact Nat.le_refl _)]at hs
   refine RN 0 ha hs λa ha=>?_
   refine st_append ha rfl hs Tryz.underlying22 Ty.t5 rfl rfl hs.rdAll rfl (bc_one [out[r6]]) (by decide) (by decide) (by omega) λad33 c33 a w ha hs=>?_
   rw[show bc past++_=bc (past++[out[r6]]) from (bc_app _ [_]).symm,show past.length+1=(past++[out[r6]]).length from by simp]at hs
   rw[show past.length+1=(past++[out[r6]]).length from by simp]at ha
   refine RN 1 ha hs λa ha=>?_
   exact⟨ad33,c33,past++[out[r6]],⟨⟨_,rfl⟩,by simp,by omega,λh=>by rw[h]at hre;omega⟩,ha.keep [0,3,5],hs.sub⟩
  have hr60:r6=0:=by omega
  refine RN 0 ha hs λa ha=>?_
  exact⟨ad,c,past,⟨⟨[],by simp⟩,by omega,by omega,λ_=>rfl⟩,ha.keep [0,3,5],hs.sub⟩
 clear ha;(try clear hs)
 rintro a w ⟨ad2,c2,y,⟨hy1,hy2,hy4,hy3⟩,ha,hs⟩
 refine RN 1 ha hs λa ha=>?_
 have hyl:y.length≤to:=by omega
 have hyc:=(hs.sl ad2).2
 refine DWO 0 [] [0,1,2,3,4,5,7,8,9,10,11,1006,1012,1013,14] ha hs λa w ha hs hH hC=>?_
 refine RH 5 ha hs hH hC λa ha=>?_
 refine QP ha (λw=>ex_sliceHM ha Tryz.underlying22 Ty.t5 (Nat.le_refl _) (by omega)) λa ha=>?_
 rw[cutAd_zero]at ha
 refine RH 5 ha hs hH hC λa ha=>?_
 rw[show ((to:Nat):Int)-((y.length:Nat):Int)=((to-y.length:Nat):Int) from by omega]at ha
 refine RH 1 ha hs hH hC λa ha=>?_
 refine CL2 0 ha hs (pred_chain (to:=0) (past:=y) (m:=to-y.length) hs hb (by omega) hyc (by omega) (λw' hw=>hw.rdB ad2 y rfl rfl) (λw' hw=>ht w' hw.tail.tail)) λadc cc a w ha hs=>?_
 replace hs:=hs.cutSlM ad2 y.length (Nat.le_refl _)
 rw[cutAd_zero,Nat.mul_one,List.take_of_length_le (by rw[bc_len];exact Nat.le_refl _)]at hs
 have hchl:=chainB_len b y (to-y.length)
 refine RN 0 ha hs λa ha=>?_
 refine st_appendT ha rfl hs Tryz.underlying22 Ty.t5 rfl rfl (by decide) (λh0=>(hs.tail.rdB adc (chainB b y (to-y.length)) rfl hchl).get h0) (by rw[bc_len];omega) (bc_one _) (by omega) λad47 c47 a w ha hs=>?_
 rw[← bc_app,chain_all,show y.length+(to-y.length)=(chainN b y (to-y.length)).length from by rw[chainN_len]]at hs
 rw[show y.length+(to-y.length)=(chainN b y (to-y.length)).length from by rw[chainN_len]]at ha
 refine RN 1 ha hs λa ha=>?_
 refine RT 0 ha hs ?_
 obtain⟨t,hyt⟩:=hy1
 refine⟨ad47,c47,_,rfl,⟨⟨⟨t++chainB b y (to-y.length),?_⟩,by rw[chainN_len];omega,by rw[chainN_len];omega⟩,λh=>?_⟩,hs.sub⟩
 · rw[← chain_all,hyt,List.append_assoc]
 · rw[hy3 h,fullB]
set_option maxHeartbeats 1000000 in
theorem guess_ahead {qb:Nat}{lbs:List Nat}{ls:List (List UInt8)}(hR:r=0∨RankS)(hr:r≤100000)(hs:St W w (Qu qb lbs ls::L))(hb:mayGs b)(h0:ls≠[])(h8:ls.length≤8)(hl:∀ l∈ls,l.length≤1000)(hto:to≤1000)(ht:∀ w',St W w' L→RdB w' adT b.table.length b.table) :
   Calls Tryz.prog 277 #[pt qb,.agg (gsC b adT cT).toArray,.int .i64 r,.int .i64 to] w λe w'=>∃ (ad':Option Addr) (c':Nat) (X:List (List UInt8)),e=.returned (.slice ad' (to-frontL ls) c')∧(FitX to ls X∧(r=0→X=fullL b ls to)) ∧
     St W w' (OwnBB ad' (to-frontL ls) c' (aheadX X (frontL ls) to)::Qu qb lbs ls::L):=by
 refine EN Tryz.func277 Tryz.ntmps277 rfl rfl λa ha=>?_
 refine BX 1 ha hs λb5 a w ha hs=>?_
 change St W w (blk b5 186 (gsC b adT cT)::_) at hs
 refine RN 6 ha hs λa ha=>?_
 replace ha:=ha.isF 21
 refine CL1 1 ha hs (pred_may hs) λrr a w ha ⟨hrr,hs⟩=>?_
 rw[hrr.2 hb]at ha
 refine RN 3 ha hs λa ha=>?_
 replace ha:=ha.isF 26
 refine RN 4 ha hs λa ha=>?_
 rw[decide_eq_false (by omega)]at ha
 refine RN 3 ha hs λa ha=>?_
 rw[decide_eq_false (by omega)]at ha
 refine CL 3 ha hs (queue_front (hs.pick (Qu qb lbs ls)) h0 h8) λa w ha hs=>?_
 refine CL 6 ha hs (queue_n hs) λa w ha hs=>?_
 refine RN 1 ha hs λa ha=>?_
 replace hs:=hs.sl0 22 1 none
 replace hs:=St.allNil (f:=bbo) hs
 refine wp_loop_ghost (λμ a w=>∃ (i:Nat) (rr:Nat) (xs:List BBx) (adx:Option Addr) (cx:Nat),(μ=ls.length-i∧i≤ls.length∧xs.length=i∧(rr=0∨RankS)∧rr≤100000∧(r=0→rr=0)∧(∀ (j:Nat) (l:List UInt8) (x:BBx),ls[j]?=some l→xs[j]?=some x→FitB to l x.2.2)∧(r=0→xs.map (·.2.2)=(fullL b ls to).take i))∧Fr a 84 [(0,pt qb),(2,.int .i64 rr),(3,.int .i64 to),(5,pt b5),(9,.int .i64 (frontL ls)),(10,.slice adx i cx),(37,.int .i64 ls.length),(38,.int .i64 i)]∧St W w (Sl 22 1 adx i cx (xs.map bbv)::All bbo xs::Qu qb lbs ls::blk b5 186 (gsC b adT cT)::L)) (ls.length) (⟨0,r,[],none,0,⟨rfl,by omega,rfl,hR,hr,λh=>h,λj l x _ h=>by simp at h,λ_=>rfl⟩,ha.keep [0,2,3,5,9,10,37,38],(hs.sub:St W w (Sl 22 1 none 0 0 []::All bbo []::Qu qb lbs ls::blk b5 186 (gsC b adT cT)::L))⟩) ?_
 clear ha hs
 rintro μ a w ⟨i,rr,xs,adx,cx,⟨rfl,hi,hxl,hRr,hrr1,hrr0,hfit,hful⟩,ha,hs⟩
 refine IF 3 ha hs (λhc1 a ha=>?_) λhc1 a ha=>?_
 ·
  have hil:i<ls.length:=by omega
  have hlt:=hl _ (ln_mem hil)
  refine CL 7 ha hs (queue_line (hs.pick (Qu qb lbs ls)) hil) λa w ha hs=>?_
  refine CL2 0 ha hs (q_all hs hil hlt) λadp cp a w ha hs=>?_
  refine RN 3 ha hs λa ha=>?_
  refine wp_seq_cut (M:=λa w=>∃ k rr':Nat,((k=0∨RankS)∧k≤100000∧(rr'=0∨RankS)∧rr'≤100000∧(r=0→k=0∧rr'=0))∧Fr a 84 [(0,pt qb),(2,.int .i64 rr'),(3,.int .i64 to),(5,pt b5),(9,.int .i64 (frontL ls)),(10,.slice adx i cx),(12,.slice adp (ls.getD i []).length cp),(13,.int .i64 k),(37,.int .i64 ls.length),(38,.int .i64 i)]∧St W w (Sl 5 1 adp (ls.getD i []).length cp (bc (ls.getD i []))::Sl 22 1 adx i cx (xs.map bbv)::All bbo xs::Qu qb lbs ls::blk b5 186 (gsC b adT cT)::L)) ?_ ?_
  ·
   refine IF 5 ha hs (λhc2 a ha=>?_) λhc2 a ha=>?_
   ·
    refine RN 3 ha hs λa ha=>?_
    exact⟨rr,0,⟨hRr,hrr1,.inl rfl,by omega,λh=>⟨hrr0 h,rfl⟩⟩,ha.keep [0,2,3,5,9,10,12,13,37,38],hs.sub⟩
   refine RN 0 ha hs λa ha=>?_
   exact⟨0,rr,⟨.inl rfl,by omega,hRr,hrr1,λh=>⟨rfl,hrr0 h⟩⟩,ha.keep [0,2,3,5,9,10,12,13,37,38],hs.sub⟩
  clear ha;(try clear hs)
  rintro a w ⟨k,rr',⟨hk1,hk2,hk3,hk4,hk5⟩,ha,hs⟩
  refine CL3 5 ha hs (guess_line hk1 hk2 hs hb hlt hto (λw' hw=>ht w' hw.tail.tail.tail.tail)) λadl cl x a w ha ⟨⟨hfx,hfu⟩,hs⟩=>?_
  refine RN 0 ha hs λa ha=>?_
  refine st_buildSlice ha rfl hs Tryz.underlying207 Ty.t22 rfl rfl rfl rfl (by decide) (by decide) λb56 a w ha hs ho=>?_
  clear ho
  refine RN 0 ha hs λa ha=>?_
  refine st_append ha rfl hs Tryz.underlying207 Ty.t22 rfl rfl hs.rdAll rfl (by simp[Value.oneCell']) (by decide) (by decide) (by omega) λad57 c57 a w ha hs=>?_
  rw[show List.map bbv xs++_=List.map bbv (xs++[(adl,cl,x)]) from by rw[List.map_append];rfl]at hs
  refine RN 3 ha hs λa ha=>?_
  have hs2:=St.allPush (f:=bbo) (x:=(adl,cl,x)) (hs.sub (M:=Sl 5 1 adl x.length cl (bc x)::All bbo xs::Sl 22 1 ad57 (i+1) c57 ((xs++[(adl,cl,x)]).map bbv)::Qu qb lbs ls::blk b5 186 (gsC b adT cT)::L))
  refine⟨ls.length-(i+1),by omega,i+1,rr',xs++[(adl,cl,x)],ad57,c57,⟨rfl,by omega,by rw[List.length_append,hxl];rfl,hk3,hk4,λh=>(hk5 h).2,λj l y hj hy=>?_,λh=>?_⟩,ha.keep [0,2,3,5,9,10,37,38],hs2.sub⟩
  · by_cases hji:j<i
    · rw[List.getElem?_append_left (by omega)]at hy
      exact hfit j l y hj hy
    · have hjl:=(List.getElem?_eq_some_iff.1 hy).1
      rw[List.length_append,List.length_singleton]at hjl
      obtain rfl:j=i:=by omega
      rw[List.getElem?_append_right (by omega),hxl,Nat.sub_self]at hy
      obtain rfl:(adl,cl,x)=y:=by simpa using hy
      rw[show l=ls.getD j [] from by rw[List.getD_eq_getElem?_getD,hj];rfl]
      exact hfx
  · rw[List.map_append,hful h,List.take_succ_eq_append_getElem (by rw[fullL,List.length_map];exact hil)]
    congr 1
    rw[List.map_singleton,hfu (hk5 h).1]
    simp[fullL,List.getD_eq_getElem?_getD,hil]
 obtain rfl:i=ls.length:=by omega
 have hX:FitX to ls (xs.map (·.2.2)):=⟨by rw[List.length_map];exact hxl,λj l x hj hx=>by
   rw[List.getElem?_map]at hx
   obtain⟨y,hy,rfl⟩:=Option.map_eq_some_iff.1 hx
   exact hfit j l y hj hy⟩
 have hXf:r=0→xs.map (·.2.2)=fullL b ls to:=λh=>by rw[hful h,List.take_of_length_le (by rw[fullL,List.length_map];exact Nat.le_refl _)]
 clear hfit hful
 have hfr:frontL ls≤1000:=by
   obtain⟨l,hl1,hl2⟩:=frontL_some h0
   rw[hl2];exact hl l hl1
 refine RN 6 ha hs λa ha=>?_
 replace hs:=hs.sl0 22 1 none
 replace hs:=St.allNil (f:=bbo) hs
 refine wp_loop_ghost (λμ a w=>∃ (d:Nat) (zs:List BBx) (adz:Option Addr) (cz:Nat),(μ=to-frontL ls-d∧d≤to-frontL ls∧zs.map (·.2.2)=(List.range d).map λi=>jointL (xs.map (·.2.2)) (frontL ls+i))∧Fr a 84 [(3,.int .i64 to),(10,.slice adx ls.length cx),(14,.slice adz d cz),(15,.int .i64 (frontL ls+d:Nat))]∧St W w (Sl 22 1 adz d cz (zs.map bbv)::All bbo zs::Sl 22 1 adx ls.length cx (xs.map bbv)::All bbo xs::Qu qb lbs ls::L)) (to-frontL ls) (⟨0,[],none,0,⟨rfl,by omega,rfl⟩,by rw[Nat.add_zero];exact ha.keep [3,10,14,15],(hs.sub:St W w (Sl 22 1 none 0 0 []::All bbo []::Sl 22 1 adx ls.length cx (xs.map bbv)::All bbo xs::Qu qb lbs ls::L))⟩) ?_
 clear ha hs
 rintro μ a w ⟨d,zs,adz,cz,⟨rfl,hd,hzs⟩,ha,hs⟩
 refine IF 5 ha hs (λhc3 a ha=>?_) λhc3 a ha=>?_
 ·
  refine RN 3 ha hs λa ha=>?_
  replace hs:=hs.sl0 5 1 none
  refine RN 5 ha hs λa ha=>?_
  refine wp_loop_ghost (λμ a w=>∃ (i:Nat) (adj:Option Addr) (cj:Nat),(μ=ls.length-i∧i≤ls.length)∧Fr a 84 [(3,.int .i64 to),(10,.slice adx ls.length cx),(14,.slice adz d cz),(15,.int .i64 (frontL ls+d:Nat)),(16,.slice adj i cj),(65,.slice adx ls.length cx),(66,.int .i64 ls.length),(67,.int .i64 i)]∧St W w (Sl 5 1 adj i cj (bc (jointN (xs.map (·.2.2)) (frontL ls+d) i))::Sl 22 1 adz d cz (zs.map bbv)::All bbo zs::Sl 22 1 adx ls.length cx (xs.map bbv)::All bbo xs::Qu qb lbs ls::L)) (ls.length) (⟨0,none,0,⟨rfl,by omega⟩,ha.keep [3,10,14,15,16,65,66,67],hs⟩) ?_
  clear ha hs
  rintro μ a w ⟨i,adj,cj,⟨rfl,hi⟩,ha,hs⟩
  refine IF 3 ha hs (λhc4 a ha=>?_) λhc4 a ha=>?_
  ·
   have hil:i<ls.length:=by omega
   obtain⟨x,hx⟩:∃ x,xs[i]?=some x:=⟨_,List.getElem?_eq_getElem (by omega)⟩
   have hrX:=St.rdX (xs:=xs) (hs.sub (M:=Sl 22 1 adx ls.length cx (xs.map bbv)::All bbo xs::[]))
   obtain⟨bx,ox,rfl,hrx⟩:=hrX.1 (by omega)
   have hxf:=hX.fit i _ x.2.2 (List.getElem?_eq_getElem hil) (by rw[List.getElem?_map,hx];rfl)
   obtain⟨bl,ol,hxe,hrl⟩:=(hrX.2 x (List.mem_of_getElem? hx)).get (by have:=hxf.2.1;omega)
   refine RN 3 ha hs λa ha=>?_
   refine SS ha (ld1 ha (hrx i (bbv x) (by rw[List.getElem?_map,hx];rfl))) λa ha=>?_
   refine RN 4 ha hs λa ha=>?_
   rw[bbv,hxe]at ha
   refine SX 0 ha hs (by have:=hxf.2.1;omega) λa ha=>?_
   refine RN 0 ha hs λa ha=>?_
   refine SS ha (ld1 ha (hrl (frontL ls+d) _ (bc_atD (by have:=hxf.2.1;omega)))) λa ha=>?_
   refine RN 0 ha hs λa ha=>?_
   refine st_buildSlice ha rfl hs Tryz.underlying22 Ty.t5 rfl rfl rfl rfl (by decide) (by decide) λb76 a w ha hs ho=>?_
   clear ho
   refine RN 0 ha hs λa ha=>?_
   refine st_append ha rfl hs Tryz.underlying22 Ty.t5 rfl rfl hs.rdAll rfl (bc_one [x.2.2.getD (frontL ls+d) 0]) (by decide) (by decide) (by omega) λad77 c77 a w ha hs=>?_
   rw[show bc (jointN (xs.map (·.2.2)) (frontL ls+d) i)++_=bc (jointN (xs.map (·.2.2)) (frontL ls+d) (i+1)) from by rw[jointN_succ (by rw[List.length_map];omega),List.getElem_map,bc_app,(List.getElem?_eq_some_iff.1 hx).2]]at hs
   refine RN 3 ha hs λa ha=>?_
   exact⟨ls.length-(i+1),by omega,i+1,ad77,c77,⟨rfl,by omega⟩,ha.keep [3,10,14,15,16,65,66,67],hs.sub⟩
  obtain rfl:i=ls.length:=by omega
  have hjl:jointN (xs.map (·.2.2)) (frontL ls+d) ls.length=jointL (xs.map (·.2.2)) (frontL ls+d):=by
    conv=>lhs;rw[← hX.len]
    exact jointN_all _ _
  rw[hjl]at hs
  have hjn:(jointL (xs.map (·.2.2)) (frontL ls+d)).length=ls.length:=by rw[jointL_len];exact hX.len
  refine RN 2 ha hs λa ha=>?_
  refine st_buildSlice ha rfl hs Tryz.underlying207 Ty.t22 rfl rfl rfl rfl (by decide) (by decide) λb81 a w ha hs ho=>?_
  clear ho
  refine RN 0 ha hs λa ha=>?_
  refine st_append ha rfl hs Tryz.underlying207 Ty.t22 rfl rfl hs.rdAll rfl (by simp[Value.oneCell']) (by decide) (by decide) (by omega) λad82 c82 a w ha hs=>?_
  rw[show List.map bbv zs++_=List.map bbv (zs++[(adj,cj,jointL (xs.map (·.2.2)) (frontL ls+d))]) from by rw[List.map_append,List.map_singleton,bbv,hjn];rfl]at hs
  refine RN 4 ha hs λa ha=>?_
  have hs2:=St.allPush (f:=bbo) (x:=(adj,cj,jointL (xs.map (·.2.2)) (frontL ls+d))) (by
    rw[bbo,hjn]
    exact hs.sub (M:=Sl 5 1 adj ls.length cj (bc (jointL (xs.map (·.2.2)) (frontL ls+d)))::All bbo zs::Sl 22 1 ad82 (d+1) c82 ((zs++[(adj,cj,jointL (xs.map (·.2.2)) (frontL ls+d))]).map bbv)::Sl 22 1 adx ls.length cx (xs.map bbv)::All bbo xs::Qu qb lbs ls::L))
  exact⟨to-frontL ls-(d+1),by omega,d+1,zs++[(adj,cj,jointL (xs.map (·.2.2)) (frontL ls+d))],ad82,c82,⟨rfl,by omega,by rw[List.map_append,hzs,List.range_succ,List.map_append];rfl⟩,by rw[show ((frontL ls+(d+1):Nat):Int)=((frontL ls+d:Nat):Int)+1 from by omega];exact ha.keep [3,10,14,15],hs2.sub⟩
 obtain rfl:d=to-frontL ls:=by omega
 refine RT 3 ha hs ?_
 exact⟨adz,cz,xs.map (·.2.2),rfl,⟨hX,hXf⟩,OwnBB.close (xs:=zs) (hs.sub (M:=Sl 22 1 adz (to-frontL ls) cz (zs.map bbv)::All bbo zs::Qu qb lbs ls::L)) hzs (aheadX_len _ _ _)⟩
end
end
end Go.Proofs.YteoldcfapaiobaaGreat
