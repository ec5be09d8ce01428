/- Frames over cells of their own: vm.Step, fold.From. -/
import Derived.Test.YtdilfdkendjjhaaGreatA13Vm
import Derived.Test.YtdilfdkendjjhaaGreatA16RefS
import Derived.ChangeSame
import Derived.Test.YtdilfdkendjjhaaGreatA04Ty
import Derived.Test.YtdilfdkendjjhaaGreatA23CoQ
import Derived.Test.YtdilfdkendjjhaaGreatA22LinP
namespace Go.Proofs.YtdilfdkendjjhaaGreat
open Go.RowKit
set_option linter.unusedVariables false
set_option linter.unusedSimpArgs false
set_option maxRecDepth 10000
set_option synthInstance.maxSize 4000
set_option synthInstance.maxHeartbeats 400000
section
section
variable {W w:World}{L:List SP}{c cO cP q:Nat}{adO adP:Option Addr}{b:List UInt8}{g:Nat→Int}{p:Pr}{fr:Int}{bad:Bool}
def Jv (q:Nat)(g:Nat→Int)(bad:Bool):SP:=λh=>(gOk g∧bad=false)∧blk q 302 (ints .i32 32 g) h
theorem Jv.open (hs:St W w (Jv q g bad::L)):(gOk g∧bad=false)∧St W w (blk q 302 (ints .i32 32 g)::L):=by
 obtain⟨_,h1,h2⟩:=hs.exi (ι:=Unit) (p:=λ_=>gOk g∧bad=false) (B:=λ_=>blk q 302 (ints .i32 32 g)) (λh ⟨h1,h2⟩=>⟨(),h1,h2⟩)
 exact⟨h1,h2⟩
theorem Jv.close (hs:St W w (blk q 302 (ints .i32 32 g)::L))(h1:gOk g):St W w (Jv q g false::L) :=
 St.shut (M:=[_]) hs (λ_ ⟨_,_,_,a,b,x,_⟩=>⟨⟨h1,rfl⟩,a _ _ x⟩)
theorem vcells_get {c:Nat}(hc:c<32)(hs:St W w (Jv q g bad::L)):Calls Tryz.prog 319 (List.toArray [pt q,.int .i64 c]) w λe w'=>e=.returned (.int .i32 (g c))∧St W w' (Jv q g bad::L):=by
 have hj:=Jv.open hs
 clear hs
 obtain⟨⟨h1,rfl⟩,hs⟩:=hj
 refine EN Tryz.func319 Tryz.ntmps319 rfl rfl λa ha=>?_
 refine RN 8 ha hs λa ha=>?_
 refine SS ha (ld1 ha (hs.rd1 (ints_get _ hc))) λa ha=>?_
 refine RT 1 ha hs ?_
 exact⟨rfl,Jv.close hs h1⟩
theorem vcells_set {c:Nat}{v:Int}(hc:c<32)(hv:i32P v)(hs:St W w (Jv q g bad::L)):Calls Tryz.prog 320 (List.toArray [pt q,.int .i64 c,.int .i32 v]) w λe w' =>
   ∃ (g':Nat→Int) (bad':Bool),e=.returned (.tuple #[])∧((bad'=true∧g'=g)∨(bad'=false∧bad=false∧g'=upd g c v))∧St W w' (Jv q g' bad'::L):=by
 have hj:=Jv.open hs
 clear hs
 obtain⟨⟨h1,rfl⟩,hs⟩:=hj
 refine EN Tryz.func320 Tryz.ntmps320 rfl rfl λa ha=>?_
 refine ST 6 ha hs (λa w ha hs=>?_) (hlt:=(by rw[ints_len];exact hc))
 rw[ints_set]at hs
 refine RT 0 ha hs ?_
 exact⟨upd g c v,false,rfl,.inr ⟨rfl,rfl,rfl⟩,Jv.close hs (upd_ok h1 hv)⟩
theorem vcells_mem:MemS W 300 ⟨q,0,none⟩ 319 320 (Jv q) where
 mG:=λad w=>by kernel_rfl
 cG:=(by kernel_rfl)
 mS:=λad w=>by kernel_rfl
 cS:=(by kernel_rfl)
 ok:=λw L g bad h=>(Jv.open h).1.1
 get:=λw L g bad c hc h=>vcells_get hc h
 set:=λw L g bad c v hc hv h=>vcells_set hc hv h
theorem vm_step (hs:St W w (RoP W p adO cO::L))(hpr:prOk p)(hsz:p.title.size≤1000000000)(hg:gOk g)(hb:b.length≤1099511627776)(hp:∀ w',St W w' L→RdB w' adP b.length b) :
   Calls Tryz.prog 153 #[.agg (prV p adO cO).toArray,.agg (ints .i32 32 g).toArray,.int .i64 fr,.slice adP b.length cP] w λe w'=>e=.returned (.agg (ints .i32 32 (frameI p fr b g)).toArray)∧St W w' (RoP W p adO cO::L):=by
 refine EN Tryz.func153 Tryz.ntmps153 rfl rfl λa ha=>?_
 refine BX 1 ha hs λb4 a w ha hs=>?_
 change St W w (blk b4 34 (prV p adO cO)::_) at hs
 refine BX 0 ha hs λb5 a w ha hs=>?_
 refine AL 0 ha hs λb8 a w ha hs=>?_
 change St W w (blk b8 116 (ints .i32 32 (λ_=>0))::_) at hs
 refine RN 2 ha hs λa ha=>?_
 refine SK (st_set ha rfl (ex_build ha Ty.b302 Ty.t302 (cs:=ints .i32 32 g) rfl) rfl ?_);clear ha a;intro a ha
 refine BX 0 ha hs λb12 a w ha hs=>?_
 refine RN 7 ha hs λa ha=>?_
 replace hs:=Jv.close (hs.bring b12) hg
 refine CL3 0 ha hs (run_spec (M:=vcells_mem (q:=b12)) (L:=blk b8 116 (ints .i32 32 (λ_=>0))::L) (hs.sub (M:=Jv b12 g false::RoP W p adO cO::blk b8 116 (ints .i32 32 (λ_=>0))::L)) hpr hsz hb (λw' hw=>hp w' hw.tail)) λg' bad' nn a w ha ⟨hgb,hs⟩=>?_
 refine RN 1 ha hs λa ha=>?_
 have hj:=Jv.open hs
 clear hs
 obtain⟨⟨hg',rfl⟩,hs⟩:=hj
 obtain⟨_,rfl⟩:=hgb rfl
 refine SA 4 ha hs λa w ha hs=>?_
 refine RT 0 ha hs ?_
 exact⟨rfl,hs.sub⟩
theorem fold_from {P:List (List UInt8)}{zs:List BBx}(hs:St W w (RoP W p adO cO::L))(hpr:prOk p)(hsz:p.title.size≤1000000000)(hg:gOk g)(hP:P.length≤65536∧∀ b∈P,b.length≤1099511627776)(hf:-1099511627776≤fr∧fr≤1099511627776)(hz:zs.map (·.2.2)=P)(hp:∀ w',St W w' L→RdX w' adP zs) :
   Calls Tryz.prog 90 #[.agg (prV p adO cO).toArray,.agg (ints .i32 32 g).toArray,.int .i64 fr,.slice adP P.length cP] w λe w'=>e=.returned (.agg (ints .i32 32 (foldI p fr g P)).toArray)∧St W w' (RoP W p adO cO::L):=by
 have hzl:zs.length=P.length:=by rw[← hz,List.length_map]
 have hPl:=hP.1
 refine EN Tryz.func90 Tryz.ntmps90 rfl rfl λa ha=>?_
 refine BX 1 ha hs λb4 a w ha hs=>?_
 change St W w (blk b4 34 (prV p adO cO)::_) at hs
 refine BX 0 ha hs λb5 a w ha hs=>?_
 refine AL 0 ha hs λb8 a w ha hs=>?_
 change St W w (blk b8 116 (ints .i32 32 (λ_=>0))::_) at hs
 refine RN 5 ha hs λa ha=>?_
 refine wp_loop_ghost (λμ a w=>∃ (i:Nat) (g':Nat→Int),(μ=P.length-i∧i≤P.length∧gOk g'∧foldI p fr g P=foldI p (fr+i) g' (P.drop i))∧Fr a 27 [(2,.int .i64 fr),(4,pt b4),(5,pt b5),(8,pt b8),(11,.slice adP P.length cP),(12,.int .i64 P.length),(13,.int .i64 i)]∧St W w (blk b5 116 (ints .i32 32 g')::blk b4 34 (prV p adO cO)::blk b8 116 (ints .i32 32 (λ_=>0))::RoP W p adO cO::L)) (P.length) (⟨0,g,⟨by simp,by simp,hg,by simp⟩,ha.keep [2,4,5,8,11,12,13],hs.sub⟩) ?_
 clear ha hs
 rintro μ a w ⟨i,g',⟨rfl,hi,hgo,hfo⟩,ha,hs⟩
 refine IF 3 ha hs (λhc0 a ha=>?_) λhc0 a ha=>?_
 ·
  obtain⟨z,hzi⟩:∃ z,zs[i]?=some z:=⟨_,List.getElem?_eq_getElem (by omega)⟩
  have hbs:P[i]?=some z.2.2:=by rw[← hz,List.getElem?_map,hzi];rfl
  obtain⟨bp,op,rfl,hrd⟩:=(hp _ (hs.sub (M:=L))).1 (by omega)
  have hcb:=hrd i (bbv z) (by rw[List.getElem?_map,hzi];rfl)
  have hbm:=hP.2 _ (List.mem_of_getElem? hbs)
  have hfo2:foldI p fr g P=foldI p (fr+(i+1:Nat)) (frameI p (fr+i) z.2.2 g') (P.drop (i+1)):=by
    rw[hfo,List.drop_eq_getElem_cons (by omega),foldI]
    have:P[i]'(by omega)=z.2.2:=by rw[List.getElem?_eq_getElem (by omega)]at hbs;exact Option.some.inj hbs
    rw[this]
    congr 1
    omega
  refine RN 4 ha hs λa ha=>?_
  refine SS ha (ld1 ha (hcb)) λa ha=>?_
  rw[bbv]at ha
  refine CL 8 ha hs (vm_step (hs.pick (RoP W p adO cO)) hpr hsz hgo hbm (λw' hw=>(hp w' hw.sub).2 z (List.mem_of_getElem? hzi))) λa w ha hs=>?_
  refine SA 0 ha hs λa w ha hs=>?_
  refine RN 2 ha hs λa ha=>?_
  exact⟨P.length-(i+1),by omega,i+1,_,⟨rfl,by omega,frameI_ok hpr hgo,hfo2⟩,ha.keep [2,4,5,8,11,12,13],hs.sub⟩
 refine RN 1 ha hs λa ha=>?_
 obtain rfl:i=P.length:=by omega
 rw[List.drop_length,foldI]at hfo
 refine SA 1 ha hs λa w ha hs=>?_
 refine RT 0 ha hs ?_
 exact⟨by rw[hfo],hs.sub⟩
end
end
section
theorem rep_ints (k:IntKind)(m:Nat)(x:Int):List.replicate m (Value.int k x)=ints k m (λ_=>x):=by
 apply List.ext_getElem (by simp[ints,fn])
 intro i h1 h2
 simp[ints,fn]
abbrev gsC (b:Gs)(adT:Option Addr)(cT:Nat):List Value:=[.int .i64 b.kind,.int .i64 b.order,.slice adT b.table.length cT]
theorem bc_drop (l:List UInt8)(k:Nat):bc (l.drop k)=(bc l).drop k:=by rw[bc,bc,List.map_drop]
section
variable {W w:World}{L:List SP}{n c m cT:Nat}{ad adT:Option Addr}{past:List UInt8}{b:Gs}
theorem pred_may (hs:St W w L):Calls Tryz.prog 112 #[.agg (gsC b adT cT).toArray] w λe w'=>∃ r:Bool,e=.returned (.bool r)∧(r=true↔mayGs b)∧St W w' L:=by
 refine EN Tryz.func112 Tryz.ntmps112 rfl rfl λa ha=>?_
 refine BX 1 ha hs λb1 a w ha hs=>?_
 change St W w (blk b1 150 (gsC b adT cT)::_) at hs
 refine IF 8 ha hs (λhc0 a ha=>?_) λhc0 a ha=>?_
 ·
  refine BY 5 ha hs (λhg3 a ha=>?_) λhg3 a ha=>?_
  ·
   refine RT 6 ha hs ?_
   exact⟨_,rfl,(by rw[decide_eq_true_iff,mayGs];omega),hs.sub⟩
  refine RT 6 ha hs ?_
  exact⟨_,rfl,⟨λh=>(by cases h),λh=>by rw[mayGs]at h;exfalso;omega⟩,hs.sub⟩
 refine IF 3 ha hs (λhc1 a ha=>?_) λhc1 a ha=>?_
 ·
  refine BY 5 ha hs (λhg3 a ha=>?_) λhg3 a ha=>?_
  ·
   refine BY 5 ha hs (λhg8 a ha=>?_) λhg8 a ha=>?_
   ·
    refine RT 6 ha hs ?_
    exact⟨_,rfl,(by rw[decide_eq_true_iff,mayGs];omega),hs.sub⟩
   refine RT 6 ha hs ?_
   exact⟨_,rfl,⟨λh=>(by cases h),λh=>by rw[mayGs]at h;exfalso;omega⟩,hs.sub⟩
  refine RT 11 ha hs ?_
  exact⟨_,rfl,⟨λh=>(by cases h),λh=>by rw[mayGs]at h;exfalso;omega⟩,hs.sub⟩
 refine IF 3 ha hs (λhc2 a ha=>?_) λhc2 a ha=>?_
 ·
  refine BY 5 ha hs (λhg3 a ha=>?_) λhg3 a ha=>?_
  ·
   refine BY 6 ha hs (λhg9 a ha=>?_) λhg9 a ha=>?_
   ·
    refine RT 6 ha hs ?_
    exact⟨_,rfl,(by rw[decide_eq_true_iff,mayGs];omega),hs.sub⟩
   refine RT 6 ha hs ?_
   exact⟨_,rfl,⟨λh=>(by cases h),λh=>by rw[mayGs]at h;exfalso;omega⟩,hs.sub⟩
  refine RT 12 ha hs ?_
  exact⟨_,rfl,⟨λh=>(by cases h),λh=>by rw[mayGs]at h;exfalso;omega⟩,hs.sub⟩
 refine RT 2 ha hs ?_
 exact⟨_,rfl,⟨λh=>(by cases h),λh=>by rw[mayGs]at h;exfalso;omega⟩,hs.sub⟩
theorem pred_weights (hs:St W w L)(hb:mayGs b)(hpl:past.length≤4000)(hpc:past.length≤c)(hp:∀ w',St W w' L→RdB w' ad past.length past) :
   Calls Tryz.prog 244 #[.agg (gsC b adT cT).toArray,.slice ad past.length c] w λe w'=>e=.returned (.agg (ints .i64 256 (wtL b past)).toArray)∧St W w' L:=by
 simp only[mayGs]at hb
 refine EN Tryz.func244 Tryz.ntmps244 rfl rfl λa ha=>?_
 refine BX 1 ha hs λb2 a w ha hs=>?_
 change St W w (blk b2 150 (gsC b adT cT)::_) at hs
 refine AL 0 ha hs λb4 a w ha hs=>?_
 rw[rep_ints]at hs
 refine AL 1 ha hs λb5 a w ha hs=>?_
 rw[rep_ints]at hs
 refine BY 6 ha hs (λhg3 a ha=>?_) λhg3 a ha=>?_
 ·
  refine SA 9 ha hs λa w ha hs=>?_
  refine RT 0 ha hs ?_
  exact⟨by rw[wtL,if_neg (by omega)],hs.sub⟩
 refine IF 6 ha hs (λhc0 a ha=>?_) λhc0 a ha=>?_
 ·
  refine SA 2 ha hs λa w ha hs=>?_
  refine RT 0 ha hs ?_
  exact⟨by rw[wtL,if_pos (by omega),wtN_low (by omega)],hs.sub⟩
 refine RN 1 ha hs λa ha=>?_
 have hk2:b.kind=2:=by omega
 obtain⟨o,ho⟩:∃ o:Nat,b.order=(o:Int):=⟨b.order.toNat,by omega⟩
 rw[gsC,ho]at hs
 have hol:o≤past.length:=by omega
 have hwt:wtL b past=wtN o past past.length:=by rw[wtL,if_pos hk2,ho,Int.toNat_natCast]
 refine RN 6 ha hs λa ha=>?_
 rw[show ((past.length:Nat):Int)-(o:Int)=((past.length-o:Nat):Int) from by omega]at ha
 refine RN 7 ha hs λa ha=>?_
 rw[show past.length-(past.length-o)=o from by omega]at ha
 have ho3:o≤3:=by omega
 refine wp_loop_ghost (λμ a w=>∃ (i:Nat),(μ=past.length-i∧o≤i∧i≤past.length)∧Fr a 52 [(1,.slice ad past.length c),(2,pt b2),(4,pt b4),(5,pt b5),(6,.slice (cutAd ad (past.length-o) c 1) o (c-(past.length-o))),(7,.int .i64 i)]∧St W w (blk b5 245 (ints .i64 256 (wtN o past i))::blk b4 245 (ints .i64 256 (λ_=>0))::blk b2 150 [.int .i64 b.kind,.int .i64 o,.slice adT b.table.length cT]::L)) (past.length-o) (⟨o,⟨rfl,Nat.le_refl _,hol⟩,ha.keep [1,2,4,5,6,7],by rw[wtN_low (Nat.le_refl _)];exact hs.sub⟩) ?_
 clear ha hs
 rintro μ a w ⟨i,⟨rfl,hio,hi⟩,ha,hs⟩
 refine IF 6 ha hs (λhc1 a ha=>?_) λhc1 a ha=>?_
 ·
  have hil:i<past.length:=by omega
  have hbd:=wtN_bd o past i past[i].toNat
  have hb8:=u8_lt past[i]
  refine RN 7 ha hs λa ha=>?_
  rw[show ((i:Nat):Int)-(o:Int)=((i-o:Nat):Int) from by omega]at ha
  refine RN 2 ha hs λa ha=>?_
  rw[show i-(i-o)=o from by omega]at ha
  refine CL 1 ha hs (bytes_equalS hs ((hp _ hs.tail.tail.tail).cutLH (lo:=i-o) (n:=o) (by omega) hpc) (by have:=(hp _ hs.tail.tail.tail).cutLH (lo:=past.length-o) (n:=o) (by omega) hpc;exact this)) λa w ha hs=>?_
  refine IF 0 ha hs (λhc2 a ha=>?_) λhc2 a ha=>?_
  ·
   obtain⟨bb,oo,rfl,hr⟩:=(hp _ hs.tail.tail.tail).get (by omega)
   refine RN 3 ha hs λa ha=>?_
   refine SS ha (ld1 ha (hr i _ (bc_at hil))) λa ha=>?_
   refine RN 1 ha hs λa ha=>?_
   refine SS ha (ld1 ha (hs.rd1 (ints_get _ hb8))) λa ha=>?_
   refine ST 2 ha hs (λa w ha hs=>?_) (hlt:=(by rw[ints_len];omega))
   rw[ints_set]at hs
   refine RN 3 ha hs λa ha=>?_
   exact⟨past.length-(i+1),by omega,i+1,⟨rfl,by omega,by omega⟩,ha.keep [1,2,4,5,6,7],by
     rw[show wtN o past (i+1)=λj=>if j=past[i].toNat then wtN o past i past[i].toNat+1 else wtN o past i j from by
       rw[wtN,if_pos ⟨hio,by rw[endsB,← hc2,List.take_of_length_le (l:=past.drop (past.length-o)) (by rw[List.length_drop];omega)]⟩,List.getD_eq_getElem?_getD,List.getElem?_eq_getElem hil];rfl]
     exact hs.sub⟩
  refine RN 3 ha hs λa ha=>?_
  exact⟨past.length-(i+1),by omega,i+1,⟨rfl,by omega,by omega⟩,ha.keep [1,2,4,5,6,7],by
    rw[show wtN o past (i+1)=wtN o past i from by
      rw[wtN,if_neg (λh=>by
        have h2:=h.2
        rw[endsB,← List.take_of_length_le (l:=past.drop (past.length-o)) (i:=o) (by rw[List.length_drop];omega)]at h2
        rw[h2]at hc2;cases hc2)]]
    exact hs.sub⟩
 obtain rfl:i=past.length:=by omega
 refine SA 2 ha hs λa w ha hs=>?_
 refine RT 0 ha hs ?_
 exact⟨by rw[hwt],hs.sub⟩
theorem pred_last (hs:St W w L)(hpl:past.length≤4000)(hp:∀ w',St W w' L→RdB w' ad past.length past) :
   Calls Tryz.prog 246 #[.slice ad past.length c] w λe w'=>e=.returned (.int .u8 ((lastB past).toNat:Nat))∧St W w' L:=by
 refine EN Tryz.func246 Tryz.ntmps246 rfl rfl λa ha=>?_
 refine IF 7 ha hs (λhc0 a ha=>?_) λhc0 a ha=>?_
 ·
  refine RT 2 ha hs ?_
  exact⟨by rw[lastB,List.eq_nil_of_length_eq_zero (l:=past) (by omega)];rfl,hs⟩
 refine RN 1 ha hs λa ha=>?_
 obtain⟨bb,oo,rfl,hr⟩:=(hp _ hs).get (by omega)
 refine RN 4 ha hs λa ha=>?_
 rw[show ((past.length:Nat):Int)-1=((past.length-1:Nat):Int) from by omega]at ha
 refine RN 1 ha hs λa ha=>?_
 refine SS ha (ld1 ha (hr (past.length-1) _ (bc_at (by omega)))) λa ha=>?_
 refine RT 1 ha hs ?_
 refine⟨?_,hs⟩
 have h0:past≠[]:=λh=>by rw[h]at hc0;simp at hc0
 rw[lastB,List.getLastD_eq_getLast?,List.getLast?_eq_getElem?,List.getElem?_eq_getElem (by omega)];rfl
theorem pred_first (hs:St W w L)(hb:mayGs b)(hpl:past.length≤4000)(hpc:past.length≤c)(hp:∀ w',St W w' L→RdB w' ad past.length past)(ht:∀ w',St W w' L→RdB w' adT b.table.length b.table) :
   Calls Tryz.prog 245 #[.agg (gsC b adT cT).toArray,.slice ad past.length c] w λe w'=>e=.returned (.int .u8 ((firstB b past).toNat:Nat))∧St W w' L:=by
 have hb':=hb
 simp only[mayGs]at hb'
 refine EN Tryz.func245 Tryz.ntmps245 rfl rfl λa ha=>?_
 refine BX 1 ha hs λb2 a w ha hs=>?_
 change St W w (blk b2 150 (gsC b adT cT)::_) at hs
 refine IF 6 ha hs (λhc0 a ha=>?_) λhc0 a ha=>?_
 ·
  refine DWO 1 [5,6,7] [0,2,3,4,3001,1005,1006,1007,8,1009,10] ha hs λa w ha hs hH hC=>?_
  obtain⟨bt,ot,rfl,hrt⟩:=(ht _ hs.tail).get (by omega)
  have hmod:past.length%b.table.length<b.table.length:=Nat.mod_lt _ (by omega)
  refine RH 8 ha hs hH hC λa ha=>?_
  rw[remN]at ha
  refine RH 1 ha hs hH hC λa ha=>?_
  refine SS ha (ld1 ha (hrt (past.length%b.table.length) _ (bc_atD hmod))) λa ha=>?_
  refine RH 1 ha hs hH hC λa ha=>?_
  refine RT 0 ha hs ?_
  exact⟨by rw[firstB,if_pos (by omega)],hs.sub⟩
 refine CL 3 ha hs (pred_weights hs hb hpl hpc (λw' hw=>hp w' hw.tail)) λa w ha hs=>?_
 refine AL 0 ha hs λb5 a w ha hs=>?_
 rw[rep_ints]at hs
 refine SA 0 ha hs λa w ha hs=>?_
 refine CL 2 ha hs (pred_last hs hpl (λw' hw=>hp w' hw.tail.tail)) λa w ha hs=>?_
 refine RN 5 ha hs λa ha=>?_
 have hlb:=u8_lt (lastB past)
 refine wp_loop_ghost (λμ a w=>∃ (i:Nat),(μ=256-i∧i≤256)∧Fr a 41 [(2,pt b2),(5,pt b5),(6,.int .u8 (bestN (wtL b past) (lastB past).toNat i:Nat)),(27,.agg (ints .i64 256 (wtL b past)).toArray),(28,.int .i64 i)]∧St W w (blk b5 245 (ints .i64 256 (wtL b past))::blk b2 150 (gsC b adT cT)::L)) (256) (⟨0,⟨rfl,by omega⟩,ha.keep [2,5,6,27,28],hs.sub⟩) ?_
 clear ha hs
 rintro μ a w ⟨i,⟨rfl,hi⟩,ha,hs⟩
 refine IF 3 ha hs (λhc1 a ha=>?_) λhc1 a ha=>?_
 ·
  have hbl:=bestN_lt (w:=wtL b past) hlb (i:=i) hi
  have hi6:i<256:=by omega
  refine RN 3 ha hs λa ha=>?_
  refine SS ha (ex_index1 ha Tryz.underlying245 Tryz.underlying3 rfl Ty.t3 (by omega) (ints_get _ hi6)) λa ha=>?_
  refine RN 6 ha hs λa ha=>?_
  refine SS ha (ld1 ha (hs.rd1 (ints_get _ hbl))) λa ha=>?_
  refine IF 1 ha hs (λhc2 a ha=>?_) λhc2 a ha=>?_
  ·
   refine SX 1 ha hs (by rw[wrap_u8];omega) λa ha=>?_
   refine RN 3 ha hs λa ha=>?_
   exact⟨256-(i+1),by omega,i+1,⟨rfl,by omega⟩,by rw[show bestN (wtL b past) (lastB past).toNat (i+1)=i from by rw[bestN,if_pos (by omega)]];exact ha.keep [2,5,6,27,28],hs.sub⟩
  refine RN 2 ha hs λa ha=>?_
  exact⟨256-(i+1),by omega,i+1,⟨rfl,by omega⟩,by rw[show bestN (wtL b past) (lastB past).toNat (i+1)=bestN (wtL b past) (lastB past).toNat i from by rw[bestN,if_neg (by omega)]];exact ha.keep [2,5,6,27,28],hs.sub⟩
 obtain rfl:i=256:=by omega
 have hbl:=bestN_lt (w:=wtL b past) hlb (i:=256) (by omega)
 refine RT 3 ha hs ?_
 exact⟨by rw[firstB,if_neg (by omega),UInt8.toNat_ofNat',Nat.mod_eq_of_lt (by omega)],hs.sub⟩
theorem slices_clone (hs:St W w L)(hpl:past.length≤4000)(hp:∀ w',St W w' L→RdB w' ad past.length past) :
   Calls Tryz.prog 249 #[.slice ad past.length c] w λe w'=>∃ ad' c',e=.returned (.slice ad' past.length c')∧St W w' (Sl 5 1 ad' past.length c' (bc past)::L):=by
 obtain⟨h1,h2,h3⟩:=hp _ hs
 cases had:ad with
 | none =>
   have h0:=h2 had
   rw[List.eq_nil_of_length_eq_zero (l:=past) h0]
   refine EN Tryz.func249 Tryz.ntmps249 rfl rfl λa ha=>?_
   refine RN 6 ha hs λa ha=>?_
   replace ha:=ha.isT 4
   refine RT 3 ha hs ?_
   exact⟨_,_,rfl,hs.sl0 _ _ _⟩
 | some a =>
   rw[← had]
   refine EN Tryz.func249 Tryz.ntmps249 rfl rfl λa ha=>?_
   refine RN 6 ha hs λa ha=>?_
   rw[show ad.isNone=false from by rw[had];rfl]at ha
   replace ha:=ha.isF 4
   refine RN 2 ha hs λa ha=>?_
   refine st_buildSlice0 ha rfl hs Tryz.underlying22 Ty.t5 rfl λb5 a w ha hs ho=>?_
   clear ho
   replace hs:St W w (Sl 5 1 (some ⟨b5,0,none⟩) 0 0 []::L):=hs.tail.sl0 _ _ _
   refine RN 1 ha hs λa ha=>?_
   refine st_appendT ha rfl hs Tryz.underlying22 Ty.t5 rfl rfl (by decide) (λh0=>(hp _ hs.tail).get h0) (by rw[bc_len];omega) (bc_one _) (by omega) λad7 c7 a w ha hs=>?_
   rw[List.nil_append,Nat.zero_add]at hs;rw[Nat.zero_add]at ha
   refine RT 1 ha hs ?_
   exact⟨_,_,rfl,hs⟩
theorem pred_chain {to:Int}(hs:St W w L)(hb:mayGs b)(hpl:past.length≤1001)(hpc:past.length≤c)(hn:m≤1000)(hp:∀ w',St W w' L→RdB w' ad past.length past)(ht:∀ w',St W w' L→RdB w' adT b.table.length b.table) :
   Calls Tryz.prog 209 #[.agg (gsC b adT cT).toArray,.slice ad past.length c,.int .i64 m] w λe w'=>∃ ad' c',e=.returned (.slice ad' m c')∧St W w' (Sl 5 1 ad' m c' (bc (chainB b past m))::L):=by
 refine EN Tryz.func209 Tryz.ntmps209 rfl rfl λa ha=>?_
 refine BX 1 ha hs λb3 a w ha hs=>?_
 change St W w (blk b3 150 (gsC b adT cT)::_) at hs
 refine CL1 4 ha hs (pred_may hs) λr a w ha ⟨hr,hs⟩=>?_
 rw[hr.2 hb]at ha
 refine RN 1 ha hs λa ha=>?_
 replace ha:=ha.isF 10
 refine CL2 3 ha hs (slices_clone hs (by omega) (λw' hw=>hp w' hw.tail)) λad1 c1 a w ha hs=>?_
 refine RN 6 ha hs λa ha=>?_
 rw[show min (max (m:Int) 0) 1000=(m:Int) from by omega]at ha
 refine RN 1 ha hs λa ha=>?_
 refine wp_loop_ghost (λμ a w=>∃ (i:Nat) (ad2:Option Addr) (c2:Nat),(μ=m-i∧i≤m)∧Fr a 29 [(1,.slice ad past.length c),(3,pt b3),(7,.slice ad2 (chainN b past i).length c2),(15,.int .i64 m),(16,.int .i64 i)]∧St W w (Sl 5 1 ad2 (chainN b past i).length c2 (bc (chainN b past i))::blk b3 150 (gsC b adT cT)::L)) (m) (⟨0,ad1,c1,⟨rfl,by omega⟩,ha.keep [1,3,7,15,16],hs⟩) ?_
 clear ha hs
 rintro μ a w ⟨i,ad2,c2,⟨rfl,hi⟩,ha,hs⟩
 refine IF 3 ha hs (λhc1 a ha=>?_) λhc1 a ha=>?_
 ·
  have hcl:=chainN_len b past i
  have hc2l:=(hs.sl ad2).2
  refine CL 4 ha hs (pred_first hs hb (by omega) hc2l (λw' hw=>hw.rdB ad2 (chainN b past i) rfl rfl) (λw' hw=>ht w' hw.tail.tail)) λa w ha hs=>?_
  refine RN 0 ha hs λa ha=>?_
  refine st_buildSlice ha rfl hs Tryz.underlying22 Ty.t5 rfl rfl rfl rfl (by decide) (by decide) λb22 a w ha hs ho=>?_
  clear ho
  refine RN 0 ha hs λa ha=>?_
  refine st_append ha rfl hs Tryz.underlying22 Ty.t5 rfl rfl hs.rdAll rfl (bc_one [firstB b (chainN b past i)]) (by decide) (by decide) (by omega) λad23 c23 a w ha hs=>?_
  rw[show bc (chainN b past i)++_=bc (chainN b past (i+1)) from (bc_app _ [_]).symm,show (chainN b past i).length+1=(chainN b past (i+1)).length from by rw[chainN_len,chainN_len];omega]at hs
  rw[show (chainN b past i).length+1=(chainN b past (i+1)).length from by rw[chainN_len,chainN_len];omega]at ha
  refine RN 3 ha hs λa ha=>?_
  exact⟨m-(i+1),by omega,i+1,ad23,c23,⟨rfl,by omega⟩,ha.keep [1,3,7,15,16],hs.sub⟩
 obtain rfl:i=m:=by omega
 have hcl:=chainN_len b past i
 refine RT 6 ha hs ?_
 have h1:=hs.cutSl ad2 past.length (chainN b past i).length (by omega) (Nat.le_refl _)
 rw[show (chainN b past i).length-past.length=i from by omega,Nat.mul_one,Nat.mul_one,← bc_drop,List.take_of_length_le (by rw[bc_len,List.length_drop];omega),show List.drop past.length (chainN b past i)=chainB b past i from rfl]at h1
 refine⟨_,_,by rw[show (chainN b past i).length-past.length=i from by omega],h1.sub⟩
end
end
end Go.Proofs.YtdilfdkendjjhaaGreat
