/- The references' frames: the walks. -/
import Derived.Test.YtdilfdkendjjhaaGreatA15Ref
import Derived.Test.YtdilfdkendjjhaaGreatA02More2
import Derived.Laws.StructEq
import Derived.ChangeKeysEq
import Derived.Test.YtdilfdkendjjhaaGreatA04Ty
import Derived.ProofKit
import Derived.Deep.Slices
import Derived.Deep.Strs
import Derived.ChangeSlices
import Derived.ChangeShapes
import Derived.DataShut
import Derived.Test.YtdilfdkendjjhaaGreatA12Num
import Derived.Test.YtdilfdkendjjhaaGreatA10Branch2
import Derived.Test.YtdilfdkendjjhaaGreatA13Vm
namespace Go.Proofs.YtdilfdkendjjhaaGreat
open Go.RowKit
set_option linter.unusedVariables false
set_option linter.unusedSimpArgs false
set_option maxRecDepth 10000
set_option synthInstance.maxSize 4000
set_option synthInstance.maxHeartbeats 400000
section
theorem w32_eq {x y:Int}(h1:-2147483648≤y)(h2:y≤2147483647)(h3:x%4294967296=y%4294967296):w32 x=y:=by
 simp only[w32,IntKind.wrap,IntKind.signed,IntKind.bits]
 simp
 split <;> omega
section
variable {W w:World}{L:List SP}{p:Pr}{adO adP:Option Addr}{cO cP:Nat}{b:List UInt8}{g:Nat→Int}{fr:Int}
theorem refRound_spec {x:Int}(hs:St W w L)(h1:-9223372036854775808≤x)(h2:x≤9223372036854775807):Calls Tryz.prog 197 #[.int .i64 x] w λe w'=>e=.returned (.int .i32 (w32 x))∧St W w' L:=by
 have hq1:=Int.tmod_lt_of_pos x (b:=4294967296) (by decide)
 have hq2:=Int.lt_tmod_of_pos x (b:=4294967296) (by decide)
 have hq3:(x.tmod 4294967296)%4294967296=x%4294967296:=by
   rw[Int.tmod_eq_emod]
   split <;> omega
 refine EN Tryz.func197 Tryz.ntmps197 rfl rfl λa ha=>?_
 refine IF 10 ha hs (λhc0 a ha=>?_) λhc0 a ha=>?_
 ·
  refine IF 7 ha hs (λhc1 a ha=>?_) λhc1 a ha=>?_
  ·
   refine SX 5 ha hs (wrap32' (by omega) (by omega)) λa ha=>?_
   refine RT 1 ha hs ?_
   exact⟨by rw[w32_eq (y:=x.tmod 4294967296+4294967296-4294967296) (by omega) (by omega) (by omega)],hs⟩
  refine SX 2 ha hs (wrap32' (by omega) (by omega)) λa ha=>?_
  refine RT 1 ha hs ?_
  exact⟨by rw[w32_eq (y:=x.tmod 4294967296+4294967296) (by omega) (by omega) (by omega)],hs⟩
 refine IF 4 ha hs (λhc1 a ha=>?_) λhc1 a ha=>?_
 ·
  refine SX 5 ha hs (wrap32' (by omega) (by omega)) λa ha=>?_
  refine RT 1 ha hs ?_
  exact⟨by rw[w32_eq (y:=x.tmod 4294967296-4294967296) (by omega) (by omega) (by omega)],hs⟩
 refine SX 2 ha hs (wrap32' (by omega) (by omega)) λa ha=>?_
 refine RT 1 ha hs ?_
 exact⟨by rw[w32_eq (y:=x.tmod 4294967296) (by omega) (by omega) (by omega)],hs⟩
theorem refMod_spec {x:Int}(hs:St W w L)(hx:i32P x):Calls Tryz.prog 196 #[.int .i32 x,.int .i64 32] w λe w'=>e=.returned (.int .i64 (mod32 x))∧St W w' L:=by
 have h1:=Int.tmod_lt_of_pos x (b:=32) (by decide)
 have h2:=Int.lt_tmod_of_pos x (b:=32) (by decide)
 have hm:(mod32 x:Int)=x%32:=by
   have h1:=Int.emod_nonneg x (show (32:Int)≠0 by decide)
   show (((x%32).toNat:Nat):Int)=_
   omega
 have ht:x.tmod 32=if 0≤x then x%32 else -((-x)%32):=by
   split
   · exact Int.tmod_eq_emod_of_nonneg (by omega)
   · rw[← Int.neg_neg (x.tmod 32),← Int.neg_tmod,Int.tmod_eq_emod_of_nonneg (by omega)]
 simp only[i32P]at hx
 refine EN Tryz.func196 Tryz.ntmps196 rfl rfl λa ha=>?_
 refine RN 6 ha hs λa ha=>?_
 replace ha:=ha.isF 7
 refine SX 3 ha hs (wrap_in (by omega) (by omega)) λa ha=>?_
 refine IF 7 ha hs (λhc1 a ha=>?_) λhc1 a ha=>?_
 ·
  refine RN 4 ha hs λa ha=>?_
  rw[show x.tmod 32+32=(mod32 x:Int) from by rw[hm,ht];split <;> omega]at ha
  refine RT 3 ha hs ?_
  exact⟨rfl,hs⟩
 refine RT 3 ha hs ?_
 exact⟨by rw[hm,show x.tmod 32=x%32 from by rw[ht] at *;split at*<;> omega],hs⟩
theorem pressed_spec {x:Int}(hs:St W w L)(hx:i32P x)(hb:b.length≤1099511627776)(hp:∀ w',St W w' L→RdB w' adP b.length b) :
   Calls Tryz.prog 195 #[.slice adP b.length cP,.int .i32 x] w λe w'=>e=.returned (.int .i32 (pressI b x))∧St W w' L:=by
 simp only[i32P]at hx
 refine EN Tryz.func195 Tryz.ntmps195 rfl rfl λa ha=>?_
 refine BY 7 ha hs (λhg2 a ha=>?_) λhg2 a ha=>?_
 ·
  refine RT 9 ha hs ?_
  exact⟨by rw[pressI,if_neg (by omega)],hs⟩
 refine SX 1 ha hs (by rw[wrap_in (by omega) (by omega)]) λa ha=>?_
 refine IF 4 ha hs (λhc0 a ha=>?_) λhc0 a ha=>?_
 ·
  refine RT 2 ha hs ?_
  exact⟨by rw[pressI,if_neg (by omega)],hs⟩
 refine RN 1 ha hs λa ha=>?_
 obtain⟨k,hk⟩:∃ k:Nat,x=(k:Int):=⟨x.toNat,by omega⟩
 obtain⟨_,_,hpr⟩:=hp _ hs
 have hkb:k<b.length:=by omega
 obtain⟨bp,op,hade,hrd⟩:∃ bp op,adP=some ⟨bp,op,none⟩∧Rd w bp op (bc b):=by
   cases hh:adP with
   | none =>
     have:=(hp _ hs).2.1 hh
     omega
   | some a =>
     obtain⟨b1,o1,rfl,h1⟩:=hpr a hh (by omega)
     exact⟨b1,o1,rfl,h1⟩
 rw[hk]at ha
 refine RN 1 ha hs λa ha=>?_
 rw[hade]at ha
 refine RN 2 ha hs λa ha=>?_
 refine SS ha (ld1 ha (hrd k (.int .u8 b[k].toNat) (by simp[bc,hkb]))) λa ha=>?_
 refine SX 0 ha hs (by have:=b[k].toNat_lt;exact wrap32' (by omega) (by omega)) λa ha=>?_
 refine RT 1 ha hs ?_
 refine⟨?_,hs⟩
 rw[pressI,if_pos (by omega),hk,Int.toNat_natCast,List.getD_eq_getElem?_getD,List.getElem?_eq_getElem hkb];rfl
theorem refDiv_spec {x y:Int}(hs:St W w L)(hx:i32P x)(hy:i32P y):Calls Tryz.prog 238 #[.int .i32 x,.int .i32 y] w λe w'=>e=.returned (.int .i32 (if y=0 then 0 else w32 (x.tdiv y)))∧St W w' L:=by
 simp only[i32P]at hx hy
 have hq:y≠0 → -9223372036854775808≤x.tdiv y∧x.tdiv y≤9223372036854775807:=λh=>by
   have h1:(x.tdiv y).natAbs≤x.natAbs:=by rw[Int.natAbs_tdiv];exact Nat.div_le_self _ _
   omega
 refine EN Tryz.func238 Tryz.ntmps238 rfl rfl λa ha=>?_
 refine IF 6 ha hs (λhc0 a ha=>?_) λhc0 a ha=>?_
 ·
  refine RT 2 ha hs ?_
  exact⟨by rw[if_pos hc0],hs⟩
 refine SX 2 ha hs (wrap_in (by omega) (by omega)) λa ha=>?_
 refine SX 1 ha hs (wrap_in (by omega) (by omega)) λa ha=>?_
 refine RN 0 ha hs λa ha=>?_
 refine SS ha (ex_quoW ha (by omega)) λa ha=>?_
 rw[wrap_in (hq hc0).1 (hq hc0).2]at ha
 refine CL 0 ha hs (refRound_spec hs (hq hc0).1 (hq hc0).2) λa w ha hs=>?_
 refine RT 1 ha hs ?_
 exact⟨by rw[if_neg hc0],hs⟩
theorem reckon_spec {k x y:Int}(hs:St W w L)(hx:i32P x)(hy:i32P y):Calls Tryz.prog 198 #[.int .i64 k,.int .i32 x,.int .i32 y] w λe w'=>e=.returned (.int .i32 (sumI k x y))∧St W w' L:=by
 have hx2:=hx
 have hy2:=hy
 simp only[i32P]at hx2 hy2
 have hmul:-9223372036854775808≤x*y∧x*y≤9223372036854775807:=by
   have h1:(x*y).natAbs≤2147483648*2147483648:=by rw[Int.natAbs_mul];exact Nat.mul_le_mul (by omega) (by omega)
   omega
 refine EN Tryz.func198 Tryz.ntmps198 rfl rfl λa ha=>?_
 refine IF 10 ha hs (λhc0 a ha=>?_) λhc0 a ha=>?_
 ·
  refine SX 2 ha hs (wrap_in (by omega) (by omega)) λa ha=>?_
  refine SX 1 ha hs (wrap_in (by omega) (by omega)) λa ha=>?_
  refine CL 1 ha hs (refRound_spec hs (by omega) (by omega)) λa w ha hs=>?_
  refine RT 1 ha hs ?_
  exact⟨by simp[sumI,hc0],hs⟩
 refine IF 3 ha hs (λhc1 a ha=>?_) λhc1 a ha=>?_
 ·
  refine SX 2 ha hs (wrap_in (by omega) (by omega)) λa ha=>?_
  refine SX 1 ha hs (wrap_in (by omega) (by omega)) λa ha=>?_
  refine CL 1 ha hs (refRound_spec hs (by omega) (by omega)) λa w ha hs=>?_
  refine RT 1 ha hs ?_
  exact⟨by simp[sumI,hc1],hs⟩
 refine IF 3 ha hs (λhc2 a ha=>?_) λhc2 a ha=>?_
 ·
  refine SX 2 ha hs (wrap_in (by omega) (by omega)) λa ha=>?_
  refine SX 1 ha hs (wrap_in (by omega) (by omega)) λa ha=>?_
  refine SX 0 ha hs ⟨(by first | exact hmul.1 | exact hmul.2),(by first | exact hmul.1 | exact hmul.2)⟩ λa ha=>?_
  refine CL 0 ha hs (refRound_spec hs hmul.1 hmul.2) λa w ha hs=>?_
  refine RT 1 ha hs ?_
  exact⟨by simp[sumI,hc2],hs⟩
 refine IF 3 ha hs (λhc3 a ha=>?_) λhc3 a ha=>?_
 ·
  refine CL 3 ha hs (refDiv_spec hs hx hy) λa w ha hs=>?_
  refine RT 1 ha hs ?_
  exact⟨by simp[sumI,hc3],hs⟩
 refine IF 3 ha hs (λhc4 a ha=>?_) λhc4 a ha=>?_
 ·
  refine IF 7 ha hs (λhc5 a ha=>?_) λhc5 a ha=>?_
  ·
   refine RT 2 ha hs ?_
   exact⟨by simp[sumI,hc4,hc5],hs⟩
  refine RT 2 ha hs ?_
  exact⟨by simp[sumI,hc4];omega,hs⟩
 refine IF 7 ha hs (λhc5 a ha=>?_) λhc5 a ha=>?_
 ·
  refine RT 2 ha hs ?_
  exact⟨by simp[sumI,hc0,hc1,hc2,hc3,hc4,hc5],hs⟩
 refine RT 2 ha hs ?_
 exact⟨by simp[sumI,hc0,hc1,hc2,hc3,hc4];omega,hs⟩
theorem ints_at {w:World}{bx j:Nat}{g:Nat→Int}(h:Rd w bx 0 (ints .i32 32 g))(hj:j<32):w.cell? ⟨bx,j,none⟩=some (.int .i32 (g j)):=by
 have:=h j _ (ints_get g hj)
 rwa [Nat.zero_add]at this
theorem refStep_spec (hs:St W w (RoP W p adO cO::L))(hpr:prOk p)(hsz:p.title.size≤1000000000)(hg:gOk g)(hb:b.length≤1099511627776)(hf:-4611686018427387904≤fr∧fr≤4611686018427387904)(hp:∀ w',St W w' L→RdB w' adP b.length b) :
   Calls Tryz.prog 132 #[.agg (prV p adO cO).toArray,.agg (ints .i32 32 g).toArray,.int .i64 fr,.slice adP b.length cP] w λe w'=>∃ n:Int,e=.returned (.tuple #[.agg (ints .i32 32 (frameI p fr b g)).toArray,.int .i64 n])∧gOk (frameI p fr b g)∧St W w' (RoP W p adO cO::L):=by
 have hol:p.ops.length≤64:=hpr.1.2.2.1
 refine EN Tryz.func132 Tryz.ntmps132 rfl rfl λa ha=>?_
 refine BX 1 ha hs λb4 a w ha hs=>?_
 change St W w (blk b4 34 (prV p adO cO)::_) at hs
 refine BX 0 ha hs λb5 a w ha hs=>?_
 change St W w (blk b5 63 (ints .i32 32 g)::_) at hs
 refine AL 0 ha hs λb8 a w ha hs=>?_
 change St W w (blk b8 63 (ints .i32 32 (λ_=>0))::_) at hs
 refine CL1 4 ha hs (refFault_spec (hs.pick (RoP W p adO cO)) hsz (by omega)) λr a w ha ⟨hr,hs⟩=>?_
 obtain rfl:r = -1:=hr.2 hpr
 refine RN 1 ha hs λa ha=>?_
 rw[show decide ((-1:Int) ≠ -1)=false from rfl]at ha
 replace ha:=ha.isF 18
 refine CL2 7 ha hs (refRunes_spec hs hsz) λadT cT a w ha hs=>?_
 refine RN 6 ha hs λa ha=>?_
 refine wp_loop_ghost (λμ a w=>∃ (n at':Nat) (g':Nat→Int),(μ=200-n∧n≤200∧at'≤p.ops.length∧gOk g'∧runI p fr b (200-n) g' at'=frameI p fr b g)∧Fr a 166 [(2,.int .i64 fr),(3,.slice adP b.length cP),(4,pt b4),(5,pt b5),(8,pt b8),(10,.int .i64 at'),(11,.int .i64 n),(12,.slice adT (runesAt p.title 0).length cT)]∧St W w (blk b5 63 (ints .i32 32 g')::blk b4 34 (prV p adO cO)::blk b8 63 (ints .i32 32 (λ_=>0))::Sl 21 1 adT (runesAt p.title 0).length cT (RI (runesAt p.title 0))::RoP W p adO cO::L)) (200) (⟨0,0,g,⟨by simp,by simp,by simp,hg,rfl⟩,ha.keep [2,3,4,5,8,10,11,12],hs.sub⟩) ?_
 clear ha hs
 rintro μ a w ⟨n,at',g',⟨rfl,hn,hat,hgo,hru⟩,ha,hs⟩
 refine BY 5 ha hs (λhg2 a ha=>?_) λhg2 a ha=>?_
 ·
  refine IF 6 ha hs (λhc1 a ha=>?_) λhc1 a ha=>?_
  ·
   obtain⟨o,ho⟩:∃ o,p.ops[at']?=some o:=⟨_,List.getElem?_eq_getElem (by omega)⟩
   obtain⟨bo,oo,rfl,hro⟩:=hs.roRd adO (by omega)
   have hst:=runI_step (p:=p) (fr:=fr) (b:=b) (g:=g') (n:=200-(n+1)) ho
   rw[show 200-(n+1)+1=200-n from by omega,hru]at hst
   have hok:=hpr.2 o (List.mem_of_getElem? ho)
   have hop:=hok
   simp only[okOp,cellP]at hop
   have ha9:o.code=9→LeN o.a p.ops.length:=λh=>LeN.of (by omega)
   have hac:o.code≠9→o.code≠0→LtN o.a 32:=λh h2=>LtN.of (by omega)
   have hb10:o.code=10→LeN o.b p.ops.length:=λh=>LeN.of (by omega)
   have hbc:o.code≠1→o.code≠15→o.code≠9→o.code≠10→o.code≠0→LtN o.b 32:=λ_ _ _ _ _=>LtN.of (by omega)
   have hcr:o.code≠0→o.code≠1→o.code≠2→o.code≠9→o.code≠10→o.code≠11→o.code≠12→o.code≠13→o.code≠14→o.code≠15→LtN o.c 32:=λ_ _ _ _ _ _ _ _ _ _=>LtN.of (by omega)
   clear hop
   refine RN 5 ha hs λa ha=>?_
   refine SS ha (ex_loadN ha Tryz.underlying119 rfl Ty.t119 (op_rd hro ho)) λa ha=>?_
   refine AL 0 ha hs λb14 a w ha hs=>?_
   refine SA 0 ha hs λa w ha hs=>?_
   refine IF 14 ha hs (λhc2 a ha=>?_) λhc2 a ha=>?_
   ·
    refine SA 3 ha hs λa w ha hs=>?_
    refine RT 1 ha hs ?_
    rw[show oneI p fr b g' at' o=(g',at'+1,false) from by rw[oneI,if_pos hc2]]at hst
    refine⟨_,by rw[hst];rfl,?_,hs.sub⟩
    rw[hst];exact hgo
   refine IF 3 ha hs (λhc3 a ha=>?_) λhc3 a ha=>?_
   ·
    obtain⟨an,han,hanl⟩:=hac (by omega) (by omega)
    refine RN 2 ha hs λa ha=>?_
    rw[han]at ha
    refine RN 2 ha hs λa ha=>?_
    refine SS ha (ex_convII ha Tryz.underlying3 Tryz.underlying21) λa ha=>?_
    refine ST 1 ha hs (λa w ha hs=>?_) (hlt:=(by rw[ints_len];omega))
    rw[ints_set,show (λi=>if i=an then IntKind.i32.wrap o.b else g' i)=upd g' (an) (w32 o.b) from rfl]at hs
    refine RN 0 ha hs λa ha=>?_
    have hone:oneI p fr b g' at' o=(upd g' (an) (w32 o.b),at'+1,true):=by
      rw[oneI,if_neg (by omega),if_neg (by omega),if_neg (by omega),if_neg (by omega),han,Int.toNat_natCast,valI,if_pos hc3]
    rw[hone]at hst
    exact⟨200-(n+1),by omega,n+1,at'+1,upd g' (an) (w32 o.b),⟨rfl,by omega,by omega,upd_ok hgo (w32_in _),hst.symm⟩,ha.keep [2,3,4,5,8,10,11,12],hs.sub⟩
   refine IF 3 ha hs (λhc4 a ha=>?_) λhc4 a ha=>?_
   ·
    refine RN 0 ha hs λa ha=>?_
    obtain⟨an,han,hanl⟩:=hac (by omega) (by omega)
    obtain⟨bn,hbn,hbnl⟩:=hbc (by omega) (by omega) (by omega) (by omega) (by omega)
    refine DWC 0 (λw0 w'=>Rd w' b14 0 (opR o)∧Rd w' b5 0 (ints .i32 32 g')) [3,4,5] [0,2,3001,1003,1004,1005,6,1007] ha hs λa w ha hs hH=>?_
    have hC:=hH.at w ⟨hs.rdAll,hs.rdAll⟩
    refine RH 2 ha hs hH hC λa ha=>?_
    refine QH ha (λw hc=>ld1 ha (hc.1 1 _ rfl)) hC λa ha=>?_
    rw[han]at ha
    refine RH 0 ha hs hH hC λa ha=>?_
    refine SS ha (ld1 ha (hC.1 2 _ rfl)) λa ha=>?_
    rw[hbn]at ha
    refine RH 1 ha hs hH hC λa ha=>?_
    refine SS ha (ld1 ha (ints_at hC.2 hbnl)) λa ha=>?_
    refine RH 1 ha hs hH hC λa ha=>?_
    refine ST 0 ha hs (λa w ha hs=>?_) (hlt:=(by rw[ints_len];omega))
    rw[ints_set,show (λi=>if i=an then g' bn else g' i)=upd g' (an) (g' bn) from rfl]at hs
    refine RN 0 ha hs λa ha=>?_
    have hone:oneI p fr b g' at' o=(upd g' (an) (g' bn),at'+1,true):=by
      rw[oneI,if_neg (by omega),if_neg (by omega),if_neg (by omega),if_neg (by omega),han,Int.toNat_natCast,valI,if_neg (by omega),if_pos hc4,hbn,Int.toNat_natCast]
    rw[hone]at hst
    exact⟨200-(n+1),by omega,n+1,at'+1,upd g' (an) (g' bn),⟨rfl,by omega,by omega,upd_ok hgo (hgo _ hbnl),hst.symm⟩,ha.keep [2,3,4,5,8,10,11,12],hs.sub⟩
   refine IF 3 ha hs (λhc5 a ha=>?_) λhc5 a ha=>?_
   ·
    obtain⟨an,han,hanl⟩:=ha9 hc5
    refine RN 2 ha hs λa ha=>?_
    rw[han]at ha
    refine RN 1 ha hs λa ha=>?_
    have hone:oneI p fr b g' at' o=(g',an,true):=by
      rw[oneI,if_neg (by omega),if_pos hc5,han,Int.toNat_natCast]
    rw[hone]at hst
    exact⟨200-(n+1),by omega,n+1,an,g',⟨rfl,by omega,by omega,hgo,hst.symm⟩,ha.keep [2,3,4,5,8,10,11,12],hs.sub⟩
   refine IF 3 ha hs (λhc6 a ha=>?_) λhc6 a ha=>?_
   ·
    refine RN 1 ha hs λa ha=>?_
    obtain⟨an,han,hanl⟩:=hac (by omega) (by omega)
    refine RN 2 ha hs λa ha=>?_
    rw[han]at ha
    refine RN 1 ha hs λa ha=>?_
    refine SS ha (ld1 ha ((ints_at hs.rdAll hanl))) λa ha=>?_
    refine IF 1 ha hs (λhc7 a ha=>?_) λhc7 a ha=>?_
    ·
     obtain⟨bn,hbn,hbnl⟩:=hb10 hc6
     refine RN 2 ha hs λa ha=>?_
     rw[hbn]at ha
     refine RN 1 ha hs λa ha=>?_
     have hone:oneI p fr b g' at' o=(g',bn,true):=by
       rw[oneI,if_neg (by omega),if_neg (by omega),if_pos hc6,han,Int.toNat_natCast,if_pos hc7,hbn,Int.toNat_natCast]
     rw[hone]at hst
     exact⟨200-(n+1),by omega,n+1,bn,g',⟨rfl,by omega,by omega,hgo,hst.symm⟩,ha.keep [2,3,4,5,8,10,11,12],hs.sub⟩
    refine RN 0 ha hs λa ha=>?_
    have hone:oneI p fr b g' at' o=(g',at'+1,true):=by
      rw[oneI,if_neg (by omega),if_neg (by omega),if_pos hc6,han,Int.toNat_natCast,if_neg hc7]
    rw[hone]at hst
    exact⟨200-(n+1),by omega,n+1,at'+1,g',⟨rfl,by omega,by omega,hgo,hst.symm⟩,ha.keep [2,3,4,5,8,10,11,12],hs.sub⟩
   refine IF 3 ha hs (λhc8 a ha=>?_) λhc8 a ha=>?_
   ·
    refine RN 0 ha hs λa ha=>?_
    obtain⟨an,han,hanl⟩:=hac (by omega) (by omega)
    obtain⟨bn,hbn,hbnl⟩:=hbc (by omega) (by omega) (by omega) (by omega) (by omega)
    refine DWC 0 (λw0 w'=>Rd w' b14 0 (opR o)∧Rd w' b5 0 (ints .i32 32 g')) [4,5,6,7] [0,2,3,3001,1004,1005,1006,1007,8,1009] ha hs λa w ha hs hH=>?_
    have hC:=hH.at w ⟨hs.rdAll,hs.rdAll⟩
    refine RH 3 ha hs hH hC λa ha=>?_
    refine QH ha (λw hc=>ld1 ha (hc.1 1 _ rfl)) hC λa ha=>?_
    rw[han]at ha
    refine RH 0 ha hs hH hC λa ha=>?_
    refine SS ha (ld1 ha (hC.1 2 _ rfl)) λa ha=>?_
    rw[hbn]at ha
    refine RH 1 ha hs hH hC λa ha=>?_
    refine SS ha (ld1 ha (ints_at hC.2 hbnl)) λa ha=>?_
    refine RH 0 ha hs hH hC λa ha=>?_
    refine CL 0 ha hs (pressed_spec hs (hgo _ hbnl) hb (λw' h=>hp w' h.sub)) λa w ha hs=>?_
    replace hC:=hH.at w ⟨hs.rdAll,hs.rdAll⟩
    refine RH 1 ha hs hH hC λa ha=>?_
    refine ST 0 ha hs (λa w ha hs=>?_) (hlt:=(by rw[ints_len];omega))
    rw[ints_set,show (λi=>if i=an then pressI b (g' bn) else g' i)=upd g' (an) (pressI b (g' bn)) from rfl]at hs
    refine RN 0 ha hs λa ha=>?_
    have hone:oneI p fr b g' at' o=(upd g' (an) (pressI b (g' bn)),at'+1,true):=by
      rw[oneI,if_neg (by omega),if_neg (by omega),if_neg (by omega),if_neg (by omega),han,Int.toNat_natCast,valI,if_neg (by omega),if_neg (by omega),if_pos hc8,hbn,Int.toNat_natCast]
    rw[hone]at hst
    exact⟨200-(n+1),by omega,n+1,at'+1,upd g' (an) (pressI b (g' bn)),⟨rfl,by omega,by omega,upd_ok hgo (pressI_ok _ _),hst.symm⟩,ha.keep [2,3,4,5,8,10,11,12],hs.sub⟩
   refine IF 3 ha hs (λhc9 a ha=>?_) λhc9 a ha=>?_
   ·
    refine RN 0 ha hs λa ha=>?_
    obtain⟨an,han,hanl⟩:=hac (by omega) (by omega)
    obtain⟨bn,hbn,hbnl⟩:=hbc (by omega) (by omega) (by omega) (by omega) (by omega)
    have hm32:=mod32_lt (g' bn)
    refine DWC 0 (λw0 w'=>Rd w' b14 0 (opR o)∧Rd w' b5 0 (ints .i32 32 g')) [3,4,5,6,7,8] [0,2,3001,1003,1004,1005,1006,1007,1008,9,1010] ha hs λa w ha hs hH=>?_
    have hC:=hH.at w ⟨hs.rdAll,hs.rdAll⟩
    refine RH 2 ha hs hH hC λa ha=>?_
    refine QH ha (λw hc=>ld1 ha (hc.1 1 _ rfl)) hC λa ha=>?_
    rw[han]at ha
    refine RH 0 ha hs hH hC λa ha=>?_
    refine SS ha (ld1 ha (hC.1 2 _ rfl)) λa ha=>?_
    rw[hbn]at ha
    refine RH 1 ha hs hH hC λa ha=>?_
    refine SS ha (ld1 ha (ints_at hC.2 hbnl)) λa ha=>?_
    refine RH 0 ha hs hH hC λa ha=>?_
    refine CL 0 ha hs (refMod_spec hs (hgo _ hbnl)) λa w ha hs=>?_
    replace hC:=hH.at w ⟨hs.rdAll,hs.rdAll⟩
    refine RH 1 ha hs hH hC λa ha=>?_
    refine SS ha (ld1 ha (ints_at hC.2 hm32)) λa ha=>?_
    refine RH 1 ha hs hH hC λa ha=>?_
    refine ST 0 ha hs (λa w ha hs=>?_) (hlt:=(by rw[ints_len];omega))
    rw[ints_set,show (λi=>if i=an then g' (mod32 (g' bn)) else g' i)=upd g' (an) (g' (mod32 (g' bn))) from rfl]at hs
    refine RN 0 ha hs λa ha=>?_
    have hone:oneI p fr b g' at' o=(upd g' (an) (g' (mod32 (g' bn))),at'+1,true):=by
      rw[oneI,if_neg (by omega),if_neg (by omega),if_neg (by omega),if_neg (by omega),han,Int.toNat_natCast,valI,if_neg (by omega),if_neg (by omega),if_neg (by omega),if_pos hc9,hbn,Int.toNat_natCast]
    rw[hone]at hst
    exact⟨200-(n+1),by omega,n+1,at'+1,upd g' (an) (g' (mod32 (g' bn))),⟨rfl,by omega,by omega,upd_ok hgo (hgo _ hm32),hst.symm⟩,ha.keep [2,3,4,5,8,10,11,12],hs.sub⟩
   refine IF 3 ha hs (λhc10 a ha=>?_) λhc10 a ha=>?_
   ·
    refine RN 0 ha hs λa ha=>?_
    obtain⟨an,han,hanl⟩:=hac (by omega) (by omega)
    obtain⟨bn,hbn,hbnl⟩:=hbc (by omega) (by omega) (by omega) (by omega) (by omega)
    have hm32:=mod32_lt (g' an)
    refine DWC 0 (λw0 w'=>Rd w' b14 0 (opR o)∧Rd w' b5 0 (ints .i32 32 g')) [4,6,7,8] [0,5,3001,2,3003,3006,3007,3008,1004,9,1010] ha hs λa w ha hs hH=>?_
    have hC:=hH.at w ⟨hs.rdAll,hs.rdAll⟩
    refine RH 2 ha hs hH hC λa ha=>?_
    refine QH ha (λw hc=>ld1 ha (hc.1 1 _ rfl)) hC λa ha=>?_
    rw[han]at ha
    refine RH 1 ha hs hH hC λa ha=>?_
    refine QH ha (λw hc=>ld1 ha (ints_at hc.2 hanl)) hC λa ha=>?_
    refine QH ha (λw hc=>ld1 ha (hc.1 2 _ rfl)) hC λa ha=>?_
    rw[hbn]at ha
    refine RH 1 ha hs hH hC λa ha=>?_
    refine QH ha (λw hc=>ld1 ha (ints_at hc.2 hbnl)) hC λa ha=>?_
    refine RH 0 ha hs hH hC λa ha=>?_
    refine CL 0 ha hs (refMod_spec hs (hgo _ hanl)) λa w ha hs=>?_
    replace hC:=hH.at w ⟨hs.rdAll,hs.rdAll⟩
    refine RH 1 ha hs hH hC λa ha=>?_
    refine ST 0 ha hs (λa w ha hs=>?_) (hlt:=(by rw[ints_len];omega))
    rw[ints_set,show (λi=>if i=mod32 (g' an) then g' bn else g' i)=upd g' (mod32 (g' an)) (g' bn) from rfl]at hs
    refine RN 0 ha hs λa ha=>?_
    have hone:oneI p fr b g' at' o=(upd g' (mod32 (g' an)) (g' bn),at'+1,true):=by
      rw[oneI,if_neg (by omega),if_neg (by omega),if_neg (by omega),if_pos hc10,han,Int.toNat_natCast,hbn,Int.toNat_natCast]
    rw[hone]at hst
    exact⟨200-(n+1),by omega,n+1,at'+1,upd g' (mod32 (g' an)) (g' bn),⟨rfl,by omega,by omega,upd_ok hgo (hgo _ hbnl),hst.symm⟩,ha.keep [2,3,4,5,8,10,11,12],hs.sub⟩
   refine IF 3 ha hs (λhc11 a ha=>?_) λhc11 a ha=>?_
   ·
    refine RN 1 ha hs λa ha=>?_
    obtain⟨an,han,hanl⟩:=hac (by omega) (by omega)
    obtain⟨bn,hbn,hbnl⟩:=hbc (by omega) (by omega) (by omega) (by omega) (by omega)
    have hgb:=hgo _ hbnl
    have hgb2:=hgb
    simp only[i32P]at hgb2
    refine RN 5 ha hs λa ha=>?_
    rw[hbn]at ha
    refine RN 1 ha hs λa ha=>?_
    refine SS ha (ld1 ha ((ints_at hs.rdAll hbnl))) λa ha=>?_
    refine BY 2 ha hs (λhg5 a ha=>?_) λhg5 a ha=>?_
    ·
     refine RN 2 ha hs λa ha=>?_
     rw[hbn]at ha
     refine RN 1 ha hs λa ha=>?_
     refine st_set ha (wgT ha rfl (s:=136)) (ld1 ha ((ints_at hs.rdAll hbnl))) rfl λa ha=>?_
     refine SX 0 ha hs (wrap_in (by omega) (by omega)) λa ha=>?_
     refine IF 4 ha hs (λhc12 a ha=>?_) λhc12 a ha=>?_
     ·
      obtain⟨rn,hrn⟩:∃ rn:Nat,g' bn=rn:=⟨(g' bn).toNat,by omega⟩
      obtain⟨bT,oT,rfl,hrT⟩:=hs.slRd adT (by omega)
      obtain⟨xr,hxr⟩:∃ xr,(runesAt p.title 0)[rn]?=some xr:=⟨_,List.getElem?_eq_getElem (by omega)⟩
      refine RN 3 ha hs λa ha=>?_
      rw[hbn]at ha
      refine RN 1 ha hs λa ha=>?_
      refine SS ha (ld1 ha ((ints_at hs.rdAll hbnl))) λa ha=>?_
      rw[hrn]at ha
      refine RN 1 ha hs λa ha=>?_
      refine SS ha (ld1 ha ((hrT rn _ (RI_at hxr)))) λa ha=>?_
      refine RN 1 ha hs λa ha=>?_
      have hri:runeI p.title (g' bn)=xr.1:=by rw[runeI,if_pos (by omega),hrn,Int.toNat_natCast,hxr];rfl
      rw[← hri]at ha
      refine RN 2 ha hs λa ha=>?_
      rw[han]at ha
      refine ST 2 ha hs (λa w ha hs=>?_) (hlt:=(by rw[ints_len];omega))
      rw[ints_set,show (λi=>if i=an then runeI p.title (g' bn) else g' i)=upd g' an (runeI p.title (g' bn)) from rfl]at hs
      refine RN 0 ha hs λa ha=>?_
      have hone:oneI p fr b g' at' o=(upd g' an (runeI p.title (g' bn)),at'+1,true):=by
        rw[oneI,if_neg (by omega),if_neg (by omega),if_neg (by omega),if_neg (by omega),han,Int.toNat_natCast,valI,if_neg (by omega),if_neg (by omega),if_neg (by omega),if_neg (by omega),if_pos hc11,hbn,Int.toNat_natCast]
      rw[hone]at hst
      exact⟨200-(n+1),by omega,n+1,at'+1,upd g' an (runeI p.title (g' bn)),⟨rfl,by omega,by omega,upd_ok hgo (runeI_ok _ _),hst.symm⟩,ha.keep [2,3,4,5,8,10,11,12],hs.sub⟩
     refine RN 0 ha hs λa ha=>?_
     have hri0:True:=trivial
     refine RN 2 ha hs λa ha=>?_
     rw[han]at ha
     refine ST 2 ha hs (λa w ha hs=>?_) (hlt:=(by rw[ints_len];omega))
     rw[ints_set,show (λi=>if i=an then 0 else g' i)=upd g' an 0 from rfl]at hs
     refine RN 0 ha hs λa ha=>?_
     have hone:oneI p fr b g' at' o=(upd g' an 0,at'+1,true):=by
       rw[oneI,if_neg (by omega),if_neg (by omega),if_neg (by omega),if_neg (by omega),han,Int.toNat_natCast,valI,if_neg (by omega),if_neg (by omega),if_neg (by omega),if_neg (by omega),if_pos hc11,hbn,Int.toNat_natCast,runeI,if_pos (by omega),List.getElem?_eq_none (by omega)];rfl
     rw[hone]at hst
     exact⟨200-(n+1),by omega,n+1,at'+1,upd g' an 0,⟨rfl,by omega,by omega,upd_ok hgo (by simp[i32P]),hst.symm⟩,ha.keep [2,3,4,5,8,10,11,12],hs.sub⟩
    refine RN 12 ha hs λa ha=>?_
    rw[han]at ha
    refine ST 2 ha hs (λa w ha hs=>?_) (hlt:=(by rw[ints_len];omega))
    rw[ints_set,show (λi=>if i=an then 0 else g' i)=upd g' an 0 from rfl]at hs
    refine RN 0 ha hs λa ha=>?_
    have hone:oneI p fr b g' at' o=(upd g' an 0,at'+1,true):=by
      rw[oneI,if_neg (by omega),if_neg (by omega),if_neg (by omega),if_neg (by omega),han,Int.toNat_natCast,valI,if_neg (by omega),if_neg (by omega),if_neg (by omega),if_neg (by omega),if_pos hc11,hbn,Int.toNat_natCast,runeI,if_neg (by omega)]
    rw[hone]at hst
    exact⟨200-(n+1),by omega,n+1,at'+1,upd g' an 0,⟨rfl,by omega,by omega,upd_ok hgo (by simp[i32P]),hst.symm⟩,ha.keep [2,3,4,5,8,10,11,12],hs.sub⟩
   refine IF 3 ha hs (λhc13 a ha=>?_) λhc13 a ha=>?_
   ·
    refine RN 0 ha hs λa ha=>?_
    obtain⟨an,han,hanl⟩:=hac (by omega) (by omega)
    refine DWC 0 (λw0 w'=>Rd w' b14 0 (opR o)∧Rd w' b5 0 (ints .i32 32 g')) [3] [0,2,3001,1003,4,1005] ha hs λa w ha hs hH=>?_
    have hC:=hH.at w ⟨hs.rdAll,hs.rdAll⟩
    refine RH 2 ha hs hH hC λa ha=>?_
    refine QH ha (λw hc=>ld1 ha (hc.1 1 _ rfl)) hC λa ha=>?_
    rw[han]at ha
    refine RH 0 ha hs hH hC λa ha=>?_
    refine CL 0 ha hs (refRound_spec hs (by omega) (by omega)) λa w ha hs=>?_
    replace hC:=hH.at w ⟨hs.rdAll,hs.rdAll⟩
    refine RH 1 ha hs hH hC λa ha=>?_
    refine ST 0 ha hs (λa w ha hs=>?_) (hlt:=(by rw[ints_len];omega))
    rw[ints_set,show (λi=>if i=an then w32 fr else g' i)=upd g' (an) (w32 fr) from rfl]at hs
    refine RN 0 ha hs λa ha=>?_
    have hone:oneI p fr b g' at' o=(upd g' (an) (w32 fr),at'+1,true):=by
      rw[oneI,if_neg (by omega),if_neg (by omega),if_neg (by omega),if_neg (by omega),han,Int.toNat_natCast,valI,if_neg (by omega),if_neg (by omega),if_neg (by omega),if_neg (by omega),if_neg (by omega),if_pos hc13]
    rw[hone]at hst
    exact⟨200-(n+1),by omega,n+1,at'+1,upd g' (an) (w32 fr),⟨rfl,by omega,by omega,upd_ok hgo (w32_in _),hst.symm⟩,ha.keep [2,3,4,5,8,10,11,12],hs.sub⟩
   refine RN 0 ha hs λa ha=>?_
   obtain⟨an,han,hanl⟩:=hac (by omega) (by omega)
   obtain⟨bn,hbn,hbnl⟩:=hbc (by omega) (by omega) (by omega) (by omega) (by omega)
   obtain⟨cn,hcn,hcnl⟩:=hcr (by omega) (by omega) (by omega) (by omega) (by omega) (by omega) (by omega) (by omega) (by omega) (by omega)
   refine DWC 0 (λw0 w'=>Rd w' b14 0 (opR o)∧Rd w' b5 0 (ints .i32 32 g')) [3,5,6,7,9,10,11,12] [0,2,4,8,3001,3003,3005,3006,3007,1009,1010,1011,1012,13,1014] ha hs λa w ha hs hH=>?_
   have hC:=hH.at w ⟨hs.rdAll,hs.rdAll⟩
   refine RH 4 ha hs hH hC λa ha=>?_
   refine QH ha (λw hc=>ld1 ha (hc.1 1 _ rfl)) hC λa ha=>?_
   rw[han]at ha
   refine RH 0 ha hs hH hC λa ha=>?_
   refine QH ha (λw hc=>ld1 ha (hc.1 0 _ rfl)) hC λa ha=>?_
   refine QH ha (λw hc=>ld1 ha (hc.1 2 _ rfl)) hC λa ha=>?_
   rw[hbn]at ha
   refine RH 1 ha hs hH hC λa ha=>?_
   refine QH ha (λw hc=>ld1 ha (ints_at hc.2 hbnl)) hC λa ha=>?_
   refine RH 0 ha hs hH hC λa ha=>?_
   refine SS ha (ld1 ha (hC.1 3 _ rfl)) λa ha=>?_
   rw[hcn]at ha
   refine RH 1 ha hs hH hC λa ha=>?_
   refine SS ha (ld1 ha (ints_at hC.2 hcnl)) λa ha=>?_
   refine RH 0 ha hs hH hC λa ha=>?_
   refine CL 0 ha hs (reckon_spec hs (hgo _ hbnl) (hgo _ hcnl)) λa w ha hs=>?_
   replace hC:=hH.at w ⟨hs.rdAll,hs.rdAll⟩
   refine RH 1 ha hs hH hC λa ha=>?_
   refine ST 0 ha hs (λa w ha hs=>?_) (hlt:=(by rw[ints_len];omega))
   rw[ints_set,show (λi=>if i=an then sumI o.code (g' bn) (g' cn) else g' i)=upd g' (an) (sumI o.code (g' bn) (g' cn)) from rfl]at hs
   refine RN 0 ha hs λa ha=>?_
   have hone:oneI p fr b g' at' o=(upd g' (an) (sumI o.code (g' bn) (g' cn)),at'+1,true):=by
     rw[oneI,if_neg (by omega),if_neg (by omega),if_neg (by omega),if_neg (by omega),han,Int.toNat_natCast,valI,if_neg (by omega),if_neg (by omega),if_neg (by omega),if_neg (by omega),if_neg (by omega),if_neg (by omega),hbn,Int.toNat_natCast,hcn,Int.toNat_natCast]
   rw[hone]at hst
   exact⟨200-(n+1),by omega,n+1,at'+1,upd g' (an) (sumI o.code (g' bn) (g' cn)),⟨rfl,by omega,by omega,upd_ok hgo (sumI_ok _ _ _),hst.symm⟩,ha.keep [2,3,4,5,8,10,11,12],hs.sub⟩
  refine SA 3 ha hs λa w ha hs=>?_
  refine RT 1 ha hs ?_
  rw[runI_end (by omega)]at hru
  exact⟨_,by rw[← hru],by rw[← hru];exact hgo,hs.sub⟩
 refine SA 10 ha hs λa w ha hs=>?_
 refine RT 1 ha hs ?_
 rw[show 200-n=0 from by omega]at hru
 exact⟨_,by rw[← hru];rfl,by rw[← hru];exact hgo,hs.sub⟩
theorem refFold_spec {P:List (List UInt8)}{zs:List BBx}(hs:St W w (RoP W p adO cO::L))(hpr:prOk p)(hsz:p.title.size≤1000000000)(hg:gOk g)(hP:P.length≤65536∧∀ b∈P,b.length≤1099511627776)(hz:zs.map (·.2.2)=P)(hf:-1099511627776≤fr∧fr≤1099511627776)(hp:∀ w',St W w' L→RdX w' adP zs) :
   Calls Tryz.prog 66 #[.agg (prV p adO cO).toArray,.agg (ints .i32 32 g).toArray,.int .i64 fr,.slice adP P.length cP] w λe w'=>e=.returned (.agg (ints .i32 32 (foldI p fr g P)).toArray)∧gOk (foldI p fr g P)∧St W w' (RoP W p adO cO::L):=by
 have hzl:zs.length=P.length:=by rw[← hz,List.length_map]
 have hPl:=hP.1
 refine EN Tryz.func66 Tryz.ntmps66 rfl rfl λa ha=>?_
 refine BX 1 ha hs λb4 a w ha hs=>?_
 change St W w (blk b4 34 (prV p adO cO)::_) at hs
 refine BX 0 ha hs λb5 a w ha hs=>?_
 change St W w (blk b5 63 (ints .i32 32 g)::_) at hs
 refine AL 0 ha hs λb8 a w ha hs=>?_
 change St W w (blk b8 63 (ints .i32 32 (λ_=>0))::_) at hs
 refine RN 3 ha hs λa ha=>?_
 refine wp_loop_ghost (λμ a w=>∃ (i:Nat) (g':Nat→Int),(μ=P.length-i∧i≤P.length∧gOk g'∧foldI p fr g P=foldI p (fr+i) g' (P.drop i))∧Fr a 33 [(2,.int .i64 fr),(3,.slice adP P.length cP),(4,pt b4),(5,pt b5),(8,pt b8),(9,.int .i64 i)]∧St W w (blk b5 63 (ints .i32 32 g')::blk b4 34 (prV p adO cO)::blk b8 63 (ints .i32 32 (λ_=>0))::RoP W p adO cO::L)) (P.length) (⟨0,g,⟨by simp,by simp,hg,by simp⟩,ha.keep [2,3,4,5,8,9],hs.sub⟩) ?_
 clear ha hs
 rintro μ a w ⟨i,g',⟨rfl,hi,hgo,hfo⟩,ha,hs⟩
 refine IF 6 ha hs (λhc0 a ha=>?_) λhc0 a ha=>?_
 ·
  have hzi:zs[i]?=some (zs[i]'(by omega)):=List.getElem?_eq_getElem (by omega)
  obtain⟨z,hze⟩:∃ z,zs[i]'(by omega)=z:=⟨_,rfl⟩
  rw[hze]at hzi
  have hPi:P[i]?=some z.2.2:=by rw[← hz,List.getElem?_map,hzi];rfl
  have hrx:=hp _ (hs.sub (M:=L))
  obtain⟨bp,op,hade,hrd⟩:=hrx.1 (by omega)
  have hcl:∀ w',St W w' L→w'.cell? ⟨bp,op+i,none⟩=some (bbv z):=λw' h=>by
    obtain⟨b',o',h1,h2⟩:=(hp w' h).1 (by omega)
    rw[hade]at h1
    cases h1
    exact h2 i _ (by rw[List.getElem?_map,hzi];rfl)
  clear hrd hrx
  have hzb:∀ w',St W w' L→RdB w' z.1 z.2.2.length z.2.2:=λw' h=>(hp w' h).2 z (List.mem_of_getElem? hzi)
  have hfo2:foldI p fr g P=foldI p (fr+(i+1:Nat)) (frameI p (fr+i) z.2.2 g') (P.drop (i+1)):=by
    rw[hfo,List.drop_eq_getElem_cons (by omega),foldI]
    have:P[i]'(by omega)=z.2.2:=by rw[List.getElem?_eq_getElem (by omega)]at hPi;exact Option.some.inj hPi
    rw[this]
    congr 1
    omega
  refine RN 1 ha hs λa ha=>?_
  refine wp_seq_cut (M:=λa w=>∃ b10:Nat,gOk (frameI p (fr+i) z.2.2 g')∧Fr a 33 [(2,.int .i64 fr),(3,.slice adP P.length cP),(4,pt b4),(5,pt b5),(8,pt b8),(9,.int .i64 i),(10,pt b10)]∧St W w (blk b10 63 (ints .i32 32 (frameI p (fr+i) z.2.2 g'))::blk b5 63 (ints .i32 32 g')::blk b4 34 (prV p adO cO)::blk b8 63 (ints .i32 32 (λ_=>0))::RoP W p adO cO::L)) ?_ ?_
  ·
   refine DWC 0 (λw0 w'=>Rd w' b4 0 (prV p adO cO)∧Rd w' b5 0 (ints .i32 32 g')∧w'.cell? ⟨bp,op+i,none⟩=some (bbv z)) [1,8,13] [2,3,4,5,6,7,3000,3001,3008,2009,10,11,12,1013,1014,15] ha hs λa w ha hs hH=>?_
   have hC:=hH.at w ⟨hs.rdAll,hs.rdAll,hcl _ hs.sub⟩
   refine RH 5 ha hs hH hC λa ha=>?_
   rw[hade]at ha
   refine RH 1 ha hs hH hC λa ha=>?_
   refine QH ha (λw hc=>ex_loadN ha Tryz.underlying34 rfl Ty.t34 (hc.1)) hC λa ha=>?_
   refine QH ha (λw hc=>ex_loadN ha Tryz.underlying63 rfl Ty.t63 (hc.2.1)) hC λa ha=>?_
   refine QH ha (λw hc=>ld1 ha (hc.2.2)) hC λa ha=>?_
   refine RH 0 ha hs hH hC λa ha=>?_
   refine DN [(9,[10,11,12,1013,1014,15]),(13,[1009,10,11,12,1014,15])] (by kernel_rfl) rfl ⟨⟨_,rfl,?_⟩,⟨_,rfl,?_⟩,trivial⟩
   ·
    refine RH 0 ha hs hH hC λa ha=>?_
    refine CL1 0 ha hs (refStep_spec (hs.pick (RoP W p adO cO)) hpr hsz hgo (hP.2 _ (List.mem_of_getElem? hPi)) (by omega) (λw' h=>hzb w' h.sub)) λn2 a w ha ⟨hg2,hs⟩=>?_
    refine RN 3 ha hs λa ha=>?_
    refine st_alloc ha rfl hs Ty.t63 rfl λb10 a w ha hs ho=>?_
    clear ho
    replace hC:=hH.at w ⟨hs.rdAll,hs.rdAll,hcl _ hs.sub⟩
    change St W w (blk b10 63 (ints .i32 32 (λ_=>0))::_) at hs
    refine RH 0 ha hs hH hC λa ha=>?_
    refine SA 0 ha hs λa w ha hs=>?_
    refine RN 1 ha hs λa ha=>?_
    rw[← hade]at ha
    exact⟨_,hg2,ha.keep [2,3,4,5,8,9,10],hs.sub⟩
   refine RH 0 ha hs hH hC λa ha=>?_
   refine st_alloc ha rfl hs Ty.t63 rfl λb10 a w ha hs ho=>?_
   clear ho
   replace hC:=hH.at w ⟨hs.rdAll,hs.rdAll,hcl _ hs.sub⟩
   change St W w (blk b10 63 (ints .i32 32 (λ_=>0))::_) at hs
   refine RH 0 ha hs hH hC λa ha=>?_
   refine CL1 0 ha hs (refStep_spec (hs.pick (RoP W p adO cO)) hpr hsz hgo (hP.2 _ (List.mem_of_getElem? hPi)) (by omega) (λw' h=>hzb w' h.sub)) λn2 a w ha ⟨hg2,hs⟩=>?_
   refine SA 3 ha hs λa w ha hs=>?_
   refine RN 1 ha hs λa ha=>?_
   rw[← hade]at ha
   exact⟨_,hg2,ha.keep [2,3,4,5,8,9,10],hs.sub⟩
  clear ha;(try clear hs)
  rintro a w ⟨b10,hg2,ha,hs⟩
  refine SA 1 ha hs λa w ha hs=>?_
  refine RN 3 ha hs λa ha=>?_
  exact⟨P.length-(i+1),by omega,i+1,_,⟨rfl,by omega,hg2,hfo2⟩,ha.keep [2,3,4,5,8,9],hs.sub⟩
 refine RN 1 ha hs λa ha=>?_
 obtain rfl:i=P.length:=by omega
 rw[List.drop_length,foldI]at hfo
 refine SA 1 ha hs λa w ha hs=>?_
 refine RT 0 ha hs ?_
 exact⟨by rw[hfo],by rw[hfo];exact hgo,hs.sub⟩
end
end
section
def sameN (m:Nat)(g g':Nat→Int):Bool:=(List.range m).all λi=>g i==g' i
theorem sameN_self (m:Nat)(g:Nat→Int):sameN m g g=true:=by simp[sameN]
section
variable {P:Program}{w:World}{a:Act}{n:Nat}{l:List (Nat×Value)}
theorem run_eqItems_ints {e:TypeId}{k:IntKind}(he:P.underlying e=some (.int k))(d m:Nat)(g g':Nat→Int):∀ is:List Nat,(∀ i∈is,i<m) →
   (Op.eqItems (d+1) e 1 (ints k m g).toArray (ints k m g').toArray is).run P w=.ok (is.all λi=>g i==g' i) w
 | [],_=>by simp[Op.eqItems]
 | i::is,h=>by
   have hi:=h i List.mem_cons_self
   have hp:∀ g:Nat→Int,(part e (ints k m g).toArray (i*1)).run P w=.ok (.int k (g i)) w:=λg=>by
     have hagg:(isAgg e).run P w=.ok false w:=by
       simp only[isAgg,Sem.run_bind,run_underlying he,Result.andThen_ok];rfl
     simp[part,hagg,ints_get g hi]
   have ih:=run_eqItems_ints he d m g g' is λj hj=>h j (List.mem_cons_of_mem _ hj)
   simp only[Op.eqItems,Sem.run_bind,hp,Result.andThen_ok,run_equalIn_int w d e k k (g i) (g' i) he]
   cases hb:(g i==g' i) with
   | false=>simp[hb]
   | true=>simp[hb,ih]
theorem run_equal_ints {t e:TypeId}{m:Nat}{k:IntKind}{i:TypeInfo}(ht:P.underlying t=some (.array m e))(he:P.underlying e=some (.int k))(hi:P.info? e=some i)(hc:P.cellsOf e=1)(g g':Nat→Int)(d:Nat) :
   (Op.equalIn (d+1+1) t (.agg (ints k m g).toArray) (.agg (ints k m g').toArray)).run P w=.ok (sameN m g g') w:=by
 rw[Go.run_equalIn_array (w:=w) (d+1) _ _ ht hi,hc]
 exact run_eqItems_ints he d m g g' _ λj hj=>List.mem_range.1 hj
theorem ex_neqA {x y t e m k z by' u g g' dst ty ps af gd}(ha:Fr a n l)(ht:P.underlying t=some (.array m e))(he:P.underlying e=some (.int k))(hi:TI P e z 1 by')(hc:P.cellsOf e=1)(hg:P.eqGuardType P.depth t=false)
   [ev:Ev l x (.agg (ints k m g).toArray)] [ey:Ev l y (.agg (ints k m g').toArray)] :
   (execOp a.eval ⟨dst,.binOp .neq t x y u,ty,ps,af,gd⟩).run P w=.ok (.value (.bool (!sameN m g g'))) w:=by
 obtain⟨i,h1,_⟩:=info_parts hi.h
 have h2:(Op.equal t (.agg (ints k m g).toArray) (.agg (ints k m g').toArray)).run P w=.ok (sameN m g g') w:=run_equal_ints ht he h1 hc g g' 9998
 have h3:(binOp .neq t (.agg (ints k m g).toArray) (.agg (ints k m g').toArray)).run P w=.ok (.bool (!sameN m g g')) w:=by simp[binOp,h2]
 simp only[execOp,ev.ev a n ha,ey.ev a n ha,Sem.run_bind,run_eqGuard_agg w _ t x y _ _ hg];simp[h3]
end
end
section
def ArgInts (k:IntKind)(w:World)(a:Option Addr)(len cap:Nat)(zs:List Int):Prop :=
 (a=none∧len=0∧cap=0∧zs=[]) ∨
 ∃ x,a=some x∧len≤cap∧cap≤maxLen∧zs.length=cap∧(∀ i,i<zs.length→w.cell? (x.add i)=some (.int k (zs.getD i 0)))∧∀ n∈zs,(Lit.int k n).wf=true
theorem cell_spot {w:World}{x:Addr}{v:Value}(h:w.cell? x=some v):x=⟨x.block,x.off,none⟩∧x.block<w.heap.size:=by
 refine⟨?_,World.block_lt_of_cell? _ _ h⟩
 obtain⟨b,o,s⟩:=x
 cases s with
 | none=>rfl
 | some s =>
   simp only[World.cell?]at h
   split at h <;> simp at h
theorem ArgInts.get {k:IntKind}{w:World}{a:Option Addr}{len cap:Nat}{zs:List Int}(h:ArgInts k w a len cap zs)(h0:0<len) :
   ∃ b off,a=some ⟨b,off,none⟩∧b<w.heap.size∧len≤zs.length∧∀ i,i<zs.length→w.cell? ⟨b,off+i*1,none⟩=some (.int k (zs.getD i 0)):=by
 rcases h with ⟨_,h,_,_⟩ | ⟨x,rfl,h1,h2,h3,h4,h5⟩
 · omega
 · have h6:=h4 0 (by omega)
   have h7:x.add 0=x:=by simp[Addr.add]
   rw[h7]at h6
   obtain⟨h8,h9⟩:=cell_spot h6
   refine⟨x.block,x.off,by rw[← h8],h9,by omega,λi hi=>?_⟩
   have:=h4 i hi
   rw[h8,add_off]at this
   rw[Nat.mul_one];exact this
theorem ArgInts.len_le {k:IntKind}{w:World}{a:Option Addr}{len cap:Nat}{zs:List Int}(h:ArgInts k w a len cap zs):len≤zs.length∧len≤9223372036854775807:=by
 rcases h with ⟨_,rfl,_,rfl⟩ | ⟨x,rfl,h1,h2,h3,h4,h5⟩
 · simp
 · unfold maxLen at h2;omega
end
section
theorem u8of {x:Int}(h:(Lit.int .u8 x).wf=true):x=((UInt8.ofNat x.toNat).toNat:Int):=by
 have hr:=(Lit.wf_int_iff .u8 x).1 h
 have h1:IntKind.u8.min=0:=by decide
 have h2:IntKind.u8.max=255:=by decide
 rw[h1,h2]at hr
 rw[UInt8.toNat_ofNat']
 omega
theorem ArgInts.bytesB {W:World}{a:Option Addr}{len cap:Nat}{z:List Int}(h:ArgInts .u8 W a len cap z):∃ bs:List UInt8,bs.length=len∧RdB W a len bs:=by
 refine⟨(z.take len).map (λn=>UInt8.ofNat n.toNat),?_,?_⟩
 · have:=h.len_le;simp;omega
 · have hl:=h.len_le
   have hz:∀ n∈z,(Lit.int .u8 n).wf=true:=by
     rcases h with ⟨_,_,_,rfl⟩ | ⟨x,_,_,_,_,_,hw⟩
     · intro n hn;cases hn
     · exact hw
   refine⟨by simp;omega,λe=>?_,λx hx hp=>?_⟩
   · rcases h with ⟨_,h,_,_⟩ | ⟨x,rfl,_⟩
     · exact h
     · cases e
   · obtain⟨b,off,rfl,hb,_,hc⟩:=h.get hp
     refine⟨b,off,by cases hx;rfl,λj v hj=>?_⟩
     have hj2:=(List.getElem?_eq_some_iff.1 hj).1
     rw[bc_len,List.length_map,List.length_take]at hj2
     have:=hc j (by omega)
     rw[Nat.mul_one]at this
     rw[this,← hj]
     have hzj:z.getD j 0∈z:=by rw[List.getD_eq_getElem?_getD,List.getElem?_eq_getElem (by omega),Option.getD_some];exact List.getElem_mem _
     have hw:=hz _ hzj
     have hu:=u8of hw
     simp only[bc,List.getElem?_map,List.getElem?_take]
     rw[if_pos (by omega),List.getElem?_eq_getElem (by omega)]
     simp only[Option.map_some]
     have hd:z.getD j 0=z[j]'(by omega):=by rw[List.getD_eq_getElem?_getD,List.getElem?_eq_getElem (by omega),Option.getD_some]
     rw[hd]at hu ⊢
     exact congrArg (λz=>some (Value.int .u8 z)) hu
abbrev BBBx:=Option Addr×Nat×List BBx
end
section
section
theorem alikeP_iff {u v:List (List UInt8)}:alikeP u v=true↔u.take (min u.length v.length)=v.take (min u.length v.length):=by simp[alikeP]
end
end
end Go.Proofs.YtdilfdkendjjhaaGreat
