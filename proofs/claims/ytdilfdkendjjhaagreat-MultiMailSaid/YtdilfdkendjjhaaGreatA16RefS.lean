/- The references' frames: the walks. -/
import Derived.Test.YtdilfdkendjjhaaGreatA15Ref
import Derived.Test.YtdilfdkendjjhaaGreatA12Num
import Derived.Test.YtdilfdkendjjhaaGreatA04Ty
import Derived.ProofKit
import Derived.Deep.Slices
import Derived.Deep.Strs
import Derived.ChangeSlices
import Derived.ChangeShapes
import Derived.DataShut
import Derived.Test.YtdilfdkendjjhaaGreatA10Branch2
import Derived.Test.YtdilfdkendjjhaaGreatA13Vm
import Derived.Test.YtdilfdkendjjhaaGreatA02More2
import Derived.Laws.StructEq
import Derived.ChangeKeysEq
import Derived.Test.YtdilfdkendjjhaaGreatA11Job
import Derived.Test.YtdilfdkendjjhaaGreatA14Wk
import Derived.ChangeSame
namespace Go.Proofs.YtdilfdkendjjhaaGreat
open Go.RowKit
set_option linter.unusedVariables false
set_option linter.unusedSimpArgs false
set_option maxRecDepth 10000
set_option synthInstance.maxSize 4000
set_option synthInstance.maxHeartbeats 400000
section
theorem w32_eq {x y:Int}(h1:-2147483648≤y)(h2:y≤2147483647)(h3:x%4294967296=y%4294967296):w32 x=y:=by
 simp only[w32,IntKind.wrap,IntKind.signed,IntKind.bits]
 simp
 split <;> omega
section
variable {W w:World}{L:List SP}{p:Pr}{adO adP:Option Addr}{cO cP:Nat}{b:List UInt8}{g:Nat→Int}{fr:Int}
theorem refRound_spec {x:Int}(hs:St W w L)(h1:-9223372036854775808≤x)(h2:x≤9223372036854775807):Calls Tryz.prog 197 #[.int .i64 x] w λe w'=>e=.returned (.int .i32 (w32 x))∧St W w' L:=by
 have hq1:=Int.tmod_lt_of_pos x (b:=4294967296) (by decide)
 have hq2:=Int.lt_tmod_of_pos x (b:=4294967296) (by decide)
 have hq3:(x.tmod 4294967296)%4294967296=x%4294967296:=by
   rw[Int.tmod_eq_emod]
   split <;> omega
 refine EN Tryz.func197 Tryz.ntmps197 rfl rfl λa ha=>?_
 refine IF 10 ha hs (λhc0 a ha=>?_) λhc0 a ha=>?_
 ·
  refine IF 7 ha hs (λhc1 a ha=>?_) λhc1 a ha=>?_
  ·
   refine SX 5 ha hs (wrap32' (by omega) (by omega)) λa ha=>?_
   refine RT 1 ha hs ?_
   exact⟨by rw[w32_eq (y:=x.tmod 4294967296+4294967296-4294967296) (by omega) (by omega) (by omega)],hs⟩
  refine SX 2 ha hs (wrap32' (by omega) (by omega)) λa ha=>?_
  refine RT 1 ha hs ?_
  exact⟨by rw[w32_eq (y:=x.tmod 4294967296+4294967296) (by omega) (by omega) (by omega)],hs⟩
 refine IF 4 ha hs (λhc1 a ha=>?_) λhc1 a ha=>?_
 ·
  refine SX 5 ha hs (wrap32' (by omega) (by omega)) λa ha=>?_
  refine RT 1 ha hs ?_
  exact⟨by rw[w32_eq (y:=x.tmod 4294967296-4294967296) (by omega) (by omega) (by omega)],hs⟩
 refine SX 2 ha hs (wrap32' (by omega) (by omega)) λa ha=>?_
 refine RT 1 ha hs ?_
 exact⟨by rw[w32_eq (y:=x.tmod 4294967296) (by omega) (by omega) (by omega)],hs⟩
theorem refMod_spec {x:Int}(hs:St W w L)(hx:i32P x):Calls Tryz.prog 196 #[.int .i32 x,.int .i64 32] w λe w'=>e=.returned (.int .i64 (mod32 x))∧St W w' L:=by
 have h1:=Int.tmod_lt_of_pos x (b:=32) (by decide)
 have h2:=Int.lt_tmod_of_pos x (b:=32) (by decide)
 have hm:(mod32 x:Int)=x%32:=by
   have h1:=Int.emod_nonneg x (show (32:Int)≠0 by decide)
   show (((x%32).toNat:Nat):Int)=_
   omega
 have ht:x.tmod 32=if 0≤x then x%32 else -((-x)%32):=by
   split
   · exact Int.tmod_eq_emod_of_nonneg (by omega)
   · rw[← Int.neg_neg (x.tmod 32),← Int.neg_tmod,Int.tmod_eq_emod_of_nonneg (by omega)]
 simp only[i32P]at hx
 refine EN Tryz.func196 Tryz.ntmps196 rfl rfl λa ha=>?_
 refine RN 6 ha hs λa ha=>?_
 replace ha:=ha.isF 7
 refine SX 3 ha hs (wrap_in (by omega) (by omega)) λa ha=>?_
 refine IF 7 ha hs (λhc1 a ha=>?_) λhc1 a ha=>?_
 ·
  refine RN 4 ha hs λa ha=>?_
  rw[show x.tmod 32+32=(mod32 x:Int) from by rw[hm,ht];split <;> omega]at ha
  refine RT 3 ha hs ?_
  exact⟨rfl,hs⟩
 refine RT 3 ha hs ?_
 exact⟨by rw[hm,show x.tmod 32=x%32 from by rw[ht] at *;split at*<;> omega],hs⟩
theorem pressed_spec {x:Int}(hs:St W w L)(hx:i32P x)(hb:b.length≤1099511627776)(hp:∀ w',St W w' L→RdB w' adP b.length b) :
   Calls Tryz.prog 195 #[.slice adP b.length cP,.int .i32 x] w λe w'=>e=.returned (.int .i32 (pressI b x))∧St W w' L:=by
 simp only[i32P]at hx
 refine EN Tryz.func195 Tryz.ntmps195 rfl rfl λa ha=>?_
 refine BY 7 ha hs (λhg2 a ha=>?_) λhg2 a ha=>?_
 ·
  refine RT 9 ha hs ?_
  exact⟨by rw[pressI,if_neg (by omega)],hs⟩
 refine SX 1 ha hs (by rw[wrap_in (by omega) (by omega)]) λa ha=>?_
 refine IF 4 ha hs (λhc0 a ha=>?_) λhc0 a ha=>?_
 ·
  refine RT 2 ha hs ?_
  exact⟨by rw[pressI,if_neg (by omega)],hs⟩
 refine RN 1 ha hs λa ha=>?_
 obtain⟨k,hk⟩:∃ k:Nat,x=(k:Int):=⟨x.toNat,by omega⟩
 obtain⟨_,_,hpr⟩:=hp _ hs
 have hkb:k<b.length:=by omega
 obtain⟨bp,op,hade,hrd⟩:∃ bp op,adP=some ⟨bp,op,none⟩∧Rd w bp op (bc b):=by
   cases hh:adP with
   | none =>
     have:=(hp _ hs).2.1 hh
     omega
   | some a =>
     obtain⟨b1,o1,rfl,h1⟩:=hpr a hh (by omega)
     exact⟨b1,o1,rfl,h1⟩
 rw[hk]at ha
 refine RN 1 ha hs λa ha=>?_
 rw[hade]at ha
 refine RN 2 ha hs λa ha=>?_
 refine SS ha (ld1 ha (hrd k (.int .u8 b[k].toNat) (by simp[bc,hkb]))) λa ha=>?_
 refine SX 0 ha hs (by have:=b[k].toNat_lt;exact wrap32' (by omega) (by omega)) λa ha=>?_
 refine RT 1 ha hs ?_
 refine⟨?_,hs⟩
 rw[pressI,if_pos (by omega),hk,Int.toNat_natCast,List.getD_eq_getElem?_getD,List.getElem?_eq_getElem hkb];rfl
theorem refDiv_spec {x y:Int}(hs:St W w L)(hx:i32P x)(hy:i32P y):Calls Tryz.prog 238 #[.int .i32 x,.int .i32 y] w λe w'=>e=.returned (.int .i32 (if y=0 then 0 else w32 (x.tdiv y)))∧St W w' L:=by
 simp only[i32P]at hx hy
 have hq:y≠0 → -9223372036854775808≤x.tdiv y∧x.tdiv y≤9223372036854775807:=λh=>by
   have h1:(x.tdiv y).natAbs≤x.natAbs:=by rw[Int.natAbs_tdiv];exact Nat.div_le_self _ _
   omega
 refine EN Tryz.func238 Tryz.ntmps238 rfl rfl λa ha=>?_
 refine IF 6 ha hs (λhc0 a ha=>?_) λhc0 a ha=>?_
 ·
  refine RT 2 ha hs ?_
  exact⟨by rw[if_pos hc0],hs⟩
 refine SX 2 ha hs (wrap_in (by omega) (by omega)) λa ha=>?_
 refine SX 1 ha hs (wrap_in (by omega) (by omega)) λa ha=>?_
 refine RN 0 ha hs λa ha=>?_
 refine SS ha (ex_quoW ha (by omega)) λa ha=>?_
 rw[wrap_in (hq hc0).1 (hq hc0).2]at ha
 refine CL 0 ha hs (refRound_spec hs (hq hc0).1 (hq hc0).2) λa w ha hs=>?_
 refine RT 1 ha hs ?_
 exact⟨by rw[if_neg hc0],hs⟩
theorem reckon_spec {k x y:Int}(hs:St W w L)(hx:i32P x)(hy:i32P y):Calls Tryz.prog 198 #[.int .i64 k,.int .i32 x,.int .i32 y] w λe w'=>e=.returned (.int .i32 (sumI k x y))∧St W w' L:=by
 have hx2:=hx
 have hy2:=hy
 simp only[i32P]at hx2 hy2
 have hmul:-9223372036854775808≤x*y∧x*y≤9223372036854775807:=by
   have h1:(x*y).natAbs≤2147483648*2147483648:=by rw[Int.natAbs_mul];exact Nat.mul_le_mul (by omega) (by omega)
   omega
 refine EN Tryz.func198 Tryz.ntmps198 rfl rfl λa ha=>?_
 refine IF 10 ha hs (λhc0 a ha=>?_) λhc0 a ha=>?_
 ·
  refine SX 2 ha hs (wrap_in (by omega) (by omega)) λa ha=>?_
  refine SX 1 ha hs (wrap_in (by omega) (by omega)) λa ha=>?_
  refine CL 1 ha hs (refRound_spec hs (by omega) (by omega)) λa w ha hs=>?_
  refine RT 1 ha hs ?_
  exact⟨by simp[sumI,hc0],hs⟩
 refine IF 3 ha hs (λhc1 a ha=>?_) λhc1 a ha=>?_
 ·
  refine SX 2 ha hs (wrap_in (by omega) (by omega)) λa ha=>?_
  refine SX 1 ha hs (wrap_in (by omega) (by omega)) λa ha=>?_
  refine CL 1 ha hs (refRound_spec hs (by omega) (by omega)) λa w ha hs=>?_
  refine RT 1 ha hs ?_
  exact⟨by simp[sumI,hc1],hs⟩
 refine IF 3 ha hs (λhc2 a ha=>?_) λhc2 a ha=>?_
 ·
  refine SX 2 ha hs (wrap_in (by omega) (by omega)) λa ha=>?_
  refine SX 1 ha hs (wrap_in (by omega) (by omega)) λa ha=>?_
  refine SX 0 ha hs ⟨(by first | exact hmul.1 | exact hmul.2),(by first | exact hmul.1 | exact hmul.2)⟩ λa ha=>?_
  refine CL 0 ha hs (refRound_spec hs hmul.1 hmul.2) λa w ha hs=>?_
  refine RT 1 ha hs ?_
  exact⟨by simp[sumI,hc2],hs⟩
 refine IF 3 ha hs (λhc3 a ha=>?_) λhc3 a ha=>?_
 ·
  refine CL 3 ha hs (refDiv_spec hs hx hy) λa w ha hs=>?_
  refine RT 1 ha hs ?_
  exact⟨by simp[sumI,hc3],hs⟩
 refine IF 3 ha hs (λhc4 a ha=>?_) λhc4 a ha=>?_
 ·
  refine IF 7 ha hs (λhc5 a ha=>?_) λhc5 a ha=>?_
  ·
   refine RT 2 ha hs ?_
   exact⟨by simp[sumI,hc4,hc5],hs⟩
  refine RT 2 ha hs ?_
  exact⟨by simp[sumI,hc4];omega,hs⟩
 refine IF 7 ha hs (λhc5 a ha=>?_) λhc5 a ha=>?_
 ·
  refine RT 2 ha hs ?_
  exact⟨by simp[sumI,hc0,hc1,hc2,hc3,hc4,hc5],hs⟩
 refine RT 2 ha hs ?_
 exact⟨by simp[sumI,hc0,hc1,hc2,hc3,hc4];omega,hs⟩
theorem ints_at {w:World}{bx j:Nat}{g:Nat→Int}(h:Rd w bx 0 (ints .i32 32 g))(hj:j<32):w.cell? ⟨bx,j,none⟩=some (.int .i32 (g j)):=by
 have:=h j _ (ints_get g hj)
 rwa [Nat.zero_add]at this
theorem refStep_spec (hs:St W w (RoP W p adO cO::L))(hpr:prOk p)(hsz:p.title.size≤1000000000)(hg:gOk g)(hb:b.length≤1099511627776)(hf:-4611686018427387904≤fr∧fr≤4611686018427387904)(hp:∀ w',St W w' L→RdB w' adP b.length b) :
   Calls Tryz.prog 132 #[.agg (prV p adO cO).toArray,.agg (ints .i32 32 g).toArray,.int .i64 fr,.slice adP b.length cP] w λe w'=>∃ n:Int,e=.returned (.tuple #[.agg (ints .i32 32 (frameI p fr b g)).toArray,.int .i64 n])∧gOk (frameI p fr b g)∧St W w' (RoP W p adO cO::L):=by
 have hol:p.ops.length≤64:=hpr.1.2.2.1
 refine EN Tryz.func132 Tryz.ntmps132 rfl rfl λa ha=>?_
 refine BX 1 ha hs λb4 a w ha hs=>?_
 change St W w (blk b4 34 (prV p adO cO)::_) at hs
 refine BX 0 ha hs λb5 a w ha hs=>?_
 change St W w (blk b5 63 (ints .i32 32 g)::_) at hs
 refine AL 0 ha hs λb8 a w ha hs=>?_
 change St W w (blk b8 63 (ints .i32 32 (λ_=>0))::_) at hs
 refine CL1 4 ha hs (refFault_spec (hs.pick (RoP W p adO cO)) hsz (by omega)) λr a w ha ⟨hr,hs⟩=>?_
 obtain rfl:r = -1:=hr.2 hpr
 refine RN 1 ha hs λa ha=>?_
 rw[show decide ((-1:Int) ≠ -1)=false from rfl]at ha
 replace ha:=ha.isF 18
 refine CL2 7 ha hs (refRunes_spec hs hsz) λadT cT a w ha hs=>?_
 refine RN 6 ha hs λa ha=>?_
 refine wp_loop_ghost (λμ a w=>∃ (n at':Nat) (g':Nat→Int),(μ=200-n∧n≤200∧at'≤p.ops.length∧gOk g'∧runI p fr b (200-n) g' at'=frameI p fr b g)∧Fr a 166 [(2,.int .i64 fr),(3,.slice adP b.length cP),(4,pt b4),(5,pt b5),(8,pt b8),(10,.int .i64 at'),(11,.int .i64 n),(12,.slice adT (runesAt p.title 0).length cT)]∧St W w (blk b5 63 (ints .i32 32 g')::blk b4 34 (prV p adO cO)::blk b8 63 (ints .i32 32 (λ_=>0))::Sl 21 1 adT (runesAt p.title 0).length cT (RI (runesAt p.title 0))::RoP W p adO cO::L)) (200) (⟨0,0,g,⟨by simp,by simp,by simp,hg,rfl⟩,ha.keep [2,3,4,5,8,10,11,12],hs.sub⟩) ?_
 clear ha hs
 rintro μ a w ⟨n,at',g',⟨rfl,hn,hat,hgo,hru⟩,ha,hs⟩
 refine BY 5 ha hs (λhg2 a ha=>?_) λhg2 a ha=>?_
 ·
  refine IF 6 ha hs (λhc1 a ha=>?_) λhc1 a ha=>?_
  ·
   obtain⟨o,ho⟩:∃ o,p.ops[at']?=some o:=⟨_,List.getElem?_eq_getElem (by omega)⟩
   obtain⟨bo,oo,rfl,hro⟩:=hs.roRd adO (by omega)
   have hst:=runI_step (p:=p) (fr:=fr) (b:=b) (g:=g') (n:=200-(n+1)) ho
   rw[show 200-(n+1)+1=200-n from by omega,hru]at hst
   have hok:=hpr.2 o (List.mem_of_getElem? ho)
   have hop:=hok
   simp only[okOp,cellP]at hop
   have ha9:o.code=9→LeN o.a p.ops.length:=λh=>LeN.of (by omega)
   have hac:o.code≠9→o.code≠0→LtN o.a 32:=λh h2=>LtN.of (by omega)
   have hb10:o.code=10→LeN o.b p.ops.length:=λh=>LeN.of (by omega)
   have hbc:o.code≠1→o.code≠15→o.code≠9→o.code≠10→o.code≠0→LtN o.b 32:=λ_ _ _ _ _=>LtN.of (by omega)
   have hcr:o.code≠0→o.code≠1→o.code≠2→o.code≠9→o.code≠10→o.code≠11→o.code≠12→o.code≠13→o.code≠14→o.code≠15→LtN o.c 32:=λ_ _ _ _ _ _ _ _ _ _=>LtN.of (by omega)
   clear hop
   refine RN 5 ha hs λa ha=>?_
   refine SS ha (ex_loadN ha Tryz.underlying119 rfl Ty.t119 (op_rd hro ho)) λa ha=>?_
   refine AL 0 ha hs λb14 a w ha hs=>?_
   refine SA 0 ha hs λa w ha hs=>?_
   refine IF 14 ha hs (λhc2 a ha=>?_) λhc2 a ha=>?_
   ·
    refine SA 3 ha hs λa w ha hs=>?_
    refine RT 1 ha hs ?_
    rw[show oneI p fr b g' at' o=(g',at'+1,false) from by rw[oneI,if_pos hc2]]at hst
    refine⟨_,by rw[hst];rfl,?_,hs.sub⟩
    rw[hst];exact hgo
   refine IF 3 ha hs (λhc3 a ha=>?_) λhc3 a ha=>?_
   ·
    obtain⟨an,han,hanl⟩:=hac (by omega) (by omega)
    refine RN 2 ha hs λa ha=>?_
    rw[han]at ha
    refine RN 2 ha hs λa ha=>?_
    refine SS ha (ex_convII ha Tryz.underlying3 Tryz.underlying21) λa ha=>?_
    refine ST 1 ha hs (λa w ha hs=>?_) (hlt:=(by rw[ints_len];omega))
    rw[ints_set,show (λi=>if i=an then IntKind.i32.wrap o.b else g' i)=upd g' (an) (w32 o.b) from rfl]at hs
    refine RN 0 ha hs λa ha=>?_
    have hone:oneI p fr b g' at' o=(upd g' (an) (w32 o.b),at'+1,true):=by
      rw[oneI,if_neg (by omega),if_neg (by omega),if_neg (by omega),if_neg (by omega),han,Int.toNat_natCast,valI,if_pos hc3]
    rw[hone]at hst
    exact⟨200-(n+1),by omega,n+1,at'+1,upd g' (an) (w32 o.b),⟨rfl,by omega,by omega,upd_ok hgo (w32_in _),hst.symm⟩,ha.keep [2,3,4,5,8,10,11,12],hs.sub⟩
   refine IF 3 ha hs (λhc4 a ha=>?_) λhc4 a ha=>?_
   ·
    refine RN 0 ha hs λa ha=>?_
    obtain⟨an,han,hanl⟩:=hac (by omega) (by omega)
    obtain⟨bn,hbn,hbnl⟩:=hbc (by omega) (by omega) (by omega) (by omega) (by omega)
    refine DWC 0 (λw0 w'=>Rd w' b14 0 (opR o)∧Rd w' b5 0 (ints .i32 32 g')) [3,4,5] [0,2,3001,1003,1004,1005,6,1007] ha hs λa w ha hs hH=>?_
    have hC:=hH.at w ⟨hs.rdAll,hs.rdAll⟩
    refine RH 2 ha hs hH hC λa ha=>?_
    refine QH ha (λw hc=>ld1 ha (hc.1 1 _ rfl)) hC λa ha=>?_
    rw[han]at ha
    refine RH 0 ha hs hH hC λa ha=>?_
    refine SS ha (ld1 ha (hC.1 2 _ rfl)) λa ha=>?_
    rw[hbn]at ha
    refine RH 1 ha hs hH hC λa ha=>?_
    refine SS ha (ld1 ha (ints_at hC.2 hbnl)) λa ha=>?_
    refine RH 1 ha hs hH hC λa ha=>?_
    refine ST 0 ha hs (λa w ha hs=>?_) (hlt:=(by rw[ints_len];omega))
    rw[ints_set,show (λi=>if i=an then g' bn else g' i)=upd g' (an) (g' bn) from rfl]at hs
    refine RN 0 ha hs λa ha=>?_
    have hone:oneI p fr b g' at' o=(upd g' (an) (g' bn),at'+1,true):=by
      rw[oneI,if_neg (by omega),if_neg (by omega),if_neg (by omega),if_neg (by omega),han,Int.toNat_natCast,valI,if_neg (by omega),if_pos hc4,hbn,Int.toNat_natCast]
    rw[hone]at hst
    exact⟨200-(n+1),by omega,n+1,at'+1,upd g' (an) (g' bn),⟨rfl,by omega,by omega,upd_ok hgo (hgo _ hbnl),hst.symm⟩,ha.keep [2,3,4,5,8,10,11,12],hs.sub⟩
   refine IF 3 ha hs (λhc5 a ha=>?_) λhc5 a ha=>?_
   ·
    obtain⟨an,han,hanl⟩:=ha9 hc5
    refine RN 2 ha hs λa ha=>?_
    rw[han]at ha
    refine RN 1 ha hs λa ha=>?_
    have hone:oneI p fr b g' at' o=(g',an,true):=by
      rw[oneI,if_neg (by omega),if_pos hc5,han,Int.toNat_natCast]
    rw[hone]at hst
    exact⟨200-(n+1),by omega,n+1,an,g',⟨rfl,by omega,by omega,hgo,hst.symm⟩,ha.keep [2,3,4,5,8,10,11,12],hs.sub⟩
   refine IF 3 ha hs (λhc6 a ha=>?_) λhc6 a ha=>?_
   ·
    refine RN 1 ha hs λa ha=>?_
    obtain⟨an,han,hanl⟩:=hac (by omega) (by omega)
    refine RN 2 ha hs λa ha=>?_
    rw[han]at ha
    refine RN 1 ha hs λa ha=>?_
    refine SS ha (ld1 ha ((ints_at hs.rdAll hanl))) λa ha=>?_
    refine IF 1 ha hs (λhc7 a ha=>?_) λhc7 a ha=>?_
    ·
     obtain⟨bn,hbn,hbnl⟩:=hb10 hc6
     refine RN 2 ha hs λa ha=>?_
     rw[hbn]at ha
     refine RN 1 ha hs λa ha=>?_
     have hone:oneI p fr b g' at' o=(g',bn,true):=by
       rw[oneI,if_neg (by omega),if_neg (by omega),if_pos hc6,han,Int.toNat_natCast,if_pos hc7,hbn,Int.toNat_natCast]
     rw[hone]at hst
     exact⟨200-(n+1),by omega,n+1,bn,g',⟨rfl,by omega,by omega,hgo,hst.symm⟩,ha.keep [2,3,4,5,8,10,11,12],hs.sub⟩
    refine RN 0 ha hs λa ha=>?_
    have hone:oneI p fr b g' at' o=(g',at'+1,true):=by
      rw[oneI,if_neg (by omega),if_neg (by omega),if_pos hc6,han,Int.toNat_natCast,if_neg hc7]
    rw[hone]at hst
    exact⟨200-(n+1),by omega,n+1,at'+1,g',⟨rfl,by omega,by omega,hgo,hst.symm⟩,ha.keep [2,3,4,5,8,10,11,12],hs.sub⟩
   refine IF 3 ha hs (λhc8 a ha=>?_) λhc8 a ha=>?_
   ·
    refine RN 0 ha hs λa ha=>?_
    obtain⟨an,han,hanl⟩:=hac (by omega) (by omega)
    obtain⟨bn,hbn,hbnl⟩:=hbc (by omega) (by omega) (by omega) (by omega) (by omega)
    refine DWC 0 (λw0 w'=>Rd w' b14 0 (opR o)∧Rd w' b5 0 (ints .i32 32 g')) [4,5,6,7] [0,2,3,3001,1004,1005,1006,1007,8,1009] ha hs λa w ha hs hH=>?_
    have hC:=hH.at w ⟨hs.rdAll,hs.rdAll⟩
    refine RH 3 ha hs hH hC λa ha=>?_
    refine QH ha (λw hc=>ld1 ha (hc.1 1 _ rfl)) hC λa ha=>?_
    rw[han]at ha
    refine RH 0 ha hs hH hC λa ha=>?_
    refine SS ha (ld1 ha (hC.1 2 _ rfl)) λa ha=>?_
    rw[hbn]at ha
    refine RH 1 ha hs hH hC λa ha=>?_
    refine SS ha (ld1 ha (ints_at hC.2 hbnl)) λa ha=>?_
    refine RH 0 ha hs hH hC λa ha=>?_
    refine CL 0 ha hs (pressed_spec hs (hgo _ hbnl) hb (λw' h=>hp w' h.sub)) λa w ha hs=>?_
    replace hC:=hH.at w ⟨hs.rdAll,hs.rdAll⟩
    refine RH 1 ha hs hH hC λa ha=>?_
    refine ST 0 ha hs (λa w ha hs=>?_) (hlt:=(by rw[ints_len];omega))
    rw[ints_set,show (λi=>if i=an then pressI b (g' bn) else g' i)=upd g' (an) (pressI b (g' bn)) from rfl]at hs
    refine RN 0 ha hs λa ha=>?_
    have hone:oneI p fr b g' at' o=(upd g' (an) (pressI b (g' bn)),at'+1,true):=by
      rw[oneI,if_neg (by omega),if_neg (by omega),if_neg (by omega),if_neg (by omega),han,Int.toNat_natCast,valI,if_neg (by omega),if_neg (by omega),if_pos hc8,hbn,Int.toNat_natCast]
    rw[hone]at hst
    exact⟨200-(n+1),by omega,n+1,at'+1,upd g' (an) (pressI b (g' bn)),⟨rfl,by omega,by omega,upd_ok hgo (pressI_ok _ _),hst.symm⟩,ha.keep [2,3,4,5,8,10,11,12],hs.sub⟩
   refine IF 3 ha hs (λhc9 a ha=>?_) λhc9 a ha=>?_
   ·
    refine RN 0 ha hs λa ha=>?_
    obtain⟨an,han,hanl⟩:=hac (by omega) (by omega)
    obtain⟨bn,hbn,hbnl⟩:=hbc (by omega) (by omega) (by omega) (by omega) (by omega)
    have hm32:=mod32_lt (g' bn)
    refine DWC 0 (λw0 w'=>Rd w' b14 0 (opR o)∧Rd w' b5 0 (ints .i32 32 g')) [3,4,5,6,7,8] [0,2,3001,1003,1004,1005,1006,1007,1008,9,1010] ha hs λa w ha hs hH=>?_
    have hC:=hH.at w ⟨hs.rdAll,hs.rdAll⟩
    refine RH 2 ha hs hH hC λa ha=>?_
    refine QH ha (λw hc=>ld1 ha (hc.1 1 _ rfl)) hC λa ha=>?_
    rw[han]at ha
    refine RH 0 ha hs hH hC λa ha=>?_
    refine SS ha (ld1 ha (hC.1 2 _ rfl)) λa ha=>?_
    rw[hbn]at ha
    refine RH 1 ha hs hH hC λa ha=>?_
    refine SS ha (ld1 ha (ints_at hC.2 hbnl)) λa ha=>?_
    refine RH 0 ha hs hH hC λa ha=>?_
    refine CL 0 ha hs (refMod_spec hs (hgo _ hbnl)) λa w ha hs=>?_
    replace hC:=hH.at w ⟨hs.rdAll,hs.rdAll⟩
    refine RH 1 ha hs hH hC λa ha=>?_
    refine SS ha (ld1 ha (ints_at hC.2 hm32)) λa ha=>?_
    refine RH 1 ha hs hH hC λa ha=>?_
    refine ST 0 ha hs (λa w ha hs=>?_) (hlt:=(by rw[ints_len];omega))
    rw[ints_set,show (λi=>if i=an then g' (mod32 (g' bn)) else g' i)=upd g' (an) (g' (mod32 (g' bn))) from rfl]at hs
    refine RN 0 ha hs λa ha=>?_
    have hone:oneI p fr b g' at' o=(upd g' (an) (g' (mod32 (g' bn))),at'+1,true):=by
      rw[oneI,if_neg (by omega),if_neg (by omega),if_neg (by omega),if_neg (by omega),han,Int.toNat_natCast,valI,if_neg (by omega),if_neg (by omega),if_neg (by omega),if_pos hc9,hbn,Int.toNat_natCast]
    rw[hone]at hst
    exact⟨200-(n+1),by omega,n+1,at'+1,upd g' (an) (g' (mod32 (g' bn))),⟨rfl,by omega,by omega,upd_ok hgo (hgo _ hm32),hst.symm⟩,ha.keep [2,3,4,5,8,10,11,12],hs.sub⟩
   refine IF 3 ha hs (λhc10 a ha=>?_) λhc10 a ha=>?_
   ·
    refine RN 0 ha hs λa ha=>?_
    obtain⟨an,han,hanl⟩:=hac (by omega) (by omega)
    obtain⟨bn,hbn,hbnl⟩:=hbc (by omega) (by omega) (by omega) (by omega) (by omega)
    have hm32:=mod32_lt (g' an)
    refine DWC 0 (λw0 w'=>Rd w' b14 0 (opR o)∧Rd w' b5 0 (ints .i32 32 g')) [4,6,7,8] [0,5,3001,2,3003,3006,3007,3008,1004,9,1010] ha hs λa w ha hs hH=>?_
    have hC:=hH.at w ⟨hs.rdAll,hs.rdAll⟩
    refine RH 2 ha hs hH hC λa ha=>?_
    refine QH ha (λw hc=>ld1 ha (hc.1 1 _ rfl)) hC λa ha=>?_
    rw[han]at ha
    refine RH 1 ha hs hH hC λa ha=>?_
    refine QH ha (λw hc=>ld1 ha (ints_at hc.2 hanl)) hC λa ha=>?_
    refine QH ha (λw hc=>ld1 ha (hc.1 2 _ rfl)) hC λa ha=>?_
    rw[hbn]at ha
    refine RH 1 ha hs hH hC λa ha=>?_
    refine QH ha (λw hc=>ld1 ha (ints_at hc.2 hbnl)) hC λa ha=>?_
    refine RH 0 ha hs hH hC λa ha=>?_
    refine CL 0 ha hs (refMod_spec hs (hgo _ hanl)) λa w ha hs=>?_
    replace hC:=hH.at w ⟨hs.rdAll,hs.rdAll⟩
    refine RH 1 ha hs hH hC λa ha=>?_
    refine ST 0 ha hs (λa w ha hs=>?_) (hlt:=(by rw[ints_len];omega))
    rw[ints_set,show (λi=>if i=mod32 (g' an) then g' bn else g' i)=upd g' (mod32 (g' an)) (g' bn) from rfl]at hs
    refine RN 0 ha hs λa ha=>?_
    have hone:oneI p fr b g' at' o=(upd g' (mod32 (g' an)) (g' bn),at'+1,true):=by
      rw[oneI,if_neg (by omega),if_neg (by omega),if_neg (by omega),if_pos hc10,han,Int.toNat_natCast,hbn,Int.toNat_natCast]
    rw[hone]at hst
    exact⟨200-(n+1),by omega,n+1,at'+1,upd g' (mod32 (g' an)) (g' bn),⟨rfl,by omega,by omega,upd_ok hgo (hgo _ hbnl),hst.symm⟩,ha.keep [2,3,4,5,8,10,11,12],hs.sub⟩
   refine IF 3 ha hs (λhc11 a ha=>?_) λhc11 a ha=>?_
   ·
    refine RN 1 ha hs λa ha=>?_
    obtain⟨an,han,hanl⟩:=hac (by omega) (by omega)
    obtain⟨bn,hbn,hbnl⟩:=hbc (by omega) (by omega) (by omega) (by omega) (by omega)
    have hgb:=hgo _ hbnl
    have hgb2:=hgb
    simp only[i32P]at hgb2
    refine RN 5 ha hs λa ha=>?_
    rw[hbn]at ha
    refine RN 1 ha hs λa ha=>?_
    refine SS ha (ld1 ha ((ints_at hs.rdAll hbnl))) λa ha=>?_
    refine BY 2 ha hs (λhg5 a ha=>?_) λhg5 a ha=>?_
    ·
     refine RN 2 ha hs λa ha=>?_
     rw[hbn]at ha
     refine RN 1 ha hs λa ha=>?_
     refine st_set ha (wgT ha rfl (s:=136)) (ld1 ha ((ints_at hs.rdAll hbnl))) rfl λa ha=>?_
     refine SX 0 ha hs (wrap_in (by omega) (by omega)) λa ha=>?_
     refine IF 4 ha hs (λhc12 a ha=>?_) λhc12 a ha=>?_
     ·
      obtain⟨rn,hrn⟩:∃ rn:Nat,g' bn=rn:=⟨(g' bn).toNat,by omega⟩
      obtain⟨bT,oT,rfl,hrT⟩:=hs.slRd adT (by omega)
      obtain⟨xr,hxr⟩:∃ xr,(runesAt p.title 0)[rn]?=some xr:=⟨_,List.getElem?_eq_getElem (by omega)⟩
      refine RN 3 ha hs λa ha=>?_
      rw[hbn]at ha
      refine RN 1 ha hs λa ha=>?_
      refine SS ha (ld1 ha ((ints_at hs.rdAll hbnl))) λa ha=>?_
      rw[hrn]at ha
      refine RN 1 ha hs λa ha=>?_
      refine SS ha (ld1 ha ((hrT rn _ (RI_at hxr)))) λa ha=>?_
      refine RN 1 ha hs λa ha=>?_
      have hri:runeI p.title (g' bn)=xr.1:=by rw[runeI,if_pos (by omega),hrn,Int.toNat_natCast,hxr];rfl
      rw[← hri]at ha
      refine RN 2 ha hs λa ha=>?_
      rw[han]at ha
      refine ST 2 ha hs (λa w ha hs=>?_) (hlt:=(by rw[ints_len];omega))
      rw[ints_set,show (λi=>if i=an then runeI p.title (g' bn) else g' i)=upd g' an (runeI p.title (g' bn)) from rfl]at hs
      refine RN 0 ha hs λa ha=>?_
      have hone:oneI p fr b g' at' o=(upd g' an (runeI p.title (g' bn)),at'+1,true):=by
        rw[oneI,if_neg (by omega),if_neg (by omega),if_neg (by omega),if_neg (by omega),han,Int.toNat_natCast,valI,if_neg (by omega),if_neg (by omega),if_neg (by omega),if_neg (by omega),if_pos hc11,hbn,Int.toNat_natCast]
      rw[hone]at hst
      exact⟨200-(n+1),by omega,n+1,at'+1,upd g' an (runeI p.title (g' bn)),⟨rfl,by omega,by omega,upd_ok hgo (runeI_ok _ _),hst.symm⟩,ha.keep [2,3,4,5,8,10,11,12],hs.sub⟩
     refine RN 0 ha hs λa ha=>?_
     have hri0:True:=trivial
     refine RN 2 ha hs λa ha=>?_
     rw[han]at ha
     refine ST 2 ha hs (λa w ha hs=>?_) (hlt:=(by rw[ints_len];omega))
     rw[ints_set,show (λi=>if i=an then 0 else g' i)=upd g' an 0 from rfl]at hs
     refine RN 0 ha hs λa ha=>?_
     have hone:oneI p fr b g' at' o=(upd g' an 0,at'+1,true):=by
       rw[oneI,if_neg (by omega),if_neg (by omega),if_neg (by omega),if_neg (by omega),han,Int.toNat_natCast,valI,if_neg (by omega),if_neg (by omega),if_neg (by omega),if_neg (by omega),if_pos hc11,hbn,Int.toNat_natCast,runeI,if_pos (by omega),List.getElem?_eq_none (by omega)];rfl
     rw[hone]at hst
     exact⟨200-(n+1),by omega,n+1,at'+1,upd g' an 0,⟨rfl,by omega,by omega,upd_ok hgo (by simp[i32P]),hst.symm⟩,ha.keep [2,3,4,5,8,10,11,12],hs.sub⟩
    refine RN 12 ha hs λa ha=>?_
    rw[han]at ha
    refine ST 2 ha hs (λa w ha hs=>?_) (hlt:=(by rw[ints_len];omega))
    rw[ints_set,show (λi=>if i=an then 0 else g' i)=upd g' an 0 from rfl]at hs
    refine RN 0 ha hs λa ha=>?_
    have hone:oneI p fr b g' at' o=(upd g' an 0,at'+1,true):=by
      rw[oneI,if_neg (by omega),if_neg (by omega),if_neg (by omega),if_neg (by omega),han,Int.toNat_natCast,valI,if_neg (by omega),if_neg (by omega),if_neg (by omega),if_neg (by omega),if_pos hc11,hbn,Int.toNat_natCast,runeI,if_neg (by omega)]
    rw[hone]at hst
    exact⟨200-(n+1),by omega,n+1,at'+1,upd g' an 0,⟨rfl,by omega,by omega,upd_ok hgo (by simp[i32P]),hst.symm⟩,ha.keep [2,3,4,5,8,10,11,12],hs.sub⟩
   refine IF 3 ha hs (λhc13 a ha=>?_) λhc13 a ha=>?_
   ·
    refine RN 0 ha hs λa ha=>?_
    obtain⟨an,han,hanl⟩:=hac (by omega) (by omega)
    refine DWC 0 (λw0 w'=>Rd w' b14 0 (opR o)∧Rd w' b5 0 (ints .i32 32 g')) [3] [0,2,3001,1003,4,1005] ha hs λa w ha hs hH=>?_
    have hC:=hH.at w ⟨hs.rdAll,hs.rdAll⟩
    refine RH 2 ha hs hH hC λa ha=>?_
    refine QH ha (λw hc=>ld1 ha (hc.1 1 _ rfl)) hC λa ha=>?_
    rw[han]at ha
    refine RH 0 ha hs hH hC λa ha=>?_
    refine CL 0 ha hs (refRound_spec hs (by omega) (by omega)) λa w ha hs=>?_
    replace hC:=hH.at w ⟨hs.rdAll,hs.rdAll⟩
    refine RH 1 ha hs hH hC λa ha=>?_
    refine ST 0 ha hs (λa w ha hs=>?_) (hlt:=(by rw[ints_len];omega))
    rw[ints_set,show (λi=>if i=an then w32 fr else g' i)=upd g' (an) (w32 fr) from rfl]at hs
    refine RN 0 ha hs λa ha=>?_
    have hone:oneI p fr b g' at' o=(upd g' (an) (w32 fr),at'+1,true):=by
      rw[oneI,if_neg (by omega),if_neg (by omega),if_neg (by omega),if_neg (by omega),han,Int.toNat_natCast,valI,if_neg (by omega),if_neg (by omega),if_neg (by omega),if_neg (by omega),if_neg (by omega),if_pos hc13]
    rw[hone]at hst
    exact⟨200-(n+1),by omega,n+1,at'+1,upd g' (an) (w32 fr),⟨rfl,by omega,by omega,upd_ok hgo (w32_in _),hst.symm⟩,ha.keep [2,3,4,5,8,10,11,12],hs.sub⟩
   refine RN 0 ha hs λa ha=>?_
   obtain⟨an,han,hanl⟩:=hac (by omega) (by omega)
   obtain⟨bn,hbn,hbnl⟩:=hbc (by omega) (by omega) (by omega) (by omega) (by omega)
   obtain⟨cn,hcn,hcnl⟩:=hcr (by omega) (by omega) (by omega) (by omega) (by omega) (by omega) (by omega) (by omega) (by omega) (by omega)
   refine DWC 0 (λw0 w'=>Rd w' b14 0 (opR o)∧Rd w' b5 0 (ints .i32 32 g')) [3,5,6,7,9,10,11,12] [0,2,4,8,3001,3003,3005,3006,3007,1009,1010,1011,1012,13,1014] ha hs λa w ha hs hH=>?_
   have hC:=hH.at w ⟨hs.rdAll,hs.rdAll⟩
   refine RH 4 ha hs hH hC λa ha=>?_
   refine QH ha (λw hc=>ld1 ha (hc.1 1 _ rfl)) hC λa ha=>?_
   rw[han]at ha
   refine RH 0 ha hs hH hC λa ha=>?_
   refine QH ha (λw hc=>ld1 ha (hc.1 0 _ rfl)) hC λa ha=>?_
   refine QH ha (λw hc=>ld1 ha (hc.1 2 _ rfl)) hC λa ha=>?_
   rw[hbn]at ha
   refine RH 1 ha hs hH hC λa ha=>?_
   refine QH ha (λw hc=>ld1 ha (ints_at hc.2 hbnl)) hC λa ha=>?_
   refine RH 0 ha hs hH hC λa ha=>?_
   refine SS ha (ld1 ha (hC.1 3 _ rfl)) λa ha=>?_
   rw[hcn]at ha
   refine RH 1 ha hs hH hC λa ha=>?_
   refine SS ha (ld1 ha (ints_at hC.2 hcnl)) λa ha=>?_
   refine RH 0 ha hs hH hC λa ha=>?_
   refine CL 0 ha hs (reckon_spec hs (hgo _ hbnl) (hgo _ hcnl)) λa w ha hs=>?_
   replace hC:=hH.at w ⟨hs.rdAll,hs.rdAll⟩
   refine RH 1 ha hs hH hC λa ha=>?_
   refine ST 0 ha hs (λa w ha hs=>?_) (hlt:=(by rw[ints_len];omega))
   rw[ints_set,show (λi=>if i=an then sumI o.code (g' bn) (g' cn) else g' i)=upd g' (an) (sumI o.code (g' bn) (g' cn)) from rfl]at hs
   refine RN 0 ha hs λa ha=>?_
   have hone:oneI p fr b g' at' o=(upd g' (an) (sumI o.code (g' bn) (g' cn)),at'+1,true):=by
     rw[oneI,if_neg (by omega),if_neg (by omega),if_neg (by omega),if_neg (by omega),han,Int.toNat_natCast,valI,if_neg (by omega),if_neg (by omega),if_neg (by omega),if_neg (by omega),if_neg (by omega),if_neg (by omega),hbn,Int.toNat_natCast,hcn,Int.toNat_natCast]
   rw[hone]at hst
   exact⟨200-(n+1),by omega,n+1,at'+1,upd g' (an) (sumI o.code (g' bn) (g' cn)),⟨rfl,by omega,by omega,upd_ok hgo (sumI_ok _ _ _),hst.symm⟩,ha.keep [2,3,4,5,8,10,11,12],hs.sub⟩
  refine SA 3 ha hs λa w ha hs=>?_
  refine RT 1 ha hs ?_
  rw[runI_end (by omega)]at hru
  exact⟨_,by rw[← hru],by rw[← hru];exact hgo,hs.sub⟩
 refine SA 10 ha hs λa w ha hs=>?_
 refine RT 1 ha hs ?_
 rw[show 200-n=0 from by omega]at hru
 exact⟨_,by rw[← hru];rfl,by rw[← hru];exact hgo,hs.sub⟩
end
end
section
section
variable {P:Program}{a:Act}{w:World}{n:Nat}{l:List (Nat×Value)}
theorem ex_neqS {x y i j t u dst ty ps af g}(ha:Fr a n l)[e:Ev l x (.string i)][f:Ev l y (.string j)] :
   (execOp a.eval ⟨dst,.binOp .neq t x y u,ty,ps,af,g⟩).run P w=.ok (.value (.bool (!(i.data.toList==j.data.toList)))) w:=by
 simp[execOp,e.ev a n ha,f.ev a n ha,eqGuard,binOp,Op.stringOp,ByteArray.toList_eq]
end
end
section
def ArgInts (k:IntKind)(w:World)(a:Option Addr)(len cap:Nat)(zs:List Int):Prop :=
 (a=none∧len=0∧cap=0∧zs=[]) ∨
 ∃ x,a=some x∧len≤cap∧cap≤maxLen∧zs.length=cap∧(∀ i,i<zs.length→w.cell? (x.add i)=some (.int k (zs.getD i 0)))∧∀ n∈zs,(Lit.int k n).wf=true
theorem cell_spot {w:World}{x:Addr}{v:Value}(h:w.cell? x=some v):x=⟨x.block,x.off,none⟩∧x.block<w.heap.size:=by
 refine⟨?_,World.block_lt_of_cell? _ _ h⟩
 obtain⟨b,o,s⟩:=x
 cases s with
 | none=>rfl
 | some s =>
   simp only[World.cell?]at h
   split at h <;> simp at h
theorem ArgInts.get {k:IntKind}{w:World}{a:Option Addr}{len cap:Nat}{zs:List Int}(h:ArgInts k w a len cap zs)(h0:0<len) :
   ∃ b off,a=some ⟨b,off,none⟩∧b<w.heap.size∧len≤zs.length∧∀ i,i<zs.length→w.cell? ⟨b,off+i*1,none⟩=some (.int k (zs.getD i 0)):=by
 rcases h with ⟨_,h,_,_⟩ | ⟨x,rfl,h1,h2,h3,h4,h5⟩
 · omega
 · have h6:=h4 0 (by omega)
   have h7:x.add 0=x:=by simp[Addr.add]
   rw[h7]at h6
   obtain⟨h8,h9⟩:=cell_spot h6
   refine⟨x.block,x.off,by rw[← h8],h9,by omega,λi hi=>?_⟩
   have:=h4 i hi
   rw[h8,add_off]at this
   rw[Nat.mul_one];exact this
theorem ArgInts.len_le {k:IntKind}{w:World}{a:Option Addr}{len cap:Nat}{zs:List Int}(h:ArgInts k w a len cap zs):len≤zs.length∧len≤9223372036854775807:=by
 rcases h with ⟨_,rfl,_,rfl⟩ | ⟨x,rfl,h1,h2,h3,h4,h5⟩
 · simp
 · unfold maxLen at h2;omega
theorem ArgInts.vals {k:IntKind}{W:World}{a:Option Addr}{len cap:Nat}{z:List Int}(h:ArgInts k W a len cap z):∃ zs:List Int,zs.length=len∧(∀ n∈zs,(Lit.int k n).wf=true) ∧
   ∀ w L,St W w L→len=0∨∃ b off,a=some ⟨b,off,none⟩∧b<W.heap.size∧Rd w b off (zs.map (.int k)):=by
 have hl:=h.len_le
 have hz:∀ n∈z,(Lit.int k n).wf=true:=by
   rcases h with ⟨_,_,_,rfl⟩ | ⟨x,_,_,_,_,_,hw⟩
   · intro n hn;cases hn
   · exact hw
 refine⟨z.take len,by simp;omega,λn hn=>hz n (List.mem_of_mem_take hn),λw L hs=>?_⟩
 rcases Nat.eq_zero_or_pos len with h0 | h0
 · exact .inl h0
 · right
   obtain⟨b,off,rfl,hb,h2,h3⟩:=h.get h0
   refine⟨b,off,rfl,hb,λj v hj=>?_⟩
   rw[hs.old hb]
   simp only[List.getElem?_map,List.getElem?_take]at hj
   by_cases hjl:j<len
   · rw[if_pos hjl,List.getElem?_eq_getElem (by omega)]at hj
     have:=h3 j (by omega)
     rw[Nat.mul_one]at this
     rw[this,← hj]
     simp[List.getD_eq_getElem?_getD,List.getElem?_eq_getElem (show j<z.length by omega)]
   · rw[if_neg hjl]at hj;cases hj
end
section
theorem u8of {x:Int}(h:(Lit.int .u8 x).wf=true):x=((UInt8.ofNat x.toNat).toNat:Int):=by
 have hr:=(Lit.wf_int_iff .u8 x).1 h
 have h1:IntKind.u8.min=0:=by decide
 have h2:IntKind.u8.max=255:=by decide
 rw[h1,h2]at hr
 rw[UInt8.toNat_ofNat']
 omega
theorem ArgInts.bytesB {W:World}{a:Option Addr}{len cap:Nat}{z:List Int}(h:ArgInts .u8 W a len cap z):∃ bs:List UInt8,bs.length=len∧RdB W a len bs:=by
 refine⟨(z.take len).map (λn=>UInt8.ofNat n.toNat),?_,?_⟩
 · have:=h.len_le;simp;omega
 · have hl:=h.len_le
   have hz:∀ n∈z,(Lit.int .u8 n).wf=true:=by
     rcases h with ⟨_,_,_,rfl⟩ | ⟨x,_,_,_,_,_,hw⟩
     · intro n hn;cases hn
     · exact hw
   refine⟨by simp;omega,λe=>?_,λx hx hp=>?_⟩
   · rcases h with ⟨_,h,_,_⟩ | ⟨x,rfl,_⟩
     · exact h
     · cases e
   · obtain⟨b,off,rfl,hb,_,hc⟩:=h.get hp
     refine⟨b,off,by cases hx;rfl,λj v hj=>?_⟩
     have hj2:=(List.getElem?_eq_some_iff.1 hj).1
     rw[bc_len,List.length_map,List.length_take]at hj2
     have:=hc j (by omega)
     rw[Nat.mul_one]at this
     rw[this,← hj]
     have hzj:z.getD j 0∈z:=by rw[List.getD_eq_getElem?_getD,List.getElem?_eq_getElem (by omega),Option.getD_some];exact List.getElem_mem _
     have hw:=hz _ hzj
     have hu:=u8of hw
     simp only[bc,List.getElem?_map,List.getElem?_take]
     rw[if_pos (by omega),List.getElem?_eq_getElem (by omega)]
     simp only[Option.map_some]
     have hd:z.getD j 0=z[j]'(by omega):=by rw[List.getD_eq_getElem?_getD,List.getElem?_eq_getElem (by omega),Option.getD_some]
     rw[hd]at hu ⊢
     exact congrArg (λz=>some (Value.int .u8 z)) hu
abbrev BBBx:=Option Addr×Nat×List BBx
end
section
section
theorem alikeP_iff {u v:List (List UInt8)}:alikeP u v=true↔u.take (min u.length v.length)=v.take (min u.length v.length):=by simp[alikeP]
end
end
section
abbrev Kx:=Wk×Nat
def ownK (p:Pr)(adO:Option Addr)(cO tq jq sq:Nat)(x:Kx):SP:=blk x.2 188 (wkC p adO cO tq jq sq x.1)
def ptrs (ks:List Kx):List Value:=ks.map λx=>pt x.2
theorem ptrs_at {ks:List Kx}{i:Nat}{k:Wk}{wb:Nat}(h:ks[i]?=some (k,wb)):(ptrs ks)[i]?=some (pt wb):=by rw[ptrs,List.getElem?_map,h];rfl
theorem ptrs_set {ks:List Kx}{i:Nat}{k k':Wk}{wb:Nat}(h:ks[i]?=some (k,wb)):ptrs (ks.set i (k',wb))=ptrs ks:=by
 have hi:=(List.getElem?_eq_some_iff.1 h).1
 apply List.ext_getElem?
 intro j
 simp only[ptrs,List.getElem?_map,List.getElem?_set]
 by_cases hj:i=j
 · subst hj;rw[if_pos rfl,if_pos hi,h];rfl
 · rw[if_neg hj]
theorem fst_set {ks:List Kx}{i:Nat}{k k':Wk}{wb:Nat}(h:ks[i]?=some (k,wb)):(ks.map (·.1)).Perm (k::(ks.eraseIdx i).map (·.1))∧((ks.set i (k',wb)).map (·.1)).Perm (k'::(ks.eraseIdx i).map (·.1)):=by
 obtain⟨hi,he⟩:=List.getElem?_eq_some_iff.1 h
 have h1:=(erase_perm ks hi).map (·.1)
 rw[List.map_cons,he]at h1
 have h2:=(erase_perm (ks.set i (k',wb)) (by simpa using hi)).map (·.1)
 rw[List.map_cons,List.getElem_set_self,List.eraseIdx_set_eq]at h2
 exact⟨h1,h2⟩
section
variable {W w:World}{L:List SP}{tq jq sq r wb i cO n base:Nat}{adO:Option Addr}{A:Sn}{T:Tr}{J:Js}{k:Wk}{p:Pr}{x:Br}{px:Pic}{ks:List Kx}{t:Nat→Nat}
theorem St.ownOut (hs:St W w (All (ownK p adO cO tq jq sq) ks::L))(hk:ks[i]?=some (k,wb)):St W w (blk wb 188 (wkC p adO cO tq jq sq k)::All (ownK p adO cO tq jq sq) (ks.eraseIdx i)::L):=by
 obtain⟨hi,he⟩:=List.getElem?_eq_some_iff.1 hk
 have:=hs.allOut hi
 rw[he]at this
 exact this
theorem St.ownIn {k':Wk}(hs:St W w (blk wb 188 (wkC p adO cO tq jq sq k')::All (ownK p adO cO tq jq sq) (ks.eraseIdx i)::L))(hk:ks[i]?=some (k,wb)):St W w (All (ownK p adO cO tq jq sq) (ks.set i (k',wb))::L) :=
 St.allPut (f:=ownK p adO cO tq jq sq) (x:=(k',wb)) (List.getElem?_eq_some_iff.1 hk).1 hs
theorem shop_step {F:Int}{g0:Nat→Int}(hs:St W w (All (ownK p adO cO tq jq sq) ks::Tree tq sq T::Store sq r A::Jobs jq J::RoP W p adO cO::L))(hk:ks[i]?=some (k,wb))(hI:Inv p F g0 t base A T (ks.map (·.1)))
   (hF:0≤F∧F≤1099511627776) (hp:prOk p) (hz:p.title.size≤1000000000) (hn:A.n+1<1099511627776) (hJ:J.length≤16) :
   Calls Tryz.prog 57 #[pt wb] w λe w'=>∃ (z:Bool) (A':Sn) (T':Tr) (J':Js) (k':Wk),e=.returned (.bool z)∧(Bit p A T J k z A' T' J' k'∧Inv p F g0 t base A' T' ((ks.set i (k',wb)).map (·.1))∧Near A T J A' T' J') ∧
     St W w' (All (ownK p adO cO tq jq sq) (ks.set i (k',wb))::Tree tq sq T'::Store sq r A'::Jobs jq J'::RoP W p adO cO::L):=by
 have hA:=(Store.facts (hs.store sq)).1
 have hT:=Tree.wt (hs.tree tq)
 have hmem:k∈ks.map (·.1):=List.mem_map.2 ⟨_,List.mem_of_getElem? hk,rfl⟩
 have h1:=hs.ownOut hk
 refine (step_bit (L:=All (ownK p adO cO tq jq sq) (ks.eraseIdx i)::L) (h1.sub (M:=blk wb 188 (wkC p adO cO tq jq sq k)::Tree tq sq T::Store sq r A::Jobs jq J::RoP W p adO cO::All (ownK p adO cO tq jq sq) (ks.eraseIdx i)::L)) (hI.ready hmem hF hp hz hn hJ)).mono λe w' ⟨z,A',T',J',k',he,hb,hs⟩=>?_
 refine⟨z,A',T',J',k',he,⟨hb,((hI.permW (fst_set (k':=k') hk).1).bit hA hT hb).permW (fst_set (k':=k') hk).2.symm,hb.near⟩,?_⟩
 have h2:=St.ownIn (i:=i) (ks:=ks) (k:=k) (k':=k') (hs.sub (M:=blk wb 188 (wkC p adO cO tq jq sq k')::All (ownK p adO cO tq jq sq) (ks.eraseIdx i)::Tree tq sq T'::Store sq r A'::Jobs jq J'::RoP W p adO cO::L)) hk
 exact h2
theorem shop_rest {F:Int}{g0:Nat→Int}(hs:St W w (All (ownK p adO cO tq jq sq) ks::Store sq r A::L))(hk:ks[i]?=some (k,wb))(hI:Inv p F g0 t base A T (ks.map (·.1))) :
   Calls Tryz.prog 128 #[pt wb] w λe w'=>∃ (A':Sn) (k':Wk),e=.returned (.bool k.busy)∧(k'.busy=false∧Inv p F g0 t base A' T ((ks.set i (k',wb)).map (·.1))∧A'.room=A.room∧A'.n=A.n) ∧
     St W w' (All (ownK p adO cO tq jq sq) (ks.set i (k',wb))::Store sq r A'::L):=by
 have hA:=(Store.facts (hs.store sq)).1
 have h1:=hs.ownOut hk
 cases hb:k.busy with
 | false =>
   refine (rest_idle h1 hb).mono λe w' ⟨he,hs⟩=>⟨A,k,he,⟨hb,(hI.permW (fst_set (k':=k) hk).1).permW (fst_set (k':=k) hk).2.symm,rfl,rfl⟩,?_⟩
   exact St.ownIn (i:=i) (ks:=ks) (k:=k) (k':=k) hs hk
 | true =>
   refine (rest_busy (L:=All (ownK p adO cO tq jq sq) (ks.eraseIdx i)::L) (h1.sub (M:=blk wb 188 (wkC p adO cO tq jq sq k)::Store sq r A::All (ownK p adO cO tq jq sq) (ks.eraseIdx i)::L)) hb).mono λe w' ⟨he,hs⟩=>?_
   refine⟨A.dropId k.x,{ k with busy:=false },he,⟨rfl,((hI.permW (fst_set (k':={ k with busy:=false }) hk).1).rest (k':={ k with busy:=false }) hA hb rfl rfl).permW (fst_set (k':={ k with busy:=false }) hk).2.symm,(dropId_same A _).1,(dropId_same A _).2.1⟩,?_⟩
   exact St.ownIn (i:=i) (ks:=ks) (k:=k) (k':={ k with busy:=false }) (hs.sub (M:=blk wb 188 (wkC p adO cO tq jq sq { k with busy:=false })::All (ownK p adO cO tq jq sq) (ks.eraseIdx i)::Store sq r (A.dropId k.x)::L)) hk
theorem worker_new (hs:St W w L):Calls Tryz.prog 51 #[.agg (prV p adO cO).toArray,pt tq,pt jq,pt sq] w λe w' =>
   ∃ wb,e=.returned (pt wb)∧St W w' (blk wb 188 (wkC p adO cO tq jq sq wk0)::L):=by
 refine EN Tryz.func51 Tryz.ntmps51 rfl rfl λa ha=>?_
 refine BX 1 ha hs λb4 a w ha hs=>?_
 change St W w (blk b4 34 (prV p adO cO)::_) at hs
 refine RN 3 ha hs λa ha=>?_
 change Fr a 15 ((9,.agg (List.toArray [.string p.title,.slice adO p.ops.length cO]))::_) at ha
 refine BX 4 ha hs λb14 a w ha hs=>?_
 change St W w (blk b14 188 (wkC p adO cO tq jq sq wk0)::_) at hs
 refine RT 1 ha hs ?_
 exact⟨b14,rfl,hs.sub⟩
theorem add_try {frm:Int}{ad2:Option Addr}{c2 id:Nat}{zs:List BBx}{P:List (List UInt8)}(hs:St W w (Tree tq sq T::Store sq r A::L))(hr:∀ w',St W w' L→RdX w' ad2 zs)(hz:zs.map (·.2.2)=P)(hc:P.length≤c2)(hok:OkP P)
   (hx:A.pics[i]?=some px) (hid:px.id=id) (hb:A.n+1<1099511627776) (hl:T.last+1<1099511627776) (hm:T.l.length<T.most) :
   Calls Tryz.prog 185 #[pt tq,.int .i64 frm,.int .i64 id,.slice ad2 P.length c2] w λe w'=>∃ (z:Nat) (ok:Bool),e=.returned (.tuple #[.int .i64 z,.bool ok]) ∧
     ((ok=false∧(P=[]∨∃ y∈T.l,y.is frm P)∧St W w' (Tree tq sq T::Store sq r A::L)) ∨
      (ok=true∧z=T.last+1∧P≠[]∧(∀ y∈T.l,¬ y.is frm P)∧St W w' (Tree tq sq (T.add frm P (A.last+1))::Store sq r (A.add px.g px.p)::L))):=by
 subst hid
 rcases Nat.eq_zero_or_pos P.length with h0 | h0
 · have hP:=List.eq_nil_of_length_eq_zero h0
   exact (add_full hs (.inr h0)).mono λe w' ⟨h1,hs⟩=>⟨0,false,h1,.inl ⟨rfl,.inl hP,hs⟩⟩
 · have hP:P≠[]:=List.length_pos_iff.1 h0
   by_cases hex:∃ y∈T.l,y.is frm P
   · obtain⟨y,hy,his⟩:=hex
     obtain⟨j,hj⟩:=List.mem_iff_getElem?.1 hy
     have hbb:∀ w',St W w' (Store sq r A::L)→RdBB w' ad2 P.length P:=λw' h=>by
       have:=(hr w' h.tail).bb
       rw[hz]at this
       rwa [show zs.length=P.length from by rw[← hz,List.length_map]]at this
     exact (add_dup hs hbb hc hok hj his).mono λe w' ⟨h1,hs⟩=>⟨0,false,h1,.inl ⟨rfl,.inr ⟨y,hy,his⟩,hs⟩⟩
   · have hno:∀ y∈T.l,¬ y.is frm P:=λy hy h=>hex ⟨y,hy,h⟩
     exact (add_ok hs hr hz hc hok hx hb hl hno hm h0).mono λe w' ⟨h1,hs⟩=>⟨T.last+1,true,h1,.inr ⟨rfl,rfl,hP,hno,hs⟩⟩
end
end
section
section
variable {W w:World}{L:List SP}{sq r i:Nat}{A:Sn}{px:Pic}
theorem snap_state_id {id:Nat}(hs:St W w (Store sq r A::L))(hx:A.pics[i]?=some px)(hid:px.id=id) :
   Calls Tryz.prog 65 #[pt sq,.int .i64 id] w λe w'=>e=.returned (.tuple #[.agg (ints .i32 32 px.g).toArray,.bool true])∧St W w' (Store sq r A::L):=by
 subst hid;exact snap_state hs hx
set_option maxHeartbeats 4000000 in
end
end
end Go.Proofs.YtdilfdkendjjhaaGreat
