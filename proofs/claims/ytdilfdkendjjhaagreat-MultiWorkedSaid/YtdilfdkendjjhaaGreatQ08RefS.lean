/- The references' frames: the walks. -/
import Derived.Test.YtdilfdkendjjhaaGreatQ07Wk
import Derived.Test.YtdilfdkendjjhaaGreatQ01Fast
import Derived.Laws.StructEq
import Derived.ChangeKeysEq
import Derived.Test.YtdilfdkendjjhaaGreatQ02Ty
import Derived.ProofKit
import Derived.Deep.Slices
import Derived.Deep.Strs
import Derived.ChangeSlices
import Derived.ChangeShapes
import Derived.DataShut
import Derived.Test.YtdilfdkendjjhaaGreatQ06Chk2
import Derived.Test.YtdilfdkendjjhaaGreatQ04Branch
import Derived.Test.YtdilfdkendjjhaaGreatQ05Job
import Derived.ChangeSame
namespace Go.Proofs.YtdilfdkendjjhaaGreat
open Go.RowKit
set_option linter.unusedVariables false
set_option linter.unusedSimpArgs false
set_option maxRecDepth 10000
set_option synthInstance.maxSize 4000
set_option synthInstance.maxHeartbeats 400000
section
theorem w32_eq {x y:Int}(h1:-2147483648≤y)(h2:y≤2147483647)(h3:x%4294967296=y%4294967296):w32 x=y:=by
 simp only[w32,IntKind.wrap,IntKind.signed,IntKind.bits]
 simp
 split <;> omega
section
variable {W w:World}{L:List SP}{p:Pr}{adO adP:Option Addr}{cO cP:Nat}{b:List UInt8}{g:Nat→Int}{fr:Int}
theorem refRound_spec {x:Int}(hs:St W w L)(h1:-9223372036854775808≤x)(h2:x≤9223372036854775807):Calls Tryz.prog 197 #[.int .i64 x] w λe w'=>e=.returned (.int .i32 (w32 x))∧St W w' L:=by
 have hq1:=Int.tmod_lt_of_pos x (b:=4294967296) (by decide)
 have hq2:=Int.lt_tmod_of_pos x (b:=4294967296) (by decide)
 have hq3:(x.tmod 4294967296)%4294967296=x%4294967296:=by
   rw[Int.tmod_eq_emod]
   split <;> omega
 refine EN Tryz.func197 Tryz.ntmps197 rfl rfl λa ha=>?_
 refine IF 10 ha hs (λhc0 a ha=>?_) λhc0 a ha=>?_
 ·
  refine IF 7 ha hs (λhc1 a ha=>?_) λhc1 a ha=>?_
  ·
   refine SX 5 ha hs (wrap32' (by omega) (by omega)) λa ha=>?_
   refine RT 1 ha hs ?_
   exact⟨by rw[w32_eq (y:=x.tmod 4294967296+4294967296-4294967296) (by omega) (by omega) (by omega)],hs⟩
  refine SX 2 ha hs (wrap32' (by omega) (by omega)) λa ha=>?_
  refine RT 1 ha hs ?_
  exact⟨by rw[w32_eq (y:=x.tmod 4294967296+4294967296) (by omega) (by omega) (by omega)],hs⟩
 refine IF 4 ha hs (λhc1 a ha=>?_) λhc1 a ha=>?_
 ·
  refine SX 5 ha hs (wrap32' (by omega) (by omega)) λa ha=>?_
  refine RT 1 ha hs ?_
  exact⟨by rw[w32_eq (y:=x.tmod 4294967296-4294967296) (by omega) (by omega) (by omega)],hs⟩
 refine SX 2 ha hs (wrap32' (by omega) (by omega)) λa ha=>?_
 refine RT 1 ha hs ?_
 exact⟨by rw[w32_eq (y:=x.tmod 4294967296) (by omega) (by omega) (by omega)],hs⟩
theorem refMod_spec {x:Int}(hs:St W w L)(hx:i32P x):Calls Tryz.prog 196 #[.int .i32 x,.int .i64 32] w λe w'=>e=.returned (.int .i64 (mod32 x))∧St W w' L:=by
 have h1:=Int.tmod_lt_of_pos x (b:=32) (by decide)
 have h2:=Int.lt_tmod_of_pos x (b:=32) (by decide)
 have hm:(mod32 x:Int)=x%32:=by
   have h1:=Int.emod_nonneg x (show (32:Int)≠0 by decide)
   show (((x%32).toNat:Nat):Int)=_
   omega
 have ht:x.tmod 32=if 0≤x then x%32 else -((-x)%32):=by
   split
   · exact Int.tmod_eq_emod_of_nonneg (by omega)
   · rw[← Int.neg_neg (x.tmod 32),← Int.neg_tmod,Int.tmod_eq_emod_of_nonneg (by omega)]
 simp only[i32P]at hx
 refine EN Tryz.func196 Tryz.ntmps196 rfl rfl λa ha=>?_
 refine RN 6 ha hs λa ha=>?_
 replace ha:=ha.isF 7
 refine SX 3 ha hs (wrap_in (by omega) (by omega)) λa ha=>?_
 refine IF 7 ha hs (λhc1 a ha=>?_) λhc1 a ha=>?_
 ·
  refine RN 4 ha hs λa ha=>?_
  rw[show x.tmod 32+32=(mod32 x:Int) from by rw[hm,ht];split <;> omega]at ha
  refine RT 3 ha hs ?_
  exact⟨rfl,hs⟩
 refine RT 3 ha hs ?_
 exact⟨by rw[hm,show x.tmod 32=x%32 from by rw[ht] at *;split at*<;> omega],hs⟩
theorem pressed_spec {x:Int}(hs:St W w L)(hx:i32P x)(hb:b.length≤1099511627776)(hp:∀ w',St W w' L→RdB w' adP b.length b) :
   Calls Tryz.prog 195 #[.slice adP b.length cP,.int .i32 x] w λe w'=>e=.returned (.int .i32 (pressI b x))∧St W w' L:=by
 simp only[i32P]at hx
 refine EN Tryz.func195 Tryz.ntmps195 rfl rfl λa ha=>?_
 refine BY 7 ha hs (λhg2 a ha=>?_) λhg2 a ha=>?_
 ·
  refine RT 9 ha hs ?_
  exact⟨by rw[pressI,if_neg (by omega)],hs⟩
 refine SX 1 ha hs (by rw[wrap_in (by omega) (by omega)]) λa ha=>?_
 refine IF 4 ha hs (λhc0 a ha=>?_) λhc0 a ha=>?_
 ·
  refine RT 2 ha hs ?_
  exact⟨by rw[pressI,if_neg (by omega)],hs⟩
 refine RN 1 ha hs λa ha=>?_
 obtain⟨k,hk⟩:∃ k:Nat,x=(k:Int):=⟨x.toNat,by omega⟩
 obtain⟨_,_,hpr⟩:=hp _ hs
 have hkb:k<b.length:=by omega
 obtain⟨bp,op,hade,hrd⟩:∃ bp op,adP=some ⟨bp,op,none⟩∧Rd w bp op (bc b):=by
   cases hh:adP with
   | none =>
     have:=(hp _ hs).2.1 hh
     omega
   | some a =>
     obtain⟨b1,o1,rfl,h1⟩:=hpr a hh (by omega)
     exact⟨b1,o1,rfl,h1⟩
 rw[hk]at ha
 refine RN 1 ha hs λa ha=>?_
 rw[hade]at ha
 refine RN 2 ha hs λa ha=>?_
 refine SS ha (ld1 ha (hrd k (.int .u8 b[k].toNat) (by simp[bc,hkb]))) λa ha=>?_
 refine SX 0 ha hs (by have:=b[k].toNat_lt;exact wrap32' (by omega) (by omega)) λa ha=>?_
 refine RT 1 ha hs ?_
 refine⟨?_,hs⟩
 rw[pressI,if_pos (by omega),hk,Int.toNat_natCast,List.getD_eq_getElem?_getD,List.getElem?_eq_getElem hkb];rfl
theorem refDiv_spec {x y:Int}(hs:St W w L)(hx:i32P x)(hy:i32P y):Calls Tryz.prog 238 #[.int .i32 x,.int .i32 y] w λe w'=>e=.returned (.int .i32 (if y=0 then 0 else w32 (x.tdiv y)))∧St W w' L:=by
 simp only[i32P]at hx hy
 have hq:y≠0 → -9223372036854775808≤x.tdiv y∧x.tdiv y≤9223372036854775807:=λh=>by
   have h1:(x.tdiv y).natAbs≤x.natAbs:=by rw[Int.natAbs_tdiv];exact Nat.div_le_self _ _
   omega
 refine EN Tryz.func238 Tryz.ntmps238 rfl rfl λa ha=>?_
 refine IF 6 ha hs (λhc0 a ha=>?_) λhc0 a ha=>?_
 ·
  refine RT 2 ha hs ?_
  exact⟨by rw[if_pos hc0],hs⟩
 refine SX 2 ha hs (wrap_in (by omega) (by omega)) λa ha=>?_
 refine SX 1 ha hs (wrap_in (by omega) (by omega)) λa ha=>?_
 refine RN 0 ha hs λa ha=>?_
 refine SS ha (ex_quoW ha (by omega)) λa ha=>?_
 rw[wrap_in (hq hc0).1 (hq hc0).2]at ha
 refine CL 0 ha hs (refRound_spec hs (hq hc0).1 (hq hc0).2) λa w ha hs=>?_
 refine RT 1 ha hs ?_
 exact⟨by rw[if_neg hc0],hs⟩
theorem reckon_spec {k x y:Int}(hs:St W w L)(hx:i32P x)(hy:i32P y):Calls Tryz.prog 198 #[.int .i64 k,.int .i32 x,.int .i32 y] w λe w'=>e=.returned (.int .i32 (sumI k x y))∧St W w' L:=by
 have hx2:=hx
 have hy2:=hy
 simp only[i32P]at hx2 hy2
 have hmul:-9223372036854775808≤x*y∧x*y≤9223372036854775807:=by
   have h1:(x*y).natAbs≤2147483648*2147483648:=by rw[Int.natAbs_mul];exact Nat.mul_le_mul (by omega) (by omega)
   omega
 refine EN Tryz.func198 Tryz.ntmps198 rfl rfl λa ha=>?_
 refine IF 10 ha hs (λhc0 a ha=>?_) λhc0 a ha=>?_
 ·
  refine SX 2 ha hs (wrap_in (by omega) (by omega)) λa ha=>?_
  refine SX 1 ha hs (wrap_in (by omega) (by omega)) λa ha=>?_
  refine CL 1 ha hs (refRound_spec hs (by omega) (by omega)) λa w ha hs=>?_
  refine RT 1 ha hs ?_
  exact⟨by simp[sumI,hc0],hs⟩
 refine IF 3 ha hs (λhc1 a ha=>?_) λhc1 a ha=>?_
 ·
  refine SX 2 ha hs (wrap_in (by omega) (by omega)) λa ha=>?_
  refine SX 1 ha hs (wrap_in (by omega) (by omega)) λa ha=>?_
  refine CL 1 ha hs (refRound_spec hs (by omega) (by omega)) λa w ha hs=>?_
  refine RT 1 ha hs ?_
  exact⟨by simp[sumI,hc1],hs⟩
 refine IF 3 ha hs (λhc2 a ha=>?_) λhc2 a ha=>?_
 ·
  refine SX 2 ha hs (wrap_in (by omega) (by omega)) λa ha=>?_
  refine SX 1 ha hs (wrap_in (by omega) (by omega)) λa ha=>?_
  refine SX 0 ha hs ⟨(by first | exact hmul.1 | exact hmul.2),(by first | exact hmul.1 | exact hmul.2)⟩ λa ha=>?_
  refine CL 0 ha hs (refRound_spec hs hmul.1 hmul.2) λa w ha hs=>?_
  refine RT 1 ha hs ?_
  exact⟨by simp[sumI,hc2],hs⟩
 refine IF 3 ha hs (λhc3 a ha=>?_) λhc3 a ha=>?_
 ·
  refine CL 3 ha hs (refDiv_spec hs hx hy) λa w ha hs=>?_
  refine RT 1 ha hs ?_
  exact⟨by simp[sumI,hc3],hs⟩
 refine IF 3 ha hs (λhc4 a ha=>?_) λhc4 a ha=>?_
 ·
  refine IF 7 ha hs (λhc5 a ha=>?_) λhc5 a ha=>?_
  ·
   refine RT 2 ha hs ?_
   exact⟨by simp[sumI,hc4,hc5],hs⟩
  refine RT 2 ha hs ?_
  exact⟨by simp[sumI,hc4];omega,hs⟩
 refine IF 7 ha hs (λhc5 a ha=>?_) λhc5 a ha=>?_
 ·
  refine RT 2 ha hs ?_
  exact⟨by simp[sumI,hc0,hc1,hc2,hc3,hc4,hc5],hs⟩
 refine RT 2 ha hs ?_
 exact⟨by simp[sumI,hc0,hc1,hc2,hc3,hc4];omega,hs⟩
theorem ints_at {w:World}{bx j:Nat}{g:Nat→Int}(h:Rd w bx 0 (ints .i32 32 g))(hj:j<32):w.cell? ⟨bx,j,none⟩=some (.int .i32 (g j)):=by
 have:=h j _ (ints_get g hj)
 rwa [Nat.zero_add]at this
theorem refStep_spec (hs:St W w (RoP W p adO cO::L))(hpr:prOk p)(hsz:p.title.size≤1000000000)(hg:gOk g)(hb:b.length≤1099511627776)(hf:-4611686018427387904≤fr∧fr≤4611686018427387904)(hp:∀ w',St W w' L→RdB w' adP b.length b) :
   Calls Tryz.prog 132 #[.agg (prV p adO cO).toArray,.agg (ints .i32 32 g).toArray,.int .i64 fr,.slice adP b.length cP] w λe w'=>∃ n:Int,e=.returned (.tuple #[.agg (ints .i32 32 (frameI p fr b g)).toArray,.int .i64 n])∧gOk (frameI p fr b g)∧St W w' (RoP W p adO cO::L):=by
 have hol:p.ops.length≤64:=hpr.1.2.2.1
 refine EN Tryz.func132 Tryz.ntmps132 rfl rfl λa ha=>?_
 refine BX 1 ha hs λb4 a w ha hs=>?_
 change St W w (blk b4 34 (prV p adO cO)::_) at hs
 refine BX 0 ha hs λb5 a w ha hs=>?_
 change St W w (blk b5 63 (ints .i32 32 g)::_) at hs
 refine AL 0 ha hs λb8 a w ha hs=>?_
 change St W w (blk b8 63 (ints .i32 32 (λ_=>0))::_) at hs
 refine CL1 4 ha hs (refFault_spec (hs.pick (RoP W p adO cO)) hsz (by omega)) λr a w ha ⟨hr,hs⟩=>?_
 obtain rfl:r = -1:=hr.2 hpr
 refine RN 1 ha hs λa ha=>?_
 rw[show decide ((-1:Int) ≠ -1)=false from rfl]at ha
 replace ha:=ha.isF 18
 refine CL2 7 ha hs (refRunes_spec hs hsz) λadT cT a w ha hs=>?_
 refine RN 6 ha hs λa ha=>?_
 refine wp_loop_ghost (λμ a w=>∃ (n at':Nat) (g':Nat→Int),(μ=200-n∧n≤200∧at'≤p.ops.length∧gOk g'∧runI p fr b (200-n) g' at'=frameI p fr b g)∧Fr a 166 [(2,.int .i64 fr),(3,.slice adP b.length cP),(4,pt b4),(5,pt b5),(8,pt b8),(10,.int .i64 at'),(11,.int .i64 n),(12,.slice adT (runesAt p.title 0).length cT)]∧St W w (blk b5 63 (ints .i32 32 g')::blk b4 34 (prV p adO cO)::blk b8 63 (ints .i32 32 (λ_=>0))::Sl 21 1 adT (runesAt p.title 0).length cT (RI (runesAt p.title 0))::RoP W p adO cO::L)) (200) (⟨0,0,g,⟨by simp,by simp,by simp,hg,rfl⟩,ha.keep [2,3,4,5,8,10,11,12],hs.sub⟩) ?_
 clear ha hs
 rintro μ a w ⟨n,at',g',⟨rfl,hn,hat,hgo,hru⟩,ha,hs⟩
 refine BY 5 ha hs (λhg2 a ha=>?_) λhg2 a ha=>?_
 ·
  refine IF 6 ha hs (λhc1 a ha=>?_) λhc1 a ha=>?_
  ·
   obtain⟨o,ho⟩:∃ o,p.ops[at']?=some o:=⟨_,List.getElem?_eq_getElem (by omega)⟩
   obtain⟨bo,oo,rfl,hro⟩:=hs.roRd adO (by omega)
   have hst:=runI_step (p:=p) (fr:=fr) (b:=b) (g:=g') (n:=200-(n+1)) ho
   rw[show 200-(n+1)+1=200-n from by omega,hru]at hst
   have hok:=hpr.2 o (List.mem_of_getElem? ho)
   have hop:=hok
   simp only[okOp,cellP]at hop
   have ha9:o.code=9→LeN o.a p.ops.length:=λh=>LeN.of (by omega)
   have hac:o.code≠9→o.code≠0→LtN o.a 32:=λh h2=>LtN.of (by omega)
   have hb10:o.code=10→LeN o.b p.ops.length:=λh=>LeN.of (by omega)
   have hbc:o.code≠1→o.code≠15→o.code≠9→o.code≠10→o.code≠0→LtN o.b 32:=λ_ _ _ _ _=>LtN.of (by omega)
   have hcr:o.code≠0→o.code≠1→o.code≠2→o.code≠9→o.code≠10→o.code≠11→o.code≠12→o.code≠13→o.code≠14→o.code≠15→LtN o.c 32:=λ_ _ _ _ _ _ _ _ _ _=>LtN.of (by omega)
   clear hop
   refine RN 5 ha hs λa ha=>?_
   refine SS ha (ex_loadN ha Tryz.underlying119 rfl Ty.t119 (op_rd hro ho)) λa ha=>?_
   refine AL 0 ha hs λb14 a w ha hs=>?_
   refine SA 0 ha hs λa w ha hs=>?_
   refine IF 14 ha hs (λhc2 a ha=>?_) λhc2 a ha=>?_
   ·
    refine SA 3 ha hs λa w ha hs=>?_
    refine RT 1 ha hs ?_
    rw[show oneI p fr b g' at' o=(g',at'+1,false) from by rw[oneI,if_pos hc2]]at hst
    refine⟨_,by rw[hst];rfl,?_,hs.sub⟩
    rw[hst];exact hgo
   refine IF 3 ha hs (λhc3 a ha=>?_) λhc3 a ha=>?_
   ·
    obtain⟨an,han,hanl⟩:=hac (by omega) (by omega)
    refine RN 2 ha hs λa ha=>?_
    rw[han]at ha
    refine RN 2 ha hs λa ha=>?_
    refine SS ha (ex_convII ha Tryz.underlying3 Tryz.underlying21) λa ha=>?_
    refine ST 1 ha hs (λa w ha hs=>?_) (hlt:=(by rw[ints_len];omega))
    rw[ints_set,show (λi=>if i=an then IntKind.i32.wrap o.b else g' i)=upd g' (an) (w32 o.b) from rfl]at hs
    refine RN 0 ha hs λa ha=>?_
    have hone:oneI p fr b g' at' o=(upd g' (an) (w32 o.b),at'+1,true):=by
      rw[oneI,if_neg (by omega),if_neg (by omega),if_neg (by omega),if_neg (by omega),han,Int.toNat_natCast,valI,if_pos hc3]
    rw[hone]at hst
    exact⟨200-(n+1),by omega,n+1,at'+1,upd g' (an) (w32 o.b),⟨rfl,by omega,by omega,upd_ok hgo (w32_in _),hst.symm⟩,ha.keep [2,3,4,5,8,10,11,12],hs.sub⟩
   refine IF 3 ha hs (λhc4 a ha=>?_) λhc4 a ha=>?_
   ·
    refine RN 0 ha hs λa ha=>?_
    obtain⟨an,han,hanl⟩:=hac (by omega) (by omega)
    obtain⟨bn,hbn,hbnl⟩:=hbc (by omega) (by omega) (by omega) (by omega) (by omega)
    refine DWC 0 (λw0 w'=>Rd w' b14 0 (opR o)∧Rd w' b5 0 (ints .i32 32 g')) [3,4,5] [0,2,3001,1003,1004,1005,6,1007] ha hs λa w ha hs hH=>?_
    have hC:=hH.at w ⟨hs.rdAll,hs.rdAll⟩
    refine RH 2 ha hs hH hC λa ha=>?_
    refine QH ha (λw hc=>ld1 ha (hc.1 1 _ rfl)) hC λa ha=>?_
    rw[han]at ha
    refine RH 0 ha hs hH hC λa ha=>?_
    refine SS ha (ld1 ha (hC.1 2 _ rfl)) λa ha=>?_
    rw[hbn]at ha
    refine RH 1 ha hs hH hC λa ha=>?_
    refine SS ha (ld1 ha (ints_at hC.2 hbnl)) λa ha=>?_
    refine RH 1 ha hs hH hC λa ha=>?_
    refine ST 0 ha hs (λa w ha hs=>?_) (hlt:=(by rw[ints_len];omega))
    rw[ints_set,show (λi=>if i=an then g' bn else g' i)=upd g' (an) (g' bn) from rfl]at hs
    refine RN 0 ha hs λa ha=>?_
    have hone:oneI p fr b g' at' o=(upd g' (an) (g' bn),at'+1,true):=by
      rw[oneI,if_neg (by omega),if_neg (by omega),if_neg (by omega),if_neg (by omega),han,Int.toNat_natCast,valI,if_neg (by omega),if_pos hc4,hbn,Int.toNat_natCast]
    rw[hone]at hst
    exact⟨200-(n+1),by omega,n+1,at'+1,upd g' (an) (g' bn),⟨rfl,by omega,by omega,upd_ok hgo (hgo _ hbnl),hst.symm⟩,ha.keep [2,3,4,5,8,10,11,12],hs.sub⟩
   refine IF 3 ha hs (λhc5 a ha=>?_) λhc5 a ha=>?_
   ·
    obtain⟨an,han,hanl⟩:=ha9 hc5
    refine RN 2 ha hs λa ha=>?_
    rw[han]at ha
    refine RN 1 ha hs λa ha=>?_
    have hone:oneI p fr b g' at' o=(g',an,true):=by
      rw[oneI,if_neg (by omega),if_pos hc5,han,Int.toNat_natCast]
    rw[hone]at hst
    exact⟨200-(n+1),by omega,n+1,an,g',⟨rfl,by omega,by omega,hgo,hst.symm⟩,ha.keep [2,3,4,5,8,10,11,12],hs.sub⟩
   refine IF 3 ha hs (λhc6 a ha=>?_) λhc6 a ha=>?_
   ·
    refine RN 1 ha hs λa ha=>?_
    obtain⟨an,han,hanl⟩:=hac (by omega) (by omega)
    refine RN 2 ha hs λa ha=>?_
    rw[han]at ha
    refine RN 1 ha hs λa ha=>?_
    refine SS ha (ld1 ha ((ints_at hs.rdAll hanl))) λa ha=>?_
    refine IF 1 ha hs (λhc7 a ha=>?_) λhc7 a ha=>?_
    ·
     obtain⟨bn,hbn,hbnl⟩:=hb10 hc6
     refine RN 2 ha hs λa ha=>?_
     rw[hbn]at ha
     refine RN 1 ha hs λa ha=>?_
     have hone:oneI p fr b g' at' o=(g',bn,true):=by
       rw[oneI,if_neg (by omega),if_neg (by omega),if_pos hc6,han,Int.toNat_natCast,if_pos hc7,hbn,Int.toNat_natCast]
     rw[hone]at hst
     exact⟨200-(n+1),by omega,n+1,bn,g',⟨rfl,by omega,by omega,hgo,hst.symm⟩,ha.keep [2,3,4,5,8,10,11,12],hs.sub⟩
    refine RN 0 ha hs λa ha=>?_
    have hone:oneI p fr b g' at' o=(g',at'+1,true):=by
      rw[oneI,if_neg (by omega),if_neg (by omega),if_pos hc6,han,Int.toNat_natCast,if_neg hc7]
    rw[hone]at hst
    exact⟨200-(n+1),by omega,n+1,at'+1,g',⟨rfl,by omega,by omega,hgo,hst.symm⟩,ha.keep [2,3,4,5,8,10,11,12],hs.sub⟩
   refine IF 3 ha hs (λhc8 a ha=>?_) λhc8 a ha=>?_
   ·
    refine RN 0 ha hs λa ha=>?_
    obtain⟨an,han,hanl⟩:=hac (by omega) (by omega)
    obtain⟨bn,hbn,hbnl⟩:=hbc (by omega) (by omega) (by omega) (by omega) (by omega)
    refine DWC 0 (λw0 w'=>Rd w' b14 0 (opR o)∧Rd w' b5 0 (ints .i32 32 g')) [4,5,6,7] [0,2,3,3001,1004,1005,1006,1007,8,1009] ha hs λa w ha hs hH=>?_
    have hC:=hH.at w ⟨hs.rdAll,hs.rdAll⟩
    refine RH 3 ha hs hH hC λa ha=>?_
    refine QH ha (λw hc=>ld1 ha (hc.1 1 _ rfl)) hC λa ha=>?_
    rw[han]at ha
    refine RH 0 ha hs hH hC λa ha=>?_
    refine SS ha (ld1 ha (hC.1 2 _ rfl)) λa ha=>?_
    rw[hbn]at ha
    refine RH 1 ha hs hH hC λa ha=>?_
    refine SS ha (ld1 ha (ints_at hC.2 hbnl)) λa ha=>?_
    refine RH 0 ha hs hH hC λa ha=>?_
    refine CL 0 ha hs (pressed_spec hs (hgo _ hbnl) hb (λw' h=>hp w' h.sub)) λa w ha hs=>?_
    replace hC:=hH.at w ⟨hs.rdAll,hs.rdAll⟩
    refine RH 1 ha hs hH hC λa ha=>?_
    refine ST 0 ha hs (λa w ha hs=>?_) (hlt:=(by rw[ints_len];omega))
    rw[ints_set,show (λi=>if i=an then pressI b (g' bn) else g' i)=upd g' (an) (pressI b (g' bn)) from rfl]at hs
    refine RN 0 ha hs λa ha=>?_
    have hone:oneI p fr b g' at' o=(upd g' (an) (pressI b (g' bn)),at'+1,true):=by
      rw[oneI,if_neg (by omega),if_neg (by omega),if_neg (by omega),if_neg (by omega),han,Int.toNat_natCast,valI,if_neg (by omega),if_neg (by omega),if_pos hc8,hbn,Int.toNat_natCast]
    rw[hone]at hst
    exact⟨200-(n+1),by omega,n+1,at'+1,upd g' (an) (pressI b (g' bn)),⟨rfl,by omega,by omega,upd_ok hgo (pressI_ok _ _),hst.symm⟩,ha.keep [2,3,4,5,8,10,11,12],hs.sub⟩
   refine IF 3 ha hs (λhc9 a ha=>?_) λhc9 a ha=>?_
   ·
    refine RN 0 ha hs λa ha=>?_
    obtain⟨an,han,hanl⟩:=hac (by omega) (by omega)
    obtain⟨bn,hbn,hbnl⟩:=hbc (by omega) (by omega) (by omega) (by omega) (by omega)
    have hm32:=mod32_lt (g' bn)
    refine DWC 0 (λw0 w'=>Rd w' b14 0 (opR o)∧Rd w' b5 0 (ints .i32 32 g')) [3,4,5,6,7,8] [0,2,3001,1003,1004,1005,1006,1007,1008,9,1010] ha hs λa w ha hs hH=>?_
    have hC:=hH.at w ⟨hs.rdAll,hs.rdAll⟩
    refine RH 2 ha hs hH hC λa ha=>?_
    refine QH ha (λw hc=>ld1 ha (hc.1 1 _ rfl)) hC λa ha=>?_
    rw[han]at ha
    refine RH 0 ha hs hH hC λa ha=>?_
    refine SS ha (ld1 ha (hC.1 2 _ rfl)) λa ha=>?_
    rw[hbn]at ha
    refine RH 1 ha hs hH hC λa ha=>?_
    refine SS ha (ld1 ha (ints_at hC.2 hbnl)) λa ha=>?_
    refine RH 0 ha hs hH hC λa ha=>?_
    refine CL 0 ha hs (refMod_spec hs (hgo _ hbnl)) λa w ha hs=>?_
    replace hC:=hH.at w ⟨hs.rdAll,hs.rdAll⟩
    refine RH 1 ha hs hH hC λa ha=>?_
    refine SS ha (ld1 ha (ints_at hC.2 hm32)) λa ha=>?_
    refine RH 1 ha hs hH hC λa ha=>?_
    refine ST 0 ha hs (λa w ha hs=>?_) (hlt:=(by rw[ints_len];omega))
    rw[ints_set,show (λi=>if i=an then g' (mod32 (g' bn)) else g' i)=upd g' (an) (g' (mod32 (g' bn))) from rfl]at hs
    refine RN 0 ha hs λa ha=>?_
    have hone:oneI p fr b g' at' o=(upd g' (an) (g' (mod32 (g' bn))),at'+1,true):=by
      rw[oneI,if_neg (by omega),if_neg (by omega),if_neg (by omega),if_neg (by omega),han,Int.toNat_natCast,valI,if_neg (by omega),if_neg (by omega),if_neg (by omega),if_pos hc9,hbn,Int.toNat_natCast]
    rw[hone]at hst
    exact⟨200-(n+1),by omega,n+1,at'+1,upd g' (an) (g' (mod32 (g' bn))),⟨rfl,by omega,by omega,upd_ok hgo (hgo _ hm32),hst.symm⟩,ha.keep [2,3,4,5,8,10,11,12],hs.sub⟩
   refine IF 3 ha hs (λhc10 a ha=>?_) λhc10 a ha=>?_
   ·
    refine RN 0 ha hs λa ha=>?_
    obtain⟨an,han,hanl⟩:=hac (by omega) (by omega)
    obtain⟨bn,hbn,hbnl⟩:=hbc (by omega) (by omega) (by omega) (by omega) (by omega)
    have hm32:=mod32_lt (g' an)
    refine DWC 0 (λw0 w'=>Rd w' b14 0 (opR o)∧Rd w' b5 0 (ints .i32 32 g')) [4,6,7,8] [0,5,3001,2,3003,3006,3007,3008,1004,9,1010] ha hs λa w ha hs hH=>?_
    have hC:=hH.at w ⟨hs.rdAll,hs.rdAll⟩
    refine RH 2 ha hs hH hC λa ha=>?_
    refine QH ha (λw hc=>ld1 ha (hc.1 1 _ rfl)) hC λa ha=>?_
    rw[han]at ha
    refine RH 1 ha hs hH hC λa ha=>?_
    refine QH ha (λw hc=>ld1 ha (ints_at hc.2 hanl)) hC λa ha=>?_
    refine QH ha (λw hc=>ld1 ha (hc.1 2 _ rfl)) hC λa ha=>?_
    rw[hbn]at ha
    refine RH 1 ha hs hH hC λa ha=>?_
    refine QH ha (λw hc=>ld1 ha (ints_at hc.2 hbnl)) hC λa ha=>?_
    refine RH 0 ha hs hH hC λa ha=>?_
    refine CL 0 ha hs (refMod_spec hs (hgo _ hanl)) λa w ha hs=>?_
    replace hC:=hH.at w ⟨hs.rdAll,hs.rdAll⟩
    refine RH 1 ha hs hH hC λa ha=>?_
    refine ST 0 ha hs (λa w ha hs=>?_) (hlt:=(by rw[ints_len];omega))
    rw[ints_set,show (λi=>if i=mod32 (g' an) then g' bn else g' i)=upd g' (mod32 (g' an)) (g' bn) from rfl]at hs
    refine RN 0 ha hs λa ha=>?_
    have hone:oneI p fr b g' at' o=(upd g' (mod32 (g' an)) (g' bn),at'+1,true):=by
      rw[oneI,if_neg (by omega),if_neg (by omega),if_neg (by omega),if_pos hc10,han,Int.toNat_natCast,hbn,Int.toNat_natCast]
    rw[hone]at hst
    exact⟨200-(n+1),by omega,n+1,at'+1,upd g' (mod32 (g' an)) (g' bn),⟨rfl,by omega,by omega,upd_ok hgo (hgo _ hbnl),hst.symm⟩,ha.keep [2,3,4,5,8,10,11,12],hs.sub⟩
   refine IF 3 ha hs (λhc11 a ha=>?_) λhc11 a ha=>?_
   ·
    refine RN 1 ha hs λa ha=>?_
    obtain⟨an,han,hanl⟩:=hac (by omega) (by omega)
    obtain⟨bn,hbn,hbnl⟩:=hbc (by omega) (by omega) (by omega) (by omega) (by omega)
    have hgb:=hgo _ hbnl
    have hgb2:=hgb
    simp only[i32P]at hgb2
    refine RN 5 ha hs λa ha=>?_
    rw[hbn]at ha
    refine RN 1 ha hs λa ha=>?_
    refine SS ha (ld1 ha ((ints_at hs.rdAll hbnl))) λa ha=>?_
    refine BY 2 ha hs (λhg5 a ha=>?_) λhg5 a ha=>?_
    ·
     refine RN 2 ha hs λa ha=>?_
     rw[hbn]at ha
     refine RN 1 ha hs λa ha=>?_
     refine st_set ha (wgT ha rfl (s:=136)) (ld1 ha ((ints_at hs.rdAll hbnl))) rfl λa ha=>?_
     refine SX 0 ha hs (wrap_in (by omega) (by omega)) λa ha=>?_
     refine IF 4 ha hs (λhc12 a ha=>?_) λhc12 a ha=>?_
     ·
      obtain⟨rn,hrn⟩:∃ rn:Nat,g' bn=rn:=⟨(g' bn).toNat,by omega⟩
      obtain⟨bT,oT,rfl,hrT⟩:=hs.slRd adT (by omega)
      obtain⟨xr,hxr⟩:∃ xr,(runesAt p.title 0)[rn]?=some xr:=⟨_,List.getElem?_eq_getElem (by omega)⟩
      refine RN 3 ha hs λa ha=>?_
      rw[hbn]at ha
      refine RN 1 ha hs λa ha=>?_
      refine SS ha (ld1 ha ((ints_at hs.rdAll hbnl))) λa ha=>?_
      rw[hrn]at ha
      refine RN 1 ha hs λa ha=>?_
      refine SS ha (ld1 ha ((hrT rn _ (RI_at hxr)))) λa ha=>?_
      refine RN 1 ha hs λa ha=>?_
      have hri:runeI p.title (g' bn)=xr.1:=by rw[runeI,if_pos (by omega),hrn,Int.toNat_natCast,hxr];rfl
      rw[← hri]at ha
      refine RN 2 ha hs λa ha=>?_
      rw[han]at ha
      refine ST 2 ha hs (λa w ha hs=>?_) (hlt:=(by rw[ints_len];omega))
      rw[ints_set,show (λi=>if i=an then runeI p.title (g' bn) else g' i)=upd g' an (runeI p.title (g' bn)) from rfl]at hs
      refine RN 0 ha hs λa ha=>?_
      have hone:oneI p fr b g' at' o=(upd g' an (runeI p.title (g' bn)),at'+1,true):=by
        rw[oneI,if_neg (by omega),if_neg (by omega),if_neg (by omega),if_neg (by omega),han,Int.toNat_natCast,valI,if_neg (by omega),if_neg (by omega),if_neg (by omega),if_neg (by omega),if_pos hc11,hbn,Int.toNat_natCast]
      rw[hone]at hst
      exact⟨200-(n+1),by omega,n+1,at'+1,upd g' an (runeI p.title (g' bn)),⟨rfl,by omega,by omega,upd_ok hgo (runeI_ok _ _),hst.symm⟩,ha.keep [2,3,4,5,8,10,11,12],hs.sub⟩
     refine RN 0 ha hs λa ha=>?_
     have hri0:True:=trivial
     refine RN 2 ha hs λa ha=>?_
     rw[han]at ha
     refine ST 2 ha hs (λa w ha hs=>?_) (hlt:=(by rw[ints_len];omega))
     rw[ints_set,show (λi=>if i=an then 0 else g' i)=upd g' an 0 from rfl]at hs
     refine RN 0 ha hs λa ha=>?_
     have hone:oneI p fr b g' at' o=(upd g' an 0,at'+1,true):=by
       rw[oneI,if_neg (by omega),if_neg (by omega),if_neg (by omega),if_neg (by omega),han,Int.toNat_natCast,valI,if_neg (by omega),if_neg (by omega),if_neg (by omega),if_neg (by omega),if_pos hc11,hbn,Int.toNat_natCast,runeI,if_pos (by omega),List.getElem?_eq_none (by omega)];rfl
     rw[hone]at hst
     exact⟨200-(n+1),by omega,n+1,at'+1,upd g' an 0,⟨rfl,by omega,by omega,upd_ok hgo (by simp[i32P]),hst.symm⟩,ha.keep [2,3,4,5,8,10,11,12],hs.sub⟩
    refine RN 12 ha hs λa ha=>?_
    rw[han]at ha
    refine ST 2 ha hs (λa w ha hs=>?_) (hlt:=(by rw[ints_len];omega))
    rw[ints_set,show (λi=>if i=an then 0 else g' i)=upd g' an 0 from rfl]at hs
    refine RN 0 ha hs λa ha=>?_
    have hone:oneI p fr b g' at' o=(upd g' an 0,at'+1,true):=by
      rw[oneI,if_neg (by omega),if_neg (by omega),if_neg (by omega),if_neg (by omega),han,Int.toNat_natCast,valI,if_neg (by omega),if_neg (by omega),if_neg (by omega),if_neg (by omega),if_pos hc11,hbn,Int.toNat_natCast,runeI,if_neg (by omega)]
    rw[hone]at hst
    exact⟨200-(n+1),by omega,n+1,at'+1,upd g' an 0,⟨rfl,by omega,by omega,upd_ok hgo (by simp[i32P]),hst.symm⟩,ha.keep [2,3,4,5,8,10,11,12],hs.sub⟩
   refine IF 3 ha hs (λhc13 a ha=>?_) λhc13 a ha=>?_
   ·
    refine RN 0 ha hs λa ha=>?_
    obtain⟨an,han,hanl⟩:=hac (by omega) (by omega)
    refine DWC 0 (λw0 w'=>Rd w' b14 0 (opR o)∧Rd w' b5 0 (ints .i32 32 g')) [3] [0,2,3001,1003,4,1005] ha hs λa w ha hs hH=>?_
    have hC:=hH.at w ⟨hs.rdAll,hs.rdAll⟩
    refine RH 2 ha hs hH hC λa ha=>?_
    refine QH ha (λw hc=>ld1 ha (hc.1 1 _ rfl)) hC λa ha=>?_
    rw[han]at ha
    refine RH 0 ha hs hH hC λa ha=>?_
    refine CL 0 ha hs (refRound_spec hs (by omega) (by omega)) λa w ha hs=>?_
    replace hC:=hH.at w ⟨hs.rdAll,hs.rdAll⟩
    refine RH 1 ha hs hH hC λa ha=>?_
    refine ST 0 ha hs (λa w ha hs=>?_) (hlt:=(by rw[ints_len];omega))
    rw[ints_set,show (λi=>if i=an then w32 fr else g' i)=upd g' (an) (w32 fr) from rfl]at hs
    refine RN 0 ha hs λa ha=>?_
    have hone:oneI p fr b g' at' o=(upd g' (an) (w32 fr),at'+1,true):=by
      rw[oneI,if_neg (by omega),if_neg (by omega),if_neg (by omega),if_neg (by omega),han,Int.toNat_natCast,valI,if_neg (by omega),if_neg (by omega),if_neg (by omega),if_neg (by omega),if_neg (by omega),if_pos hc13]
    rw[hone]at hst
    exact⟨200-(n+1),by omega,n+1,at'+1,upd g' (an) (w32 fr),⟨rfl,by omega,by omega,upd_ok hgo (w32_in _),hst.symm⟩,ha.keep [2,3,4,5,8,10,11,12],hs.sub⟩
   refine RN 0 ha hs λa ha=>?_
   obtain⟨an,han,hanl⟩:=hac (by omega) (by omega)
   obtain⟨bn,hbn,hbnl⟩:=hbc (by omega) (by omega) (by omega) (by omega) (by omega)
   obtain⟨cn,hcn,hcnl⟩:=hcr (by omega) (by omega) (by omega) (by omega) (by omega) (by omega) (by omega) (by omega) (by omega) (by omega)
   refine DWC 0 (λw0 w'=>Rd w' b14 0 (opR o)∧Rd w' b5 0 (ints .i32 32 g')) [3,5,6,7,9,10,11,12] [0,2,4,8,3001,3003,3005,3006,3007,1009,1010,1011,1012,13,1014] ha hs λa w ha hs hH=>?_
   have hC:=hH.at w ⟨hs.rdAll,hs.rdAll⟩
   refine RH 4 ha hs hH hC λa ha=>?_
   refine QH ha (λw hc=>ld1 ha (hc.1 1 _ rfl)) hC λa ha=>?_
   rw[han]at ha
   refine RH 0 ha hs hH hC λa ha=>?_
   refine QH ha (λw hc=>ld1 ha (hc.1 0 _ rfl)) hC λa ha=>?_
   refine QH ha (λw hc=>ld1 ha (hc.1 2 _ rfl)) hC λa ha=>?_
   rw[hbn]at ha
   refine RH 1 ha hs hH hC λa ha=>?_
   refine QH ha (λw hc=>ld1 ha (ints_at hc.2 hbnl)) hC λa ha=>?_
   refine RH 0 ha hs hH hC λa ha=>?_
   refine SS ha (ld1 ha (hC.1 3 _ rfl)) λa ha=>?_
   rw[hcn]at ha
   refine RH 1 ha hs hH hC λa ha=>?_
   refine SS ha (ld1 ha (ints_at hC.2 hcnl)) λa ha=>?_
   refine RH 0 ha hs hH hC λa ha=>?_
   refine CL 0 ha hs (reckon_spec hs (hgo _ hbnl) (hgo _ hcnl)) λa w ha hs=>?_
   replace hC:=hH.at w ⟨hs.rdAll,hs.rdAll⟩
   refine RH 1 ha hs hH hC λa ha=>?_
   refine ST 0 ha hs (λa w ha hs=>?_) (hlt:=(by rw[ints_len];omega))
   rw[ints_set,show (λi=>if i=an then sumI o.code (g' bn) (g' cn) else g' i)=upd g' (an) (sumI o.code (g' bn) (g' cn)) from rfl]at hs
   refine RN 0 ha hs λa ha=>?_
   have hone:oneI p fr b g' at' o=(upd g' (an) (sumI o.code (g' bn) (g' cn)),at'+1,true):=by
     rw[oneI,if_neg (by omega),if_neg (by omega),if_neg (by omega),if_neg (by omega),han,Int.toNat_natCast,valI,if_neg (by omega),if_neg (by omega),if_neg (by omega),if_neg (by omega),if_neg (by omega),if_neg (by omega),hbn,Int.toNat_natCast,hcn,Int.toNat_natCast]
   rw[hone]at hst
   exact⟨200-(n+1),by omega,n+1,at'+1,upd g' (an) (sumI o.code (g' bn) (g' cn)),⟨rfl,by omega,by omega,upd_ok hgo (sumI_ok _ _ _),hst.symm⟩,ha.keep [2,3,4,5,8,10,11,12],hs.sub⟩
  refine SA 3 ha hs λa w ha hs=>?_
  refine RT 1 ha hs ?_
  rw[runI_end (by omega)]at hru
  exact⟨_,by rw[← hru],by rw[← hru];exact hgo,hs.sub⟩
 refine SA 10 ha hs λa w ha hs=>?_
 refine RT 1 ha hs ?_
 rw[show 200-n=0 from by omega]at hru
 exact⟨_,by rw[← hru];rfl,by rw[← hru];exact hgo,hs.sub⟩
theorem refFold_spec {P:List (List UInt8)}{zs:List BBx}(hs:St W w (RoP W p adO cO::L))(hpr:prOk p)(hsz:p.title.size≤1000000000)(hg:gOk g)(hP:P.length≤65536∧∀ b∈P,b.length≤1099511627776)(hz:zs.map (·.2.2)=P)(hf:-1099511627776≤fr∧fr≤1099511627776)(hp:∀ w',St W w' L→RdX w' adP zs) :
   Calls Tryz.prog 66 #[.agg (prV p adO cO).toArray,.agg (ints .i32 32 g).toArray,.int .i64 fr,.slice adP P.length cP] w λe w'=>e=.returned (.agg (ints .i32 32 (foldI p fr g P)).toArray)∧gOk (foldI p fr g P)∧St W w' (RoP W p adO cO::L):=by
 have hzl:zs.length=P.length:=by rw[← hz,List.length_map]
 have hPl:=hP.1
 refine EN Tryz.func66 Tryz.ntmps66 rfl rfl λa ha=>?_
 refine BX 1 ha hs λb4 a w ha hs=>?_
 change St W w (blk b4 34 (prV p adO cO)::_) at hs
 refine BX 0 ha hs λb5 a w ha hs=>?_
 change St W w (blk b5 63 (ints .i32 32 g)::_) at hs
 refine AL 0 ha hs λb8 a w ha hs=>?_
 change St W w (blk b8 63 (ints .i32 32 (λ_=>0))::_) at hs
 refine RN 3 ha hs λa ha=>?_
 refine wp_loop_ghost (λμ a w=>∃ (i:Nat) (g':Nat→Int),(μ=P.length-i∧i≤P.length∧gOk g'∧foldI p fr g P=foldI p (fr+i) g' (P.drop i))∧Fr a 33 [(2,.int .i64 fr),(3,.slice adP P.length cP),(4,pt b4),(5,pt b5),(8,pt b8),(9,.int .i64 i)]∧St W w (blk b5 63 (ints .i32 32 g')::blk b4 34 (prV p adO cO)::blk b8 63 (ints .i32 32 (λ_=>0))::RoP W p adO cO::L)) (P.length) (⟨0,g,⟨by simp,by simp,hg,by simp⟩,ha.keep [2,3,4,5,8,9],hs.sub⟩) ?_
 clear ha hs
 rintro μ a w ⟨i,g',⟨rfl,hi,hgo,hfo⟩,ha,hs⟩
 refine IF 6 ha hs (λhc0 a ha=>?_) λhc0 a ha=>?_
 ·
  have hzi:zs[i]?=some (zs[i]'(by omega)):=List.getElem?_eq_getElem (by omega)
  obtain⟨z,hze⟩:∃ z,zs[i]'(by omega)=z:=⟨_,rfl⟩
  rw[hze]at hzi
  have hPi:P[i]?=some z.2.2:=by rw[← hz,List.getElem?_map,hzi];rfl
  have hrx:=hp _ (hs.sub (M:=L))
  obtain⟨bp,op,hade,hrd⟩:=hrx.1 (by omega)
  have hcl:∀ w',St W w' L→w'.cell? ⟨bp,op+i,none⟩=some (bbv z):=λw' h=>by
    obtain⟨b',o',h1,h2⟩:=(hp w' h).1 (by omega)
    rw[hade]at h1
    cases h1
    exact h2 i _ (by rw[List.getElem?_map,hzi];rfl)
  clear hrd hrx
  have hzb:∀ w',St W w' L→RdB w' z.1 z.2.2.length z.2.2:=λw' h=>(hp w' h).2 z (List.mem_of_getElem? hzi)
  have hfo2:foldI p fr g P=foldI p (fr+(i+1:Nat)) (frameI p (fr+i) z.2.2 g') (P.drop (i+1)):=by
    rw[hfo,List.drop_eq_getElem_cons (by omega),foldI]
    have:P[i]'(by omega)=z.2.2:=by rw[List.getElem?_eq_getElem (by omega)]at hPi;exact Option.some.inj hPi
    rw[this]
    congr 1
    omega
  refine RN 1 ha hs λa ha=>?_
  refine wp_seq_cut (M:=λa w=>∃ b10:Nat,gOk (frameI p (fr+i) z.2.2 g')∧Fr a 33 [(2,.int .i64 fr),(3,.slice adP P.length cP),(4,pt b4),(5,pt b5),(8,pt b8),(9,.int .i64 i),(10,pt b10)]∧St W w (blk b10 63 (ints .i32 32 (frameI p (fr+i) z.2.2 g'))::blk b5 63 (ints .i32 32 g')::blk b4 34 (prV p adO cO)::blk b8 63 (ints .i32 32 (λ_=>0))::RoP W p adO cO::L)) ?_ ?_
  ·
   refine DWC 0 (λw0 w'=>Rd w' b4 0 (prV p adO cO)∧Rd w' b5 0 (ints .i32 32 g')∧w'.cell? ⟨bp,op+i,none⟩=some (bbv z)) [1,8,13] [2,3,4,5,6,7,3000,3001,3008,2009,10,11,12,1013,1014,15] ha hs λa w ha hs hH=>?_
   have hC:=hH.at w ⟨hs.rdAll,hs.rdAll,hcl _ hs.sub⟩
   refine RH 5 ha hs hH hC λa ha=>?_
   rw[hade]at ha
   refine RH 1 ha hs hH hC λa ha=>?_
   refine QH ha (λw hc=>ex_loadN ha Tryz.underlying34 rfl Ty.t34 (hc.1)) hC λa ha=>?_
   refine QH ha (λw hc=>ex_loadN ha Tryz.underlying63 rfl Ty.t63 (hc.2.1)) hC λa ha=>?_
   refine QH ha (λw hc=>ld1 ha (hc.2.2)) hC λa ha=>?_
   refine RH 0 ha hs hH hC λa ha=>?_
   refine DN [(9,[10,11,12,1013,1014,15]),(13,[1009,10,11,12,1014,15])] (by kernel_rfl) rfl ⟨⟨_,rfl,?_⟩,⟨_,rfl,?_⟩,trivial⟩
   ·
    refine RH 0 ha hs hH hC λa ha=>?_
    refine CL1 0 ha hs (refStep_spec (hs.pick (RoP W p adO cO)) hpr hsz hgo (hP.2 _ (List.mem_of_getElem? hPi)) (by omega) (λw' h=>hzb w' h.sub)) λn2 a w ha ⟨hg2,hs⟩=>?_
    refine RN 3 ha hs λa ha=>?_
    refine st_alloc ha rfl hs Ty.t63 rfl λb10 a w ha hs ho=>?_
    clear ho
    replace hC:=hH.at w ⟨hs.rdAll,hs.rdAll,hcl _ hs.sub⟩
    change St W w (blk b10 63 (ints .i32 32 (λ_=>0))::_) at hs
    refine RH 0 ha hs hH hC λa ha=>?_
    refine SA 0 ha hs λa w ha hs=>?_
    refine RN 1 ha hs λa ha=>?_
    rw[← hade]at ha
    exact⟨_,hg2,ha.keep [2,3,4,5,8,9,10],hs.sub⟩
   refine RH 0 ha hs hH hC λa ha=>?_
   refine st_alloc ha rfl hs Ty.t63 rfl λb10 a w ha hs ho=>?_
   clear ho
   replace hC:=hH.at w ⟨hs.rdAll,hs.rdAll,hcl _ hs.sub⟩
   change St W w (blk b10 63 (ints .i32 32 (λ_=>0))::_) at hs
   refine RH 0 ha hs hH hC λa ha=>?_
   refine CL1 0 ha hs (refStep_spec (hs.pick (RoP W p adO cO)) hpr hsz hgo (hP.2 _ (List.mem_of_getElem? hPi)) (by omega) (λw' h=>hzb w' h.sub)) λn2 a w ha ⟨hg2,hs⟩=>?_
   refine SA 3 ha hs λa w ha hs=>?_
   refine RN 1 ha hs λa ha=>?_
   rw[← hade]at ha
   exact⟨_,hg2,ha.keep [2,3,4,5,8,9,10],hs.sub⟩
  clear ha;(try clear hs)
  rintro a w ⟨b10,hg2,ha,hs⟩
  refine SA 1 ha hs λa w ha hs=>?_
  refine RN 3 ha hs λa ha=>?_
  exact⟨P.length-(i+1),by omega,i+1,_,⟨rfl,by omega,hg2,hfo2⟩,ha.keep [2,3,4,5,8,9],hs.sub⟩
 refine RN 1 ha hs λa ha=>?_
 obtain rfl:i=P.length:=by omega
 rw[List.drop_length,foldI]at hfo
 refine SA 1 ha hs λa w ha hs=>?_
 refine RT 0 ha hs ?_
 exact⟨by rw[hfo],by rw[hfo];exact hgo,hs.sub⟩
end
end
section
def sameN (m:Nat)(g g':Nat→Int):Bool:=(List.range m).all λi=>g i==g' i
theorem sameN_self (m:Nat)(g:Nat→Int):sameN m g g=true:=by simp[sameN]
section
variable {P:Program}{w:World}{a:Act}{n:Nat}{l:List (Nat×Value)}
theorem run_eqItems_ints {e:TypeId}{k:IntKind}(he:P.underlying e=some (.int k))(d m:Nat)(g g':Nat→Int):∀ is:List Nat,(∀ i∈is,i<m) →
   (Op.eqItems (d+1) e 1 (ints k m g).toArray (ints k m g').toArray is).run P w=.ok (is.all λi=>g i==g' i) w
 | [],_=>by simp[Op.eqItems]
 | i::is,h=>by
   have hi:=h i List.mem_cons_self
   have hp:∀ g:Nat→Int,(part e (ints k m g).toArray (i*1)).run P w=.ok (.int k (g i)) w:=λg=>by
     have hagg:(isAgg e).run P w=.ok false w:=by
       simp only[isAgg,Sem.run_bind,run_underlying he,Result.andThen_ok];rfl
     simp[part,hagg,ints_get g hi]
   have ih:=run_eqItems_ints he d m g g' is λj hj=>h j (List.mem_cons_of_mem _ hj)
   simp only[Op.eqItems,Sem.run_bind,hp,Result.andThen_ok,run_equalIn_int w d e k k (g i) (g' i) he]
   cases hb:(g i==g' i) with
   | false=>simp[hb]
   | true=>simp[hb,ih]
theorem run_equal_ints {t e:TypeId}{m:Nat}{k:IntKind}{i:TypeInfo}(ht:P.underlying t=some (.array m e))(he:P.underlying e=some (.int k))(hi:P.info? e=some i)(hc:P.cellsOf e=1)(g g':Nat→Int)(d:Nat) :
   (Op.equalIn (d+1+1) t (.agg (ints k m g).toArray) (.agg (ints k m g').toArray)).run P w=.ok (sameN m g g') w:=by
 rw[Go.run_equalIn_array (w:=w) (d+1) _ _ ht hi,hc]
 exact run_eqItems_ints he d m g g' _ λj hj=>List.mem_range.1 hj
theorem ex_neqA {x y t e m k z by' u g g' dst ty ps af gd}(ha:Fr a n l)(ht:P.underlying t=some (.array m e))(he:P.underlying e=some (.int k))(hi:TI P e z 1 by')(hc:P.cellsOf e=1)(hg:P.eqGuardType P.depth t=false)
   [ev:Ev l x (.agg (ints k m g).toArray)] [ey:Ev l y (.agg (ints k m g').toArray)] :
   (execOp a.eval ⟨dst,.binOp .neq t x y u,ty,ps,af,gd⟩).run P w=.ok (.value (.bool (!sameN m g g'))) w:=by
 obtain⟨i,h1,_⟩:=info_parts hi.h
 have h2:(Op.equal t (.agg (ints k m g).toArray) (.agg (ints k m g').toArray)).run P w=.ok (sameN m g g') w:=run_equal_ints ht he h1 hc g g' 9998
 have h3:(binOp .neq t (.agg (ints k m g).toArray) (.agg (ints k m g').toArray)).run P w=.ok (.bool (!sameN m g g')) w:=by simp[binOp,h2]
 simp only[execOp,ev.ev a n ha,ey.ev a n ha,Sem.run_bind,run_eqGuard_agg w _ t x y _ _ hg];simp[h3]
end
end
section
def ArgInts (k:IntKind)(w:World)(a:Option Addr)(len cap:Nat)(zs:List Int):Prop :=
 (a=none∧len=0∧cap=0∧zs=[]) ∨
 ∃ x,a=some x∧len≤cap∧cap≤maxLen∧zs.length=cap∧(∀ i,i<zs.length→w.cell? (x.add i)=some (.int k (zs.getD i 0)))∧∀ n∈zs,(Lit.int k n).wf=true
theorem cell_spot {w:World}{x:Addr}{v:Value}(h:w.cell? x=some v):x=⟨x.block,x.off,none⟩∧x.block<w.heap.size:=by
 refine⟨?_,World.block_lt_of_cell? _ _ h⟩
 obtain⟨b,o,s⟩:=x
 cases s with
 | none=>rfl
 | some s =>
   simp only[World.cell?]at h
   split at h <;> simp at h
theorem ArgInts.get {k:IntKind}{w:World}{a:Option Addr}{len cap:Nat}{zs:List Int}(h:ArgInts k w a len cap zs)(h0:0<len) :
   ∃ b off,a=some ⟨b,off,none⟩∧b<w.heap.size∧len≤zs.length∧∀ i,i<zs.length→w.cell? ⟨b,off+i*1,none⟩=some (.int k (zs.getD i 0)):=by
 rcases h with ⟨_,h,_,_⟩ | ⟨x,rfl,h1,h2,h3,h4,h5⟩
 · omega
 · have h6:=h4 0 (by omega)
   have h7:x.add 0=x:=by simp[Addr.add]
   rw[h7]at h6
   obtain⟨h8,h9⟩:=cell_spot h6
   refine⟨x.block,x.off,by rw[← h8],h9,by omega,λi hi=>?_⟩
   have:=h4 i hi
   rw[h8,add_off]at this
   rw[Nat.mul_one];exact this
theorem ArgInts.len_le {k:IntKind}{w:World}{a:Option Addr}{len cap:Nat}{zs:List Int}(h:ArgInts k w a len cap zs):len≤zs.length∧len≤9223372036854775807:=by
 rcases h with ⟨_,rfl,_,rfl⟩ | ⟨x,rfl,h1,h2,h3,h4,h5⟩
 · simp
 · unfold maxLen at h2;omega
end
section
theorem u8of {x:Int}(h:(Lit.int .u8 x).wf=true):x=((UInt8.ofNat x.toNat).toNat:Int):=by
 have hr:=(Lit.wf_int_iff .u8 x).1 h
 have h1:IntKind.u8.min=0:=by decide
 have h2:IntKind.u8.max=255:=by decide
 rw[h1,h2]at hr
 rw[UInt8.toNat_ofNat']
 omega
theorem ArgInts.bytesB {W:World}{a:Option Addr}{len cap:Nat}{z:List Int}(h:ArgInts .u8 W a len cap z):∃ bs:List UInt8,bs.length=len∧RdB W a len bs:=by
 refine⟨(z.take len).map (λn=>UInt8.ofNat n.toNat),?_,?_⟩
 · have:=h.len_le;simp;omega
 · have hl:=h.len_le
   have hz:∀ n∈z,(Lit.int .u8 n).wf=true:=by
     rcases h with ⟨_,_,_,rfl⟩ | ⟨x,_,_,_,_,_,hw⟩
     · intro n hn;cases hn
     · exact hw
   refine⟨by simp;omega,λe=>?_,λx hx hp=>?_⟩
   · rcases h with ⟨_,h,_,_⟩ | ⟨x,rfl,_⟩
     · exact h
     · cases e
   · obtain⟨b,off,rfl,hb,_,hc⟩:=h.get hp
     refine⟨b,off,by cases hx;rfl,λj v hj=>?_⟩
     have hj2:=(List.getElem?_eq_some_iff.1 hj).1
     rw[bc_len,List.length_map,List.length_take]at hj2
     have:=hc j (by omega)
     rw[Nat.mul_one]at this
     rw[this,← hj]
     have hzj:z.getD j 0∈z:=by rw[List.getD_eq_getElem?_getD,List.getElem?_eq_getElem (by omega),Option.getD_some];exact List.getElem_mem _
     have hw:=hz _ hzj
     have hu:=u8of hw
     simp only[bc,List.getElem?_map,List.getElem?_take]
     rw[if_pos (by omega),List.getElem?_eq_getElem (by omega)]
     simp only[Option.map_some]
     have hd:z.getD j 0=z[j]'(by omega):=by rw[List.getD_eq_getElem?_getD,List.getElem?_eq_getElem (by omega),Option.getD_some]
     rw[hd]at hu ⊢
     exact congrArg (λz=>some (Value.int .u8 z)) hu
abbrev BBBx:=Option Addr×Nat×List BBx
end
section
section
theorem alikeP_iff {u v:List (List UInt8)}:alikeP u v=true↔u.take (min u.length v.length)=v.take (min u.length v.length):=by simp[alikeP]
end
end
section
abbrev Kx:=Wk×Nat
def ownK (p:Pr)(adO:Option Addr)(cO tq jq sq:Nat)(x:Kx):SP:=blk x.2 188 (wkC p adO cO tq jq sq x.1)
def ptrs (ks:List Kx):List Value:=ks.map λx=>pt x.2
theorem ptrs_at {ks:List Kx}{i:Nat}{k:Wk}{wb:Nat}(h:ks[i]?=some (k,wb)):(ptrs ks)[i]?=some (pt wb):=by rw[ptrs,List.getElem?_map,h];rfl
theorem ptrs_set {ks:List Kx}{i:Nat}{k k':Wk}{wb:Nat}(h:ks[i]?=some (k,wb)):ptrs (ks.set i (k',wb))=ptrs ks:=by
 have hi:=(List.getElem?_eq_some_iff.1 h).1
 apply List.ext_getElem?
 intro j
 simp only[ptrs,List.getElem?_map,List.getElem?_set]
 by_cases hj:i=j
 · subst hj;rw[if_pos rfl,if_pos hi,h];rfl
 · rw[if_neg hj]
theorem fst_set {ks:List Kx}{i:Nat}{k k':Wk}{wb:Nat}(h:ks[i]?=some (k,wb)):(ks.map (·.1)).Perm (k::(ks.eraseIdx i).map (·.1))∧((ks.set i (k',wb)).map (·.1)).Perm (k'::(ks.eraseIdx i).map (·.1)):=by
 obtain⟨hi,he⟩:=List.getElem?_eq_some_iff.1 h
 have h1:=(erase_perm ks hi).map (·.1)
 rw[List.map_cons,he]at h1
 have h2:=(erase_perm (ks.set i (k',wb)) (by simpa using hi)).map (·.1)
 rw[List.map_cons,List.getElem_set_self,List.eraseIdx_set_eq]at h2
 exact⟨h1,h2⟩
section
variable {W w:World}{L:List SP}{tq jq sq r wb i cO n base:Nat}{adO:Option Addr}{A:Sn}{T:Tr}{J:Js}{k:Wk}{p:Pr}{x:Br}{px:Pic}{ks:List Kx}{t:Nat→Nat}
theorem St.ownOut (hs:St W w (All (ownK p adO cO tq jq sq) ks::L))(hk:ks[i]?=some (k,wb)):St W w (blk wb 188 (wkC p adO cO tq jq sq k)::All (ownK p adO cO tq jq sq) (ks.eraseIdx i)::L):=by
 obtain⟨hi,he⟩:=List.getElem?_eq_some_iff.1 hk
 have:=hs.allOut hi
 rw[he]at this
 exact this
theorem St.ownIn {k':Wk}(hs:St W w (blk wb 188 (wkC p adO cO tq jq sq k')::All (ownK p adO cO tq jq sq) (ks.eraseIdx i)::L))(hk:ks[i]?=some (k,wb)):St W w (All (ownK p adO cO tq jq sq) (ks.set i (k',wb))::L) :=
 St.allPut (f:=ownK p adO cO tq jq sq) (x:=(k',wb)) (List.getElem?_eq_some_iff.1 hk).1 hs
theorem shop_step {F:Int}{g0:Nat→Int}(hs:St W w (All (ownK p adO cO tq jq sq) ks::Tree tq sq T::Store sq r A::Jobs jq J::RoP W p adO cO::L))(hk:ks[i]?=some (k,wb))(hI:Inv p F g0 t base A T (ks.map (·.1)))
   (hF:0≤F∧F≤1099511627776) (hp:prOk p) (hz:p.title.size≤1000000000) (hn:A.n+1<1099511627776) (hJ:J.length≤16) :
   Calls Tryz.prog 57 #[pt wb] w λe w'=>∃ (z:Bool) (A':Sn) (T':Tr) (J':Js) (k':Wk),e=.returned (.bool z)∧(Bit p A T J k z A' T' J' k'∧Inv p F g0 t base A' T' ((ks.set i (k',wb)).map (·.1))∧Near A T J A' T' J') ∧
     St W w' (All (ownK p adO cO tq jq sq) (ks.set i (k',wb))::Tree tq sq T'::Store sq r A'::Jobs jq J'::RoP W p adO cO::L):=by
 have hA:=(Store.facts (hs.store sq)).1
 have hT:=Tree.wt (hs.tree tq)
 have hmem:k∈ks.map (·.1):=List.mem_map.2 ⟨_,List.mem_of_getElem? hk,rfl⟩
 have h1:=hs.ownOut hk
 refine (step_bit (L:=All (ownK p adO cO tq jq sq) (ks.eraseIdx i)::L) (h1.sub (M:=blk wb 188 (wkC p adO cO tq jq sq k)::Tree tq sq T::Store sq r A::Jobs jq J::RoP W p adO cO::All (ownK p adO cO tq jq sq) (ks.eraseIdx i)::L)) (hI.ready hmem hF hp hz hn hJ)).mono λe w' ⟨z,A',T',J',k',he,hb,hs⟩=>?_
 refine⟨z,A',T',J',k',he,⟨hb,((hI.permW (fst_set (k':=k') hk).1).bit hA hT hb).permW (fst_set (k':=k') hk).2.symm,hb.near⟩,?_⟩
 have h2:=St.ownIn (i:=i) (ks:=ks) (k:=k) (k':=k') (hs.sub (M:=blk wb 188 (wkC p adO cO tq jq sq k')::All (ownK p adO cO tq jq sq) (ks.eraseIdx i)::Tree tq sq T'::Store sq r A'::Jobs jq J'::RoP W p adO cO::L)) hk
 exact h2
theorem shop_rest {F:Int}{g0:Nat→Int}(hs:St W w (All (ownK p adO cO tq jq sq) ks::Store sq r A::L))(hk:ks[i]?=some (k,wb))(hI:Inv p F g0 t base A T (ks.map (·.1))) :
   Calls Tryz.prog 128 #[pt wb] w λe w'=>∃ (A':Sn) (k':Wk),e=.returned (.bool k.busy)∧(k'.busy=false∧Inv p F g0 t base A' T ((ks.set i (k',wb)).map (·.1))∧A'.room=A.room∧A'.n=A.n) ∧
     St W w' (All (ownK p adO cO tq jq sq) (ks.set i (k',wb))::Store sq r A'::L):=by
 have hA:=(Store.facts (hs.store sq)).1
 have h1:=hs.ownOut hk
 cases hb:k.busy with
 | false =>
   refine (rest_idle h1 hb).mono λe w' ⟨he,hs⟩=>⟨A,k,he,⟨hb,(hI.permW (fst_set (k':=k) hk).1).permW (fst_set (k':=k) hk).2.symm,rfl,rfl⟩,?_⟩
   exact St.ownIn (i:=i) (ks:=ks) (k:=k) (k':=k) hs hk
 | true =>
   refine (rest_busy (L:=All (ownK p adO cO tq jq sq) (ks.eraseIdx i)::L) (h1.sub (M:=blk wb 188 (wkC p adO cO tq jq sq k)::Store sq r A::All (ownK p adO cO tq jq sq) (ks.eraseIdx i)::L)) hb).mono λe w' ⟨he,hs⟩=>?_
   refine⟨A.dropId k.x,{ k with busy:=false },he,⟨rfl,((hI.permW (fst_set (k':={ k with busy:=false }) hk).1).rest (k':={ k with busy:=false }) hA hb rfl rfl).permW (fst_set (k':={ k with busy:=false }) hk).2.symm,(dropId_same A _).1,(dropId_same A _).2.1⟩,?_⟩
   exact St.ownIn (i:=i) (ks:=ks) (k:=k) (k':={ k with busy:=false }) (hs.sub (M:=blk wb 188 (wkC p adO cO tq jq sq { k with busy:=false })::All (ownK p adO cO tq jq sq) (ks.eraseIdx i)::Store sq r (A.dropId k.x)::L)) hk
theorem worker_new (hs:St W w L):Calls Tryz.prog 51 #[.agg (prV p adO cO).toArray,pt tq,pt jq,pt sq] w λe w' =>
   ∃ wb,e=.returned (pt wb)∧St W w' (blk wb 188 (wkC p adO cO tq jq sq wk0)::L):=by
 refine EN Tryz.func51 Tryz.ntmps51 rfl rfl λa ha=>?_
 refine BX 1 ha hs λb4 a w ha hs=>?_
 change St W w (blk b4 34 (prV p adO cO)::_) at hs
 refine RN 3 ha hs λa ha=>?_
 change Fr a 15 ((9,.agg (List.toArray [.string p.title,.slice adO p.ops.length cO]))::_) at ha
 refine BX 4 ha hs λb14 a w ha hs=>?_
 change St W w (blk b14 188 (wkC p adO cO tq jq sq wk0)::_) at hs
 refine RT 1 ha hs ?_
 exact⟨b14,rfl,hs.sub⟩
theorem add_try {frm:Int}{ad2:Option Addr}{c2 id:Nat}{zs:List BBx}{P:List (List UInt8)}(hs:St W w (Tree tq sq T::Store sq r A::L))(hr:∀ w',St W w' L→RdX w' ad2 zs)(hz:zs.map (·.2.2)=P)(hc:P.length≤c2)(hok:OkP P)
   (hx:A.pics[i]?=some px) (hid:px.id=id) (hb:A.n+1<1099511627776) (hl:T.last+1<1099511627776) (hm:T.l.length<T.most) :
   Calls Tryz.prog 185 #[pt tq,.int .i64 frm,.int .i64 id,.slice ad2 P.length c2] w λe w'=>∃ (z:Nat) (ok:Bool),e=.returned (.tuple #[.int .i64 z,.bool ok]) ∧
     ((ok=false∧(P=[]∨∃ y∈T.l,y.is frm P)∧St W w' (Tree tq sq T::Store sq r A::L)) ∨
      (ok=true∧z=T.last+1∧P≠[]∧(∀ y∈T.l,¬ y.is frm P)∧St W w' (Tree tq sq (T.add frm P (A.last+1))::Store sq r (A.add px.g px.p)::L))):=by
 subst hid
 rcases Nat.eq_zero_or_pos P.length with h0 | h0
 · have hP:=List.eq_nil_of_length_eq_zero h0
   exact (add_full hs (.inr h0)).mono λe w' ⟨h1,hs⟩=>⟨0,false,h1,.inl ⟨rfl,.inl hP,hs⟩⟩
 · have hP:P≠[]:=List.length_pos_iff.1 h0
   by_cases hex:∃ y∈T.l,y.is frm P
   · obtain⟨y,hy,his⟩:=hex
     obtain⟨j,hj⟩:=List.mem_iff_getElem?.1 hy
     have hbb:∀ w',St W w' (Store sq r A::L)→RdBB w' ad2 P.length P:=λw' h=>by
       have:=(hr w' h.tail).bb
       rw[hz]at this
       rwa [show zs.length=P.length from by rw[← hz,List.length_map]]at this
     exact (add_dup hs hbb hc hok hj his).mono λe w' ⟨h1,hs⟩=>⟨0,false,h1,.inl ⟨rfl,.inr ⟨y,hy,his⟩,hs⟩⟩
   · have hno:∀ y∈T.l,¬ y.is frm P:=λy hy h=>hex ⟨y,hy,h⟩
     exact (add_ok hs hr hz hc hok hx hb hl hno hm h0).mono λe w' ⟨h1,hs⟩=>⟨T.last+1,true,h1,.inr ⟨rfl,rfl,hP,hno,hs⟩⟩
end
end
section
section
variable {W w:World}{L:List SP}{sq r i:Nat}{A:Sn}{px:Pic}
theorem snap_state_id {id:Nat}(hs:St W w (Store sq r A::L))(hx:A.pics[i]?=some px)(hid:px.id=id) :
   Calls Tryz.prog 65 #[pt sq,.int .i64 id] w λe w'=>e=.returned (.tuple #[.agg (ints .i32 32 px.g).toArray,.bool true])∧St W w' (Store sq r A::L):=by
 subst hid;exact snap_state hs hx
set_option maxHeartbeats 4000000 in
end
end
section
section
variable {P:Program}{ops:Array Oper}{Q:Exit→Act→World→Prop}{a:Act}{w w' W:World}{K:Act→World→Prop}{n d:Nat}{l:List (Nat×Value)}{v:Value}{L R:List SP}
theorem st_appendT {s x t z sz by' e ad k c ad2 m c2 news ty ps af g}{cs:List Value}(ha:Fr a n l)(hw:Region.wanted ⟨some d,.call ⟨.builtin .append,#[s,x],#[t,t]⟩,ty,ps,af,g⟩ (yielded ops a.tmps)=true)(hs:St W w L)
   (ht:P.underlying t=some (.slice e)) (hi:TI P e z sz by') (hf:okB d n l=true) (hz:z.cells.size=sz) (hb:0<by')
   [e1:Ev l s (.slice ad k c)] [pk:PickSl L ad k c e sz cs R] [e2:Ev l x (.slice ad2 m c2)] (hr:0<m→∃ b2 off2,ad2=some ⟨b2,off2,none⟩∧Rd w b2 off2 news) (hl:news.length=m*sz) (h1:∀ v∈news,v.oneCell'=true)
   (hsz:(k+m)*by'≤140737488355328)
   (h:∀ ad' c' a' w',Fr a' n ((d,.slice ad' (k+m) c')::l)→St W w' (Sl e sz ad' (k+m) c' (cs++news)::R)→K a' w') :
   StepK P ops Q ⟨some d,.call ⟨.builtin .append,#[s,x],#[t,t]⟩,ty,ps,af,g⟩ K a w:=by
 rcases Nat.eq_zero_or_pos m with h0 | h0
 · subst h0
   have hkc:=(hs.sl ad).2
   obtain rfl:news=[]:=List.eq_nil_of_length_eq_zero (by rw[hl,Nat.zero_mul])
   refine st_append0 (ad:=ad) (k:=k) (c:=c) (ad2:=ad2) (c2:=c2) ha hw ht hi hf hkc λa' ha'=>h ad c a' w ha' ?_
   rw[List.append_nil]
   exact hs.perm pk.perm
 · obtain⟨b2,off2,rfl,hrd⟩:=hr h0
   exact st_append ha hw hs ht hi hz hf hrd hl h1 h0 hb hsz h
end
theorem St.litS {W w:World}{L:List SP}{b e n:Nat}{cs:List Value}{l:List UInt8}(hs:St W w (blk b e cs::L))(he:e=5)(hl:l.length=n)(h:cs=bc l):St W w (Sl 5 1 (some ⟨b,0,none⟩) n n (bc l)::L):=by
 subst h;subst he
 have h2:St W w (blk b 5 ([]++bc l++[])::L):=by simpa using hs
 exact St.slShut (pre:=[]) (post:=[]) (n:=n) (c:=n) (sz:=1) (cs:=bc l) h2 (by rw[bc_len,hl,Nat.mul_one]) (Nat.le_refl _) (by simp)
theorem bc_at {bs:List UInt8}{i:Nat}(h:i<bs.length):(bc bs)[i]?=some (.int .u8 ((bs[i]).toNat:Int)):=by simp[bc,h]
theorem bc_app (a b:List UInt8):bc (a++b)=bc a++bc b:=by simp[bc]
theorem RdB.get {w:World}{ad:Option Addr}{m:Nat}{bs:List UInt8}(h:RdB w ad m bs)(h0:0<m):∃ b o,ad=some ⟨b,o,none⟩∧Rd w b o (bc bs):=by
 obtain⟨_,h2,h3⟩:=h
 cases hh:ad with
 | none=>have:=h2 hh;omega
 | some a =>
   obtain⟨b,o,rfl,h1⟩:=h3 a hh h0
   exact⟨b,o,rfl,h1⟩
theorem RdB.rd {w:World}{b o m:Nat}{bs:List UInt8}(h:RdB w (some ⟨b,o,none⟩) m bs)(h0:0<m):Rd w b o (bc bs):=by
 obtain⟨b',o',e,h1⟩:=h.get h0
 cases e;exact h1
theorem RdB.cutL {w:World}{ad:Option Addr}{bs:List UInt8}{c:Nat}(h:RdB w ad bs.length bs){lo:Nat}(hl:lo≤bs.length)(hc:bs.length≤c):RdB w (cutAd ad lo c 1) (bs.drop lo).length (bs.drop lo):=by
 refine⟨rfl,λe=>?_,λx hx h0=>?_⟩
 · rw[List.length_drop]
   rcases Nat.eq_zero_or_pos (bs.length-lo) with h0 | h0
   · exact h0
   · obtain⟨b,o,rfl,_⟩:=h.get (by omega)
     rw[cutAd_some (by omega)]at e;cases e
 · rw[List.length_drop]at h0
   obtain⟨b,o,rfl,hr⟩:=h.get (by omega)
   rw[cutAd_some (by omega)]at hx
   cases hx
   refine⟨b,o+lo*1,rfl,λj v hj=>?_⟩
   have h1:=hr (lo+j) v (by rw[bc,List.getElem?_map,← List.getElem?_drop,← List.getElem?_map];exact hj)
   rwa [show o+lo*1+j=o+(lo+j) from by omega]
theorem RdB.cutH {w:World}{ad:Option Addr}{bs:List UInt8}{m:Nat}(h:RdB w ad m bs){hi:Nat}(hl:hi≤bs.length):RdB w ad hi (bs.take hi):=by
 obtain⟨h1,h2,h3⟩:=h
 refine⟨by rw[List.length_take];omega,λe=>by have:=h2 e;omega,λx hx h0=>?_⟩
 obtain⟨b,o,e,hr⟩:=h3 x hx (by omega)
 refine⟨b,o,e,λj v hj=>hr j v ?_⟩
 rw[bc,List.map_take,List.getElem?_take]at hj
 split at hj
 · exact hj
 · cases hj
theorem bv32 (x:Nat):BitVec.ofInt IntKind.u32.bits (x:Int)=BitVec.ofNat 32 x:=BitVec.ofInt_natCast 32 x
theorem bv64 (x:Nat):BitVec.ofInt IntKind.u64.bits (x:Int)=BitVec.ofNat 64 x:=BitVec.ofInt_natCast 64 x
theorem xor_u32 {x y:Nat}(hx:x<4294967296)(hy:y<4294967296):IntKind.u32.wrap (((BitVec.ofInt IntKind.u32.bits (x:Int) ^^^ BitVec.ofInt IntKind.u32.bits (y:Int)).toNat:Nat):Int)=((x ^^^ y:Nat):Int):=by
 rw[bv32,bv32]
 show IntKind.u32.wrap (((BitVec.ofNat 32 x ^^^ BitVec.ofNat 32 y).toNat:Nat):Int)=_
 rw[BitVec.toNat_xor,BitVec.toNat_ofNat,BitVec.toNat_ofNat,Nat.mod_eq_of_lt (show x<2 ^ 32 from hx),Nat.mod_eq_of_lt (show y<2 ^ 32 from hy),wrap_u32]
 have:=Nat.xor_lt_two_pow (n:=32) hx hy
 omega
theorem and_u32 {x y:Nat}(hx:x<4294967296)(hy:y<4294967296):IntKind.u32.wrap (((BitVec.ofInt IntKind.u32.bits (x:Int) &&& BitVec.ofInt IntKind.u32.bits (y:Int)).toNat:Nat):Int)=((x &&& y:Nat):Int):=by
 rw[bv32,bv32]
 show IntKind.u32.wrap (((BitVec.ofNat 32 x &&& BitVec.ofNat 32 y).toNat:Nat):Int)=_
 rw[BitVec.toNat_and,BitVec.toNat_ofNat,BitVec.toNat_ofNat,Nat.mod_eq_of_lt (show x<2 ^ 32 from hx),Nat.mod_eq_of_lt (show y<2 ^ 32 from hy),wrap_u32]
 have:x &&& y≤x:=Nat.and_le_left
 omega
theorem com_u32 {x:Nat}(h:x<4294967296):IntKind.u32.wrap (((BitVec.ofInt IntKind.u32.bits (if IntKind.u32.signed then -1 else IntKind.u32.max) ^^^ BitVec.ofInt IntKind.u32.bits (x:Int)).toNat:Nat):Int)=((4294967295-x:Nat):Int):=by
 have e:BitVec.ofInt IntKind.u32.bits (if IntKind.u32.signed then -1 else IntKind.u32.max)=BitVec.allOnes 32:=by
   show BitVec.ofInt 32 IntKind.u32.max=_
   decide
 rw[e,bv32]
 show IntKind.u32.wrap (((BitVec.allOnes 32 ^^^ BitVec.ofNat 32 x).toNat:Nat):Int)=_
 rw[BitVec.allOnes_xor,BitVec.toNat_not,BitVec.toNat_ofNat,wrap_u32]
 rw[Nat.mod_eq_of_lt (show x<2 ^ 32 from h)]
 omega
theorem or_u64 {x y:Nat}(hx:x<18446744073709551616)(hy:y<18446744073709551616):IntKind.u64.wrap (((BitVec.ofInt IntKind.u64.bits (x:Int) ||| BitVec.ofInt IntKind.u64.bits (y:Int)).toNat:Nat):Int)=((x ||| y:Nat):Int):=by
 rw[bv64,bv64]
 show IntKind.u64.wrap (((BitVec.ofNat 64 x ||| BitVec.ofNat 64 y).toNat:Nat):Int)=_
 rw[BitVec.toNat_or,BitVec.toNat_ofNat,BitVec.toNat_ofNat,Nat.mod_eq_of_lt (show x<2 ^ 64 from hx),Nat.mod_eq_of_lt (show y<2 ^ 64 from hy),wrap_u64]
 have:=Nat.or_lt_two_pow (n:=64) hx hy
 omega
theorem and_u64 {x y:Nat}(hx:x<18446744073709551616)(hy:y<18446744073709551616):IntKind.u64.wrap (((BitVec.ofInt IntKind.u64.bits (x:Int) &&& BitVec.ofInt IntKind.u64.bits (y:Int)).toNat:Nat):Int)=((x &&& y:Nat):Int):=by
 rw[bv64,bv64]
 show IntKind.u64.wrap (((BitVec.ofNat 64 x &&& BitVec.ofNat 64 y).toNat:Nat):Int)=_
 rw[BitVec.toNat_and,BitVec.toNat_ofNat,BitVec.toNat_ofNat,Nat.mod_eq_of_lt (show x<2 ^ 64 from hx),Nat.mod_eq_of_lt (show y<2 ^ 64 from hy),wrap_u64]
 have:x &&& y≤x:=Nat.and_le_left
 omega
theorem u8_lt (b:UInt8):b.toNat<256:=b.toNat_lt
def crcBit (x:Nat):Nat:=if x%2=1 then x/2 ^^^ 3988292384 else x/2
def crcBits:Nat→Nat→Nat
 | 0,y=>y
 | k+1,y=>crcBit (crcBits k y)
def crcByte (x:Nat)(b:UInt8):Nat:=crcBits 8 (x ^^^ b.toNat)
def crcL (bs:List UInt8):Nat:=bs.foldl crcByte 4294967295
def crcSum (bs:List UInt8):Nat:=4294967295-crcL bs
theorem crcBit_lt {x:Nat}(h:x<4294967296):crcBit x<4294967296:=by
 unfold crcBit
 split
 · exact Nat.xor_lt_two_pow (n:=32) (by show x/2<4294967296;omega) (by decide)
 · omega
theorem crcBits_lt {x:Nat}(h:x<4294967296):∀ k,crcBits k x<4294967296
 | 0=>h
 | k+1=>crcBit_lt (crcBits_lt h k)
theorem crcByte_lt {x:Nat}(b:UInt8)(h:x<4294967296):crcByte x b<4294967296:=by
 refine crcBits_lt (Nat.xor_lt_two_pow (n:=32) h ?_) 8
 have:=u8_lt b
 show b.toNat<4294967296
 omega
theorem crcFold_lt (bs:List UInt8):∀ {x:Nat},x<4294967296→bs.foldl crcByte x<4294967296:=by
 induction bs with
 | nil=>exact λh=>h
 | cons b bs ih=>exact λh=>ih (crcByte_lt b h)
theorem crcL_lt (bs:List UInt8):crcL bs<4294967296:=crcFold_lt bs (by decide)
theorem crcSum_lt (bs:List UInt8):crcSum bs<4294967296:=by unfold crcSum;omega
theorem crcL_succ {bs:List UInt8}{i:Nat}(h:i<bs.length):crcL (bs.take (i+1))=crcByte (crcL (bs.take i)) bs[i]:=by
 rw[crcL,List.take_succ_eq_append_getElem h,List.foldl_append];rfl
theorem crc_and1 {x:Nat}(h:x<4294967296):IntKind.u32.wrap (((BitVec.ofInt IntKind.u32.bits (x:Int) &&& BitVec.ofInt IntKind.u32.bits 1).toNat:Nat):Int)=((x%2:Nat):Int):=by
 have h1:=and_u32 (y:=1) h (by decide)
 rw[Nat.and_one_is_mod]at h1;exact h1
theorem crc_neg {m:Nat}(h:m<2):IntKind.u32.wrap (0-(m:Int))=((if m=1 then 4294967295 else 0:Nat):Int):=by
 rcases (by omega:m=0∨m=1) with rfl | rfl <;> decide
theorem crc_poly (m:Nat):IntKind.u32.wrap (((BitVec.ofInt IntKind.u32.bits 3988292384 &&& BitVec.ofInt IntKind.u32.bits ((if m=1 then 4294967295 else 0:Nat):Int)).toNat:Nat):Int)=((if m=1 then 3988292384 else 0:Nat):Int):=by
 by_cases h:m=1
 · rw[if_pos h,if_pos h];decide
 · rw[if_neg h,if_neg h];decide
theorem crc_xor {x m:Nat}(hx:x<4294967296):IntKind.u32.wrap (((BitVec.ofInt IntKind.u32.bits ((x/2:Nat):Int) ^^^ BitVec.ofInt IntKind.u32.bits ((if x%2=1 then 3988292384 else 0:Nat):Int)).toNat:Nat):Int)=((crcBit x:Nat):Int):=by
 rw[xor_u32 (by omega) (by split <;> decide),crcBit]
 split
 · rfl
 · rw[Nat.xor_zero]
theorem crc_xorP {x:Nat}(hx:x<4294967296):IntKind.u32.wrap (((BitVec.ofInt IntKind.u32.bits ((x/2:Nat):Int) ^^^ BitVec.ofInt IntKind.u32.bits 3988292384).toNat:Nat):Int)=((x/2 ^^^ 3988292384:Nat):Int):=xor_u32 (y:=3988292384) (by omega) (by decide)
def fourL (x:Nat):List UInt8:=[UInt8.ofNat (x/16777216),UInt8.ofNat (x/65536),UInt8.ofNat (x/256),UInt8.ofNat x]
theorem u8nat (n:Nat):IntKind.u8.wrap (n:Int)=((UInt8.ofNat n).toNat:Int):=by
 rw[wrap_u8,UInt8.toNat_ofNat'];omega
def unI (x:Int):Nat:=(x%4294967296).toNat
theorem wrap_un (x:Int):IntKind.u32.wrap x=((unI x:Nat):Int):=by rw[wrap_u32,unI];omega
def gameB (g:Nat→Int):List UInt8:=(List.range 32).flatMap λi=>fourL (unI (g i))
def gameBn (g:Nat→Int)(n:Nat):List UInt8:=(List.range n).flatMap λi=>fourL (unI (g i))
theorem gameBn_succ (g:Nat→Int)(n:Nat):gameBn g (n+1)=gameBn g n++fourL (unI (g n)):=by simp[gameBn,List.range_succ]
theorem gameBn_len (g:Nat→Int)(n:Nat):(gameBn g n).length=4*n:=by
 induction n with
 | zero=>rfl
 | succ n ih=>rw[gameBn_succ,List.length_append,ih];simp[fourL];omega
theorem gameB_len (g:Nat→Int):(gameB g).length=128:=gameBn_len g 32
section
variable {W w:World}{L:List SP}{n c m:Nat}{ad:Option Addr}{bs:List UInt8}
theorem crc_more (hs:St W w L)(hb:bs.length≤1099511627776)(hp:∀ w',St W w' L→RdB w' ad bs.length bs) :
   Calls Tryz.prog 267 #[.int .u32 0,.slice ad bs.length c] w λe w'=>e=.returned (.int .u32 (crcSum bs))∧St W w' L:=by
 refine EN Tryz.func267 Tryz.ntmps267 rfl rfl λa ha=>?_
 refine RN 6 ha hs λa ha=>?_
 rw[show IntKind.u32.wrap ((BitVec.ofInt IntKind.u32.bits (if IntKind.u32.signed then -1 else IntKind.u32.max) ^^^ BitVec.ofInt IntKind.u32.bits 0).toNat:Int)=((crcL (bs.take 0):Nat):Int) from rfl]at ha
 refine RN 5 ha hs λa ha=>?_
 refine wp_loop_ghost (λμ a w=>∃ (i:Nat),(μ=bs.length-i∧i≤bs.length)∧Fr a 33 [(5,.int .u32 (crcL (bs.take i))),(10,.slice ad bs.length c),(11,.int .i64 bs.length),(12,.int .i64 i)]∧St W w L) (bs.length) (⟨0,⟨rfl,by omega⟩,ha.keep [5,10,11,12],hs⟩) ?_
 clear ha hs
 rintro μ a w ⟨i,⟨rfl,hi⟩,ha,hs⟩
 refine IF 3 ha hs (λhc0 a ha=>?_) λhc0 a ha=>?_
 ·
  obtain⟨bb,oo,rfl,hr⟩:=(hp _ hs).get (by omega)
  have hil:i<bs.length:=by omega
  have hx:=crcL_lt (bs.take i)
  have hb8:=u8_lt bs[i]
  refine RN 3 ha hs λa ha=>?_
  refine SS ha (ld1 ha (hr i _ (bc_at hil))) λa ha=>?_
  refine SX 4 ha hs (by rw[wrap_u32];omega) λa ha=>?_
  refine RN 1 ha hs λa ha=>?_
  rw[xor_u32 hx (by omega)]at ha
  refine RN 3 ha hs λa ha=>?_
  have hy:crcL (bs.take i) ^^^ bs[i].toNat<4294967296:=Nat.xor_lt_two_pow (n:=32) hx (by show _<4294967296;omega)
  have hcs:=crcL_succ hil
  rw[crcByte]at hcs
  generalize crcL (bs.take i) ^^^ bs[i].toNat=y at ha hy hcs
  refine wp_loop_ghost (λμ a w=>∃ (k:Nat),(μ=8-k∧k≤8)∧Fr a 33 [(5,.int .u32 (crcBits k y)),(10,.slice (some ⟨bb,oo,none⟩) bs.length c),(11,.int .i64 bs.length),(12,.int .i64 i),(20,.int .i64 k)]∧St W w L) (8) (⟨0,⟨rfl,by omega⟩,ha.keep [5,10,11,12,20],hs⟩) ?_
  clear ha hs
  rintro μ a w ⟨k,⟨rfl,hk⟩,ha,hs⟩
  refine IF 3 ha hs (λhc1 a ha=>?_) λhc1 a ha=>?_
  ·
   have hyk:=crcBits_lt hy k
   refine RN 3 ha hs λa ha=>?_
   rw[show ((crcBits k y:Nat):Int).fdiv (2 ^ 1)=((crcBits k y/2:Nat):Int) from fdivN _ 2]at ha
   refine RN 2 ha hs λa ha=>?_
   rw[crc_and1 hyk]at ha
   refine RN 1 ha hs λa ha=>?_
   rw[crc_neg (Nat.mod_lt _ (by decide))]at ha
   refine RN 1 ha hs λa ha=>?_
   rw[crc_poly]at ha
   refine RN 1 ha hs λa ha=>?_
   rw[crc_xor (m:=0) hyk]at ha
   refine RN 3 ha hs λa ha=>?_
   exact⟨8-(k+1),by omega,k+1,⟨rfl,by omega⟩,ha.keep [5,10,11,12,20],hs⟩
  obtain rfl:k=8:=by omega
  rw[← hcs]at ha
  refine RN 2 ha hs λa ha=>?_
  exact⟨bs.length-(i+1),by omega,i+1,⟨rfl,by omega⟩,ha.keep [5,10,11,12],hs⟩
 obtain rfl:i=bs.length:=by omega
 rw[List.take_length]at ha
 refine RN 3 ha hs λa ha=>?_
 rw[com_u32 (crcL_lt bs)]at ha
 refine RT 1 ha hs ?_
 exact⟨rfl,hs⟩
theorem crc_sum (hs:St W w L)(hb:bs.length≤1099511627776)(hp:∀ w',St W w' L→RdB w' ad bs.length bs) :
   Calls Tryz.prog 224 #[.slice ad bs.length c] w λe w'=>e=.returned (.int .u32 (crcSum bs))∧St W w' L:=by
 refine EN Tryz.func224 Tryz.ntmps224 rfl rfl λa ha=>?_
 refine CL 4 ha hs (crc_more hs hb hp) λa w ha hs=>?_
 refine RT 1 ha hs ?_
 exact⟨rfl,hs⟩
theorem refSum_spec (hs:St W w L)(hb:bs.length≤1099511627776)(hp:∀ w',St W w' L→RdB w' ad bs.length bs) :
   Calls Tryz.prog 80 #[.slice ad bs.length c] w λe w'=>e=.returned (.int .u32 (crcSum bs))∧St W w' L:=by
 refine EN Tryz.func80 Tryz.ntmps80 rfl rfl λa ha=>?_
 refine RN 7 ha hs λa ha=>?_
 refine wp_loop_ghost (λμ a w=>∃ (i:Nat),(μ=bs.length-i∧i≤bs.length)∧Fr a 33 [(0,.slice ad bs.length c),(3,.int .u32 (crcL (bs.take i))),(4,.int .i64 i)]∧St W w L) (bs.length) (⟨0,⟨rfl,by omega⟩,ha.keep [0,3,4],hs⟩) ?_
 clear ha hs
 rintro μ a w ⟨i,⟨rfl,hi⟩,ha,hs⟩
 refine IF 6 ha hs (λhc0 a ha=>?_) λhc0 a ha=>?_
 ·
  obtain⟨bb,oo,rfl,hr⟩:=(hp _ hs).get (by omega)
  have hil:i<bs.length:=by omega
  have hx:=crcL_lt (bs.take i)
  have hb8:=u8_lt bs[i]
  refine RN 6 ha hs λa ha=>?_
  refine SS ha (ld1 ha (hr i _ (bc_at hil))) λa ha=>?_
  refine SX 0 ha hs (by rw[wrap_u32];omega) λa ha=>?_
  refine RN 1 ha hs λa ha=>?_
  rw[xor_u32 hx (by omega)]at ha
  refine RN 3 ha hs λa ha=>?_
  have hy:crcL (bs.take i) ^^^ bs[i].toNat<4294967296:=Nat.xor_lt_two_pow (n:=32) hx (by show _<4294967296;omega)
  have hcs:=crcL_succ hil
  rw[crcByte]at hcs
  generalize crcL (bs.take i) ^^^ bs[i].toNat=y at ha hy hcs
  refine wp_loop_ghost (λμ a w=>∃ (k:Nat),(μ=8-k∧k≤8)∧Fr a 33 [(0,.slice (some ⟨bb,oo,none⟩) bs.length c),(3,.int .u32 (crcBits k y)),(4,.int .i64 i),(5,.int .i64 k)]∧St W w L) (8) (⟨0,⟨rfl,by omega⟩,ha.keep [0,3,4,5],hs⟩) ?_
  clear ha hs
  rintro μ a w ⟨k,⟨rfl,hk⟩,ha,hs⟩
  refine IF 4 ha hs (λhc1 a ha=>?_) λhc1 a ha=>?_
  ·
   have hyk:=crcBits_lt hy k
   have hb1:crcBits (k+1) y=crcBit (crcBits k y):=rfl
   refine SX 3 ha hs (by decide) λa ha=>?_
   rw[show ((crcBits k y:Nat):Int).tmod 2=((crcBits k y%2:Nat):Int) from remN _ 2]at ha
   refine IF 1 ha hs (λhc2 a ha=>?_) λhc2 a ha=>?_
   ·
    rw[crcBit,if_pos (by omega)]at hb1
    refine RN 2 ha hs λa ha=>?_
    rw[show ((crcBits k y:Nat):Int).fdiv (2 ^ 1)=((crcBits k y/2:Nat):Int) from fdivN _ 2]at ha
    refine RN 1 ha hs λa ha=>?_
    rw[crc_xorP hyk,← hb1]at ha
    refine RN 4 ha hs λa ha=>?_
    exact⟨8-(k+1),by omega,k+1,⟨rfl,by omega⟩,ha.keep [0,3,4,5],hs⟩
   rw[crcBit,if_neg (by omega)]at hb1
   refine RN 2 ha hs λa ha=>?_
   rw[show ((crcBits k y:Nat):Int).fdiv (2 ^ 1)=((crcBits k y/2:Nat):Int) from fdivN _ 2,← hb1]at ha
   refine RN 4 ha hs λa ha=>?_
   exact⟨8-(k+1),by omega,k+1,⟨rfl,by omega⟩,ha.keep [0,3,4,5],hs⟩
  obtain rfl:k=8:=by omega
  rw[← hcs]at ha
  refine RN 3 ha hs λa ha=>?_
  exact⟨bs.length-(i+1),by omega,i+1,⟨rfl,by omega⟩,ha.keep [0,3,4],hs⟩
 obtain rfl:i=bs.length:=by omega
 rw[List.take_length]at ha
 refine RN 3 ha hs λa ha=>?_
 rw[com_u32 (crcL_lt bs)]at ha
 refine RT 1 ha hs ?_
 exact⟨rfl,hs⟩
theorem four_shape {x:Nat}:[[Value.int .u8 (IntKind.u8.wrap ((x/16777216:Nat):Int))],[Value.int .u8 (IntKind.u8.wrap ((x/65536:Nat):Int))],[Value.int .u8 (IntKind.u8.wrap ((x/256:Nat):Int))],[Value.int .u8 (IntKind.u8.wrap ((x:Nat):Int))]].flatten=bc (fourL x):=by
 simp only[u8nat];rfl
theorem St.fourS {b:Nat}{cs:List Value}{l:List UInt8}{e:Nat}(hs:St W w (blk b e cs::L))(he:e=5)(hl:l.length=4)(h:cs=bc l):St W w (Sl 5 1 (some ⟨b,0,none⟩) 4 4 (bc l)::L):=by
 subst h;subst he
 have h2:St W w (blk b 5 ([]++bc l++[])::L):=by simpa using hs
 exact St.slShut (pre:=[]) (post:=[]) (n:=4) (c:=4) (sz:=1) (cs:=bc l) h2 (by rw[bc_len,hl]) (Nat.le_refl _) (Nat.zero_le _)
theorem num_four {x:Nat}(hs:St W w L) :
   Calls Tryz.prog 273 #[.int .u32 x] w λe w'=>∃ ad,e=.returned (.slice ad 4 4)∧St W w' (Sl 5 1 ad 4 4 (bc (fourL x))::L):=by
 refine EN Tryz.func273 Tryz.ntmps273 rfl rfl λa ha=>?_
 refine RN 5 ha hs λa ha=>?_
 rw[show ((x:Nat):Int).fdiv (2 ^ 24)=((x/16777216:Nat):Int) from fdivN _ 16777216]at ha
 refine SS ha (ex_convII ha Tryz.underlying68 Tryz.underlying5) λa ha=>?_
 refine RN 2 ha hs λa ha=>?_
 rw[show ((x:Nat):Int).fdiv (2 ^ 16)=((x/65536:Nat):Int) from fdivN _ 65536]at ha
 refine SS ha (ex_convII ha Tryz.underlying68 Tryz.underlying5) λa ha=>?_
 refine RN 2 ha hs λa ha=>?_
 rw[show ((x:Nat):Int).fdiv (2 ^ 8)=((x/256:Nat):Int) from fdivN _ 256]at ha
 refine SS ha (ex_convII ha Tryz.underlying68 Tryz.underlying5) λa ha=>?_
 refine RN 1 ha hs λa ha=>?_
 refine SS ha (ex_convII ha Tryz.underlying68 Tryz.underlying5) λa ha=>?_
 refine RN 0 ha hs λa ha=>?_
 refine st_buildSlice ha rfl hs Tryz.underlying22 Ty.t5 rfl rfl rfl rfl (by decide) (by decide) λb14 a w ha hs ho=>?_
 clear ho
 refine RT 1 ha hs ?_
 exact⟨_,rfl,hs.fourS rfl rfl four_shape⟩
theorem refFour_spec {x:Nat}(hs:St W w L) :
   Calls Tryz.prog 78 #[.int .u32 x] w λe w'=>∃ ad,e=.returned (.slice ad 4 4)∧St W w' (Sl 5 1 ad 4 4 (bc (fourL x))::L):=by
 refine EN Tryz.func78 Tryz.ntmps78 rfl rfl λa ha=>?_
 refine RN 5 ha hs λa ha=>?_
 rw[show ((x:Nat):Int).fdiv (2 ^ 24)=((x/16777216:Nat):Int) from fdivN _ 16777216]at ha
 refine SS ha (ex_convII ha Tryz.underlying68 Tryz.underlying5) λa ha=>?_
 refine RN 2 ha hs λa ha=>?_
 rw[show ((x:Nat):Int).fdiv (2 ^ 16)=((x/65536:Nat):Int) from fdivN _ 65536]at ha
 refine SS ha (ex_convII ha Tryz.underlying68 Tryz.underlying5) λa ha=>?_
 refine RN 2 ha hs λa ha=>?_
 rw[show ((x:Nat):Int).fdiv (2 ^ 8)=((x/256:Nat):Int) from fdivN _ 256]at ha
 refine SS ha (ex_convII ha Tryz.underlying68 Tryz.underlying5) λa ha=>?_
 refine RN 1 ha hs λa ha=>?_
 refine SS ha (ex_convII ha Tryz.underlying68 Tryz.underlying5) λa ha=>?_
 refine RN 0 ha hs λa ha=>?_
 refine st_buildSlice ha rfl hs Tryz.underlying22 Ty.t5 rfl rfl rfl rfl (by decide) (by decide) λb14 a w ha hs ho=>?_
 clear ho
 refine RT 1 ha hs ?_
 exact⟨_,rfl,hs.fourS rfl rfl four_shape⟩
theorem word_put {x:Int}(hs:St W w L) :
   Calls Tryz.prog 154 #[.int .i32 x] w λe w'=>∃ ad,e=.returned (.slice ad 4 4)∧St W w' (Sl 5 1 ad 4 4 (bc (fourL (unI x)))::L):=by
 refine EN Tryz.func154 Tryz.ntmps154 rfl rfl λa ha=>?_
 refine RN 4 ha hs λa ha=>?_
 refine SS ha (ex_convII ha Tryz.underlying21 Tryz.underlying68) λa ha=>?_
 rw[wrap_un]at ha
 generalize unI x=x at ha ⊢
 refine RN 4 ha hs λa ha=>?_
 rw[show ((x:Nat):Int).fdiv (2 ^ 24)=((x/16777216:Nat):Int) from fdivN _ 16777216]at ha
 refine SS ha (ex_convII ha Tryz.underlying68 Tryz.underlying5) λa ha=>?_
 refine RN 2 ha hs λa ha=>?_
 rw[show ((x:Nat):Int).fdiv (2 ^ 16)=((x/65536:Nat):Int) from fdivN _ 65536]at ha
 refine SS ha (ex_convII ha Tryz.underlying68 Tryz.underlying5) λa ha=>?_
 refine RN 2 ha hs λa ha=>?_
 rw[show ((x:Nat):Int).fdiv (2 ^ 8)=((x/256:Nat):Int) from fdivN _ 256]at ha
 refine SS ha (ex_convII ha Tryz.underlying68 Tryz.underlying5) λa ha=>?_
 refine RN 1 ha hs λa ha=>?_
 refine SS ha (ex_convII ha Tryz.underlying68 Tryz.underlying5) λa ha=>?_
 refine RN 0 ha hs λa ha=>?_
 refine st_buildSlice ha rfl hs Tryz.underlying22 Ty.t5 rfl rfl rfl rfl (by decide) (by decide) λb17 a w ha hs ho=>?_
 clear ho
 refine RT 1 ha hs ?_
 exact⟨_,rfl,hs.fourS rfl rfl four_shape⟩
end
end
section
def getL:List UInt8→Nat→Nat→Option (Nat×Nat)
 | [],_,_=>none
 | c::cs,i,u =>
   if i=9∧1<c.toNat then none
   else if 127<c.toNat then getL cs (i+1) (u+c.toNat%128*128 ^ i)
   else if 0<i∧c.toNat=0 then none
   else some (u+c.toNat*128 ^ i,i+1)
def getF (bs:List UInt8):Option (Nat×Nat):=getL bs 0 0
def unzz (u:Nat):Int:=if u%2=1 then -((u/2:Nat):Int)-1 else ((u/2:Nat):Int)
theorem unzz_zz (n:Int):unzz (zz n)=n:=by
 unfold unzz zz
 split <;> split <;> omega
theorem zz_lt {n:Int}(h1:-9223372036854775808≤n)(h2:n≤9223372036854775807):zz n<18446744073709551616:=by
 unfold zz;split <;> omega
theorem pow_mul128 (i:Nat):128 ^ (i+1)=128 ^ i*128:=Nat.pow_succ ..
theorem getL_put (r:List UInt8):∀ (v i u:Nat),v*128 ^ i<18446744073709551616→(i=0∨0<v)→i≤9→getL (putL v++r) i u=some (u+v*128 ^ i,i+(putL v).length):=by
 intro v
 induction v using Nat.strongRecOn with
 | _ v ih =>
   intro i u hv h0 hi
   by_cases hs:v≤127
   · rw[putL_small hs]
     have hb:(UInt8.ofNat v).toNat=v:=by rw[UInt8.toNat_ofNat'];omega
     simp only[List.cons_append,List.nil_append,getL,hb,List.length_singleton]
     have h9:¬ (i=9∧1<v):=by
       rintro⟨hi9,h⟩
       rw[hi9]at hv
       have:v*128 ^ 9 ≥ 2*128 ^ 9:=Nat.mul_le_mul_right _ h
       have h9':(128:Nat) ^ 9=9223372036854775808:=by decide
       omega
     rw[if_neg h9,if_neg (by omega),if_neg (by omega)]
   · rw[putL_big hs]
     have hb:(UInt8.ofNat (v%128+128)).toNat=v%128+128:=by rw[UInt8.toNat_ofNat'];omega
     simp only[List.cons_append,getL,hb,List.length_cons]
     have hle:128 ^ (i+1)≤v*128 ^ i:=by rw[pow_mul128,Nat.mul_comm];exact Nat.mul_le_mul_right _ (by omega)
     have hi9:i+1≤9:=by
       rcases Nat.lt_or_ge i 9 with h | h
       · omega
       · have:128 ^ 10≤128 ^ (i+1):=Nat.pow_le_pow_right (by decide) (by omega)
         have h10:(128:Nat) ^ 10=1180591620717411303424:=by decide
         omega
     have hdv:v/128*128 ^ (i+1)+v%128*128 ^ i=v*128 ^ i:=by
       rw[pow_mul128,show v/128*(128 ^ i*128)=128*(v/128)*128 ^ i from by rw[Nat.mul_comm (128 ^ i),← Nat.mul_assoc,Nat.mul_comm (v/128)],← Nat.add_mul,Nat.div_add_mod]
     rw[if_neg (by omega),if_pos (by omega),ih (v/128) (by omega) (i+1) _ (by omega) (.inr (by omega)) hi9]
     rw[show (v%128+128)%128=v%128 from by omega]
     congr 2
     · omega
     · omega
theorem getF_put {n:Int}(h1:-9223372036854775808≤n)(h2:n≤9223372036854775807)(r:List UInt8):getF (putL (zz n)++r)=some (zz n,(putL (zz n)).length):=by
 have:=getL_put r (zz n) 0 0 (by have:=zz_lt h1 h2;omega) (.inl rfl) (by decide)
 simpa [getF] using this
theorem getL_bd:∀ (bs:List UInt8) (i u:Nat) {v k:Nat},i≤9→u<128 ^ i→getL bs i u=some (v,k)→v<18446744073709551616∧i+1≤k∧k≤i+bs.length∧k≤10
 | [],_,_,_,_,_,_,h=>by cases h
 | c::cs,i,u,v,k,hi,hu,h=>by
   rw[getL]at h
   have hc:=u8_lt c
   have hp:128 ^ i≤128 ^ 9:=Nat.pow_le_pow_right (by decide) hi
   have h9:(128:Nat) ^ 9=9223372036854775808:=by decide
   split at h
   · cases h
   rename_i n9
   split at h
   · rename_i hb
     have hm:c.toNat%128*128 ^ i≤127*128 ^ i:=Nat.mul_le_mul_right _ (by omega)
     have:=getL_bd cs (i+1) _ (by omega) (by rw[pow_mul128];omega) h
     simp only[List.length_cons]
     omega
   · rename_i hb
     split at h
     · cases h
     · obtain⟨rfl,rfl⟩:u+c.toNat*128 ^ i=v∧i+1=k:=by simpa using h
       simp only[List.length_cons]
       refine⟨?_,by omega,by omega,by omega⟩
       rcases Nat.lt_or_ge i 9 with h8 | h8
       · have hp8:128 ^ i≤128 ^ 8:=Nat.pow_le_pow_right (by decide) (by omega)
         have h88:(128:Nat) ^ 8=72057594037927936:=by decide
         have hm:c.toNat*128 ^ i≤127*128 ^ i:=Nat.mul_le_mul_right _ (by omega)
         omega
       · have:i=9:=by omega
         subst this
         have hm:c.toNat*128 ^ 9≤1*128 ^ 9:=Nat.mul_le_mul_right _ (by omega)
         omega
theorem getF_bd {bs:List UInt8}{v k:Nat}(h:getF bs=some (v,k)):v<18446744073709551616∧1≤k∧k≤bs.length∧k≤10:=by
 have:=getL_bd bs 0 0 (by decide) (by decide) h
 omega
def GetR (bs:List UInt8)(x:Int)(k:Nat)(er:Int):Prop :=
 (-9223372036854775808≤x∧x≤9223372036854775807)∧(er=0∨er=1∨er=2)∧(er=0→1≤k∧k≤bs.length)∧(er≠0→k=0∧x=0) ∧
 ∀ (n:Int) (r:List UInt8), -9223372036854775808≤n→n≤9223372036854775807→bs=putL (zz n)++r→x=n∧k=(putL (zz n)).length∧er=0
theorem GetR.bad {bs:List UInt8}{er:Int}(h:getF bs=none)(he:er=1∨er=2):GetR bs 0 0 er:=by
 refine⟨by omega,by omega,by omega,λ_=>⟨rfl,rfl⟩,λn r h1 h2 e=>?_⟩
 rw[e,getF_put h1 h2]at h;cases h
theorem GetR.good {bs:List UInt8}{u k:Nat}(h:getF bs=some (u,k)):GetR bs (unzz u) k 0:=by
 have hb:=getF_bd h
 refine⟨?_,by omega,by omega,by omega,λn r h1 h2 e=>?_⟩
 · unfold unzz;split <;> omega
 · rw[e,getF_put h1 h2]at h
   obtain⟨rfl,rfl⟩:zz n=u∧(putL (zz n)).length=k:=by simpa using h
   exact⟨unzz_zz n,rfl,rfl⟩
def runN (x:UInt8):List UInt8→Nat
 | []=>0
 | y::ys=>if y=x then runN x ys+1 else 0
theorem runN_le (x:UInt8):∀ l:List UInt8,runN x l≤l.length
 | []=>Nat.le_refl _
 | y::ys=>by
   have:=runN_le x ys
   rw[runN];split <;> simp only[List.length_cons] <;> omega
def runsL (l:List UInt8)(last:UInt8):List UInt8:=match l with
 | []=>[]
 | x::xs=>putL (zz ((runN x xs+1:Nat):Int))++(x ^^^ last)::runsL (xs.drop (runN x xs)) x
termination_by l.length
decreasing_by simp only[List.length_drop,List.length_cons];omega
theorem runsL_nil (last:UInt8):runsL [] last=[]:=by rw[runsL]
theorem runsL_cons (x:UInt8)(xs:List UInt8)(last:UInt8):runsL (x::xs) last=putL (zz ((runN x xs+1:Nat):Int))++(x ^^^ last)::runsL (xs.drop (runN x xs)) x:=by rw[runsL]
theorem runN_take (x:UInt8):∀ l:List UInt8,l.take (runN x l)=List.replicate (runN x l) x
 | []=>rfl
 | y::ys=>by
   rw[runN]
   split
   · rename_i h;subst h;rw[List.take_succ_cons,runN_take y ys,List.replicate_succ]
   · rfl
theorem runN_next (x:UInt8):∀ (l:List UInt8) (y:UInt8) (r:List UInt8),l.drop (runN x l)=y::r→y≠x
 | [],_,_,h=>by simp[runN]at h
 | z::zs,y,r,h=>by
   rw[runN]at h
   split at h
   · exact runN_next x zs y r h
   · rename_i hn
     rw[List.drop_zero]at h
     cases h;exact hn
theorem runN_eq {x:UInt8}{l:List UInt8}{n:Nat}(h1:∀ i,i<n→l[i]?=some x)(h2:l[n]?≠some x):runN x l=n:=by
 induction l generalizing n with
 | nil =>
   cases n with
   | zero=>rfl
   | succ n=>have:=h1 0 (by omega);simp at this
 | cons y ys ih =>
   cases n with
   | zero =>
     rw[runN,if_neg]
     intro e;subst e;simp at h2
   | succ n =>
     have h0:=h1 0 (by omega)
     simp at h0
     rw[runN,if_pos h0,ih (n:=n) (λi hi=>by have:=h1 (i+1) (by omega);simpa using this) (by simpa using h2)]
theorem runsL_len (l:List UInt8):∀ last,(runsL l last).length≤11*l.length:=by
 induction hn:l.length using Nat.strongRecOn generalizing l with
 | _ n ih =>
   intro last
   cases l with
   | nil=>rw[runsL_nil];simp
   | cons x xs =>
     rw[runsL_cons,List.length_append,List.length_cons]
     have h1:=runN_le x xs
     subst hn
     simp only[List.length_cons]
     by_cases hb:xs.length<4611686018427387904
     · have h2 := putL_len 9 (zz ((runN x xs + 1 : Nat) : Int)) (by
         have:zz ((runN x xs+1:Nat):Int)=2*(runN x xs+1):=by unfold zz;rw[if_neg (by omega)];omega
         rw[this]
         have h10:(128:Nat) ^ (9+1)=1180591620717411303424:=by decide
         omega)
       have h3:=ih (xs.drop (runN x xs)).length (by simp only[List.length_drop,List.length_cons];omega) (xs.drop (runN x xs)) rfl x
       simp only[List.length_drop]at h3
       omega
     · have h2 : (putL (zz ((runN x xs + 1 : Nat) : Int))).length ≤ runN x xs + 10 := by
         have:∀ u,(putL (2*(u+1))).length≤u+10:=by
           intro u
           induction u using Nat.strongRecOn with
           | _ u ih =>
             by_cases h:2*(u+1)≤127
             · rw[putL_small h];simp
             · rw[putL_big h,List.length_cons]
               by_cases h2:2*(u+1)/128≤127
               · rw[putL_small h2];simp
               · have hq : ∀ v, (putL v).length ≤ v + 1 := by
                   intro v
                   induction v using Nat.strongRecOn with
                   | _ v ihv =>
                     by_cases h3:v≤127
                     · rw[putL_small h3];simp
                     · rw[putL_big h3,List.length_cons]
                       have:=ihv (v/128) (by omega)
                       omega
                 have:=hq (2*(u+1)/128)
                 omega
         have hz:zz ((runN x xs+1:Nat):Int)=2*(runN x xs+1):=by unfold zz;rw[if_neg (by omega)];omega
         rw[hz];exact this _
       have h3:=ih (xs.drop (runN x xs)).length (by simp only[List.length_drop,List.length_cons];omega) (xs.drop (runN x xs)) rfl x
       simp only[List.length_drop]at h3
       omega
theorem xor_back (a b:UInt8):b ^^^ (a ^^^ b)=a:=by rw[UInt8.xor_comm,UInt8.xor_assoc,UInt8.xor_self,UInt8.xor_zero]
theorem xor_zero_iff {a b:UInt8}(h:(a ^^^ b).toNat=0):a=b:=by
 have h0:a ^^^ b=0:=UInt8.toNat_inj.1 (by simpa using h)
 have:=xor_back a b
 rw[h0,UInt8.xor_zero]at this
 exact this.symm
def RunsAt (p out:List UInt8)(last:UInt8)(rest:List UInt8):Prop:=∃ q,p=out++q∧rest=runsL q last∧(out=[]∨∀ y r,q=y::r→y≠last)
theorem RunsAt.start (p:List UInt8):RunsAt p [] 0 (runsL p 0):=⟨p,rfl,rfl,.inl rfl⟩
theorem RunsAt.done {p out:List UInt8}{last:UInt8}(h:RunsAt p out last []):p=out:=by
 obtain⟨q,h1,h2,_⟩:=h
 cases q with
 | nil=>simpa using h1
 | cons x xs =>
   rw[runsL_cons]at h2
   have:=congrArg List.length h2
   simp at this
theorem RunsAt.next {p out:List UInt8}{last:UInt8}{rest:List UInt8}(h:RunsAt p out last rest)(h0:rest≠[]):∃ (m:Nat) (x:UInt8) (r:List UInt8),rest=putL (zz ((m+1:Nat):Int))++(x ^^^ last)::r ∧
   out.length+(m+1)≤p.length∧(out≠[]→(x ^^^ last).toNat≠0)∧RunsAt p (out++List.replicate (m+1) x) x r:=by
 obtain⟨q,h1,h2,h3⟩:=h
 cases q with
 | nil=>rw[runsL_nil]at h2;exact absurd h2 h0
 | cons x xs =>
   rw[runsL_cons]at h2
   have hle:=runN_le x xs
   refine⟨runN x xs,x,_,h2,by rw[h1];simp;omega,λho hz=>?_,xs.drop (runN x xs),?_,rfl,.inr λy r hy=>runN_next x xs y r hy⟩
   · rcases h3 with h3 | h3
     · exact ho h3
     · exact h3 x xs rfl (xor_zero_iff hz)
   · rw[h1,List.append_assoc]
     congr 1
     rw[List.replicate_succ,← runN_take,List.cons_append,List.take_append_drop]
structure Pk where
 kind:Int
 from':Int
 to:Int
 id:Int
 first:Int
 ack:Int
 frame:Int
 sum:Nat
 press:List UInt8
def pk0:Pk:=⟨0,0,0,0,0,0,0,0,[]⟩
def frP (n:Int):Prop:=0≤n∧n≤1000
instance (n:Int):Decidable (frP n):=inferInstanceAs (Decidable (_∧_))
def mayPk (p:Pk):Prop:=(0≤p.from'∧p.from'≤7)∧(0≤p.to∧p.to≤7)∧p.from'≠p.to∧(0≤p.id∧p.id≤1099511627776) ∧
 ((p.kind=1∧frP p.first∧frP p.ack∧frP p.frame∧p.press.length≤32)∨(p.kind=2∧p.first=0∧p.ack=0∧p.frame=0∧p.press.length=0∧p.sum=0))
instance (p:Pk):Decidable (mayPk p):=inferInstanceAs (Decidable (_∧_))
def tailPk (p:Pk):List UInt8:=fourL p.sum++(putL (zz (p.press.length:Int))++runsL p.press 0)
def numsPk (p:Pk):List UInt8:=if p.kind=1 then putL (zz p.first)++(putL (zz p.ack)++(putL (zz p.frame)++tailPk p)) else []
def midPk (p:Pk):List UInt8:=putL (zz p.id)++numsPk p
def headPk (p:Pk):List UInt8:=[UInt8.ofNat p.kind.toNat,UInt8.ofNat p.from'.toNat,UInt8.ofNat p.to.toNat]
def bodyPk (p:Pk):List UInt8:=headPk p++midPk p
def encPk (p:Pk):List UInt8:=bodyPk p++fourL (crcSum (bodyPk p))
def encO (p:Pk):List UInt8:=if mayPk p then encPk p else []
theorem fourL_len (x:Nat):(fourL x).length=4:=rfl
theorem encPk_len (p:Pk):(encPk p).length=(midPk p).length+7:=by
 simp[encPk,bodyPk,headPk,fourL_len]
theorem encPk_mid {p:Pk}{bs:List UInt8}(h:encPk p=bs):(bs.drop 3).take (bs.length-7)=midPk p:=by
 subst h
 rw[encPk_len,Nat.add_sub_cancel,encPk]
 generalize crcSum (bodyPk p)=c
 rw[bodyPk,List.append_assoc,List.drop_left' (by rfl),List.take_left' rfl]
theorem encPk_head {p:Pk}{bs:List UInt8}(h:encPk p=bs):bs[0]?=some (UInt8.ofNat p.kind.toNat)∧bs[1]?=some (UInt8.ofNat p.from'.toNat)∧bs[2]?=some (UInt8.ofNat p.to.toNat):=by
 subst h;exact⟨rfl,rfl,rfl⟩
def fourN (a b c d:Nat):Nat:=((a*256+b)*256+c)*256+d
theorem fourL_back {x:Nat}(h:x<4294967296):fourN (UInt8.ofNat (x/16777216)).toNat (UInt8.ofNat (x/65536)).toNat (UInt8.ofNat (x/256)).toNat (UInt8.ofNat x).toNat=x:=by
 simp only[UInt8.toNat_ofNat',fourN];omega
theorem fourL_inj {x y:Nat}(hx:x<4294967296)(hy:y<4294967296)(h:fourL x=fourL y):x=y:=by
 simp only[fourL,List.cons.injEq,and_true]at h
 obtain⟨h1,h2,h3,h4⟩:=h
 have:=fourL_back hx
 rw[h1,h2,h3,h4,fourL_back hy]at this
 exact this.symm
theorem put_inj {n m:Int}{r s:List UInt8}(h1:-9223372036854775808≤n)(h2:n≤9223372036854775807)(h3:-9223372036854775808≤m)(h4:m≤9223372036854775807)(h:putL (zz n)++r=putL (zz m)++s):n=m∧r=s:=by
 have e:=getF_put h1 h2 r
 rw[h,getF_put h3 h4]at e
 obtain⟨e1,e2⟩:zz m=zz n∧_:=by simpa using e
 have:n=m:=by rw[← unzz_zz n,← unzz_zz m,e1]
 subst this
 exact⟨rfl,List.append_cancel_left h⟩
theorem runs_inj:∀ (n:Nat) {p q:List UInt8} {l:UInt8},p.length≤n→p.length≤1000000→q.length≤1000000→runsL p l=runsL q l→p=q
 | n,[],[],_,_,_,_,_=>rfl
 | n,[],y::ys,l,_,_,_,h=>by
   rw[runsL_nil,runsL_cons]at h
   have:=congrArg List.length h
   simp at this
 | n,x::xs,[],l,_,_,_,h=>by
   rw[runsL_nil,runsL_cons]at h
   have:=congrArg List.length h
   simp at this
 | 0,x::xs,y::ys,l,hn,_,_,_=>by simp at hn
 | n+1,x::xs,y::ys,l,hn,hp,hq,h=>by
   have h1:=runN_le x xs
   have h2:=runN_le y ys
   simp only[List.length_cons]at hn hp hq
   rw[runsL_cons,runsL_cons]at h
   obtain⟨e1,e2⟩:=put_inj (by omega) (by omega) (by omega) (by omega) h
   rw[List.cons.injEq]at e2
   obtain⟨e2,e3⟩:=e2
   have exy:x=y:=by
     have:=xor_back x l
     rw[e2,xor_back]at this
     exact this.symm
   subst exy
   have e4:runN x xs=runN x ys:=by omega
   have e5:=runs_inj n (by simp;omega) (by simp;omega) (by simp;omega) e3
   congr 1
   rw[← List.take_append_drop (runN x xs) xs,runN_take,e5,e4,← runN_take,List.take_append_drop]
theorem u8_int {a b:Int}(ha:0≤a∧a<256)(hb:0≤b∧b<256)(h:UInt8.ofNat a.toNat=UInt8.ofNat b.toNat):a=b:=by
 have:=congrArg UInt8.toNat h
 simp only[UInt8.toNat_ofNat']at this
 omega
theorem encPk_inj {p q:Pk}(hp:mayPk p)(hq:mayPk q)(hsp:p.sum<4294967296)(hsq:q.sum<4294967296)(h:encPk p=encPk q):p=q:=by
 have hm:midPk p=midPk q:=by rw[← encPk_mid (p:=p) rfl,← encPk_mid (p:=q) rfl,h]
 have h0:=encPk_head (p:=p) rfl
 have h1:=encPk_head (p:=q) rfl
 rw[h]at h0
 obtain⟨a1,a2,a3⟩:=h0
 obtain⟨b1,b2,b3⟩:=h1
 rw[b1]at a1;rw[b2]at a2;rw[b3]at a3
 obtain⟨f1,t1,n1,i1,k1⟩:=hp
 obtain⟨f2,t2,n2,i2,k2⟩:=hq
 have ek:=u8_int (by omega) (by omega) (Option.some.inj a1)
 have ef:=u8_int (by omega) (by omega) (Option.some.inj a2)
 have et:=u8_int (by omega) (by omega) (Option.some.inj a3)
 rw[midPk,midPk]at hm
 obtain⟨ei,hm⟩:=put_inj (by omega) (by omega) (by omega) (by omega) hm
 obtain⟨pk,pf,pt,pi,p1,p2,p3,p4,p5⟩:=p
 obtain⟨qk,qf,qt,qi,q1,q2,q3,q4,q5⟩:=q
 simp only at *
 subst ek ef et ei
 rcases k1 with ⟨c1,c2,c3,c4,c5⟩ | ⟨c1,c2,c3,c4,c5,c6⟩
 · rcases k2 with ⟨d1,d2,d3,d4,d5⟩ | ⟨d1,_⟩
   · unfold frP at c2 c3 c4 d2 d3 d4
     rw[numsPk,numsPk,if_pos c1,if_pos d1]at hm
     simp only at hm
     obtain⟨e1,hm⟩:=put_inj (by omega) (by omega) (by omega) (by omega) hm
     obtain⟨e2,hm⟩:=put_inj (by omega) (by omega) (by omega) (by omega) hm
     obtain⟨e3,hm⟩:=put_inj (by omega) (by omega) (by omega) (by omega) hm
     rw[tailPk,tailPk]at hm
     simp only at hm
     obtain⟨e4,hm⟩:=List.append_inj hm rfl
     obtain⟨e5,hm⟩:=put_inj (by omega) (by omega) (by omega) (by omega) hm
     have e6:=runs_inj _ (Nat.le_refl _) (by omega) (by omega) hm
     have e7:=fourL_inj hsp hsq e4
     subst e1 e2 e3 e6 e7
     rfl
   · omega
 · rcases k2 with ⟨d1,_⟩ | ⟨d1,d2,d3,d4,d5,d6⟩
   · omega
   · have:=List.eq_nil_of_length_eq_zero c5
     have:=List.eq_nil_of_length_eq_zero d5
     subst c2 c3 c4 c6 d2 d3 d4 d6
     simp_all
def decP (bs:List UInt8)(p:Pk):Prop:=mayPk p∧p.sum<4294967296∧encPk p=bs
open Classical in
noncomputable def decO (bs:List UInt8):Option Pk:=if h:∃ p,decP bs p then some (Classical.choose h) else none
theorem decO_some {bs:List UInt8}{p:Pk}(h:decP bs p):decO bs=some p:=by
 have hx:∃ p,decP bs p:=⟨p,h⟩
 rw[decO,dif_pos hx]
 have h2:=Classical.choose_spec hx
 rw[encPk_inj h2.1 h.1 h2.2.1 h.2.1 (h2.2.2.trans h.2.2.symm)]
theorem decO_none {bs:List UInt8}(h:∀ p,¬ decP bs p):decO bs=none:=by
 rw[decO,dif_neg];exact λ⟨p,hp⟩=>h p hp
theorem decO_is {bs:List UInt8}{p:Pk}(h:decO bs=some p):decP bs p:=by
 rw[decO]at h
 split at h
 · rename_i hx;cases h;exact Classical.choose_spec hx
 · cases h
theorem decP_iff {bs:List UInt8}{p:Pk}(h0:bs≠[])(hs:p.sum<4294967296):decP bs p↔encO p=bs:=by
 unfold decP encO
 split
 · rename_i h;simp[h,hs]
 · rename_i h;simp[h,h0,Ne.symm h0]
theorem midPk_len {p:Pk}(h:mayPk p):(midPk p).length≤500:=by
 obtain⟨_,_,_,i1,k1⟩:=h
 have pl:∀ n:Int,0≤n→n≤1099511627776→(putL (zz n)).length≤10:=λn h0 h1=>putL_len 9 _ (by
   have:zz n<18446744073709551616:=zz_lt (by omega) (by omega)
   have h10:(128:Nat) ^ (9+1)=1180591620717411303424:=by decide
   omega)
 rw[midPk,List.length_append]
 have:=pl p.id i1.1 i1.2
 rcases k1 with ⟨c1,c2,c3,c4,c5⟩ | ⟨c1,_⟩
 · unfold frP at c2 c3 c4
   rw[numsPk,if_pos c1,tailPk]
   simp only[List.length_append,fourL_len]
   have h1:=pl p.first (by omega) (by omega)
   have h2:=pl p.ack (by omega) (by omega)
   have h3:=pl p.frame (by omega) (by omega)
   have h4:=pl p.press.length (by omega) (by omega)
   have h5:=runsL_len p.press 0
   omega
 · rw[numsPk,if_neg (by omega)];simp;omega
end
end Go.Proofs.YtdilfdkendjjhaaGreat
