/- The references' frames: the walks. -/
import Derived.Test.YtagpkhbkdbaigaaGreatRef
namespace Go.Proofs.YtagpkhbkdbaigaaGreat
open Go.RowKit
set_option linter.unusedVariables false
set_option linter.unusedSimpArgs false
set_option maxRecDepth 10000
set_option synthInstance.maxSize 4000
set_option synthInstance.maxHeartbeats 400000
theorem w32_eq {x y : Int} (h1 : -2147483648≤y) (h2 : y≤2147483647) (h3 : x % 4294967296=y % 4294967296) : w32 x=y:=by
 simp only [w32,IntKind.wrap,IntKind.signed,IntKind.bits]
 simp
 split <;> omega
section
variable {W w : World} {L L' R : List SP} {p : Pr} {adO adP : Option Addr} {cO cP : Nat} {b : List UInt8} {g : Nat→Int} {fr : Int}
theorem refRound_spec {x : Int} (hs : St W w L) (h1 : -9223372036854775808≤x) (h2 : x≤9223372036854775807) : Calls Tryz.prog 99 #[.int .i64 x] w fun e w'=>e=.returned (.int .i32 (w32 x))∧St W w' L:=by
 have hq1:=Int.tmod_lt_of_pos x (b:=4294967296) (by decide)
 have hq2:=Int.lt_tmod_of_pos x (b:=4294967296) (by decide)
 have hq3 : (x.tmod 4294967296) % 4294967296=x % 4294967296:=by
   rw [Int.tmod_eq_emod]
   split <;> omega
 refine calls_enter Tryz.func99 rfl Tryz.ntmps99 (Nat.le_of_ble_eq_true rfl) ?_
 intro a ha
 replace ha : Fr a 16 [(0,_)]:=ha
 refine WS<|WR ?_
 refine S1 ha fun a ha=>?_
 refine LN<|TN<|WS<|WR ?_
 refine S1 ha fun a ha=>?_
 refine SK (st_set ha rfl (ex_rem ha (by omega)) rfl fun a ha=>?_)
 refine S1 ha fun a ha=>?_
 refine LN<|TN<|WS<|WS<|WR ?_
 iterate 2 (refine S1 ha fun a ha=>?_)
 refine LN<|TN ?_
 refine WI ha (fun hc0=>?_) (fun hc0=>?_)
 ·
  refine WR ?_
  refine S1 ha fun a ha=>?_
  refine SK (st_set ha rfl (ex_addI ha (by omega) (by omega)) rfl fun a ha=>?_)
  refine S1d ha fun a ha=>?_
  refine LN<|TN<|WS<|WS<|WR ?_
  iterate 2 (refine S1 ha fun a ha=>?_)
  refine LN<|TN ?_
  refine WI ha (fun hc1=>?_) (fun hc1=>?_)
  ·
   refine WR ?_
   refine S1 ha fun a ha=>?_
   refine SK (st_set ha rfl (ex_subI ha (by omega) (by omega)) rfl fun a ha=>?_)
   refine S1d ha fun a ha=>?_
   refine LN<|TN<|WS<|WR ?_
   refine S1 ha fun a ha=>?_
   refine SK (st_set ha rfl (ex_convIIs ha Tryz.underlying2 Tryz.underlying21 (wrap32' (by omega) (by omega))) rfl fun a ha=>?_)
   refine S1d ha fun a ha=>?_
   refine LN<|TN<|wp_ret ?_
   refine ret1 ha rfl ?_
   exact ⟨by rw [w32_eq (y:=x.tmod 4294967296+4294967296 - 4294967296) (by omega) (by omega) (by omega)],hs⟩
  ·
   refine WK<|TN<|WS<|WR ?_
   refine S1 ha fun a ha=>?_
   refine SK (st_set ha rfl (ex_convIIs ha Tryz.underlying2 Tryz.underlying21 (wrap32' (by omega) (by omega))) rfl fun a ha=>?_)
   refine S1d ha fun a ha=>?_
   refine LN<|TN<|wp_ret ?_
   refine ret1 ha rfl ?_
   exact ⟨by rw [w32_eq (y:=x.tmod 4294967296+4294967296) (by omega) (by omega) (by omega)],hs⟩
 ·
  refine WK<|TN<|WS<|WS<|WR ?_
  iterate 2 (refine S1 ha fun a ha=>?_)
  refine LN<|TN ?_
  refine WI ha (fun hc1=>?_) (fun hc1=>?_)
  ·
   refine WR ?_
   refine S1 ha fun a ha=>?_
   refine SK (st_set ha rfl (ex_subI ha (by omega) (by omega)) rfl fun a ha=>?_)
   refine S1d ha fun a ha=>?_
   refine LN<|TN<|WS<|WR ?_
   refine S1 ha fun a ha=>?_
   refine SK (st_set ha rfl (ex_convIIs ha Tryz.underlying2 Tryz.underlying21 (wrap32' (by omega) (by omega))) rfl fun a ha=>?_)
   refine S1d ha fun a ha=>?_
   refine LN<|TN<|wp_ret ?_
   refine ret1 ha rfl ?_
   exact ⟨by rw [w32_eq (y:=x.tmod 4294967296 - 4294967296) (by omega) (by omega) (by omega)],hs⟩
  ·
   refine WK<|TN<|WS<|WR ?_
   refine S1 ha fun a ha=>?_
   refine SK (st_set ha rfl (ex_convIIs ha Tryz.underlying2 Tryz.underlying21 (wrap32' (by omega) (by omega))) rfl fun a ha=>?_)
   refine S1d ha fun a ha=>?_
   refine LN<|TN<|wp_ret ?_
   refine ret1 ha rfl ?_
   exact ⟨by rw [w32_eq (y:=x.tmod 4294967296) (by omega) (by omega) (by omega)],hs⟩
theorem refMod_spec {x : Int} (hs : St W w L) (hx : i32P x) : Calls Tryz.prog 98 #[.int .i32 x,.int .i64 32] w fun e w'=>e=.returned (.int .i64 (mod32 x))∧St W w' L:=by
 have h1:=Int.tmod_lt_of_pos x (b:=32) (by decide)
 have h2:=Int.lt_tmod_of_pos x (b:=32) (by decide)
 have hm : (mod32 x : Int)=x % 32:=by
   have h1:=Int.emod_nonneg x (show (32 : Int)≠0 by decide)
   show (((x % 32).toNat : Nat) : Int)=_
   omega
 have ht : x.tmod 32=if 0≤x then x % 32 else -((-x) % 32):=by
   split
   · exact Int.tmod_eq_emod_of_nonneg (by omega)
   · rw [← Int.neg_neg (x.tmod 32),← Int.neg_tmod,Int.tmod_eq_emod_of_nonneg (by omega)]
 simp only [i32P] at hx
 refine calls_enter Tryz.func98 rfl Tryz.ntmps98 (Nat.le_of_ble_eq_true rfl) ?_
 intro a ha
 replace ha : Fr a 18 [(0,_),(1,_)]:=ha
 refine WS<|WR ?_
 refine S1 ha fun a ha=>?_
 refine LN<|TN<|WS<|WS<|WR ?_
 iterate 2 (refine S1 ha fun a ha=>?_)
 refine LN<|TN<|WFa ha<|WK<|TN<|WS<|WR ?_
 refine S1 ha fun a ha=>?_
 refine SK (st_set ha rfl (ex_convIIs ha Tryz.underlying21 Tryz.underlying2 (wrap_in (by omega) (by omega))) rfl fun a ha=>?_)
 refine S1 ha fun a ha=>?_
 refine SK (st_set ha rfl (ex_rem ha (by omega)) rfl fun a ha=>?_)
 refine S1 ha fun a ha=>?_
 refine LN<|TN<|WS<|WS<|WR ?_
 iterate 2 (refine S1 ha fun a ha=>?_)
 refine LN<|TN ?_
 refine WI ha (fun hc1=>?_) (fun hc1=>?_)
 ·
  refine WR ?_
  iterate 2 (refine S1 ha fun a ha=>?_)
  refine SK (st_set ha rfl (ex_addI ha (by omega) (by omega)) rfl fun a ha=>?_)
  refine S1d ha fun a ha=>?_
  refine LN ?_
  rw [show x.tmod 32+32=(mod32 x : Int) from by rw [hm,ht]; split <;> omega] at ha
  refine TN<|WS<|WR ?_
  refine S1 ha fun a ha=>?_
  refine S1d ha fun a ha=>?_
  refine LN<|TN<|wp_ret ?_
  refine ret1 ha rfl ?_
  exact ⟨rfl,hs⟩
 ·
  refine WK<|TN<|WS<|WR ?_
  refine S1 ha fun a ha=>?_
  refine S1d ha fun a ha=>?_
  refine LN<|TN<|wp_ret ?_
  refine ret1 ha rfl ?_
  exact ⟨by rw [hm,show x.tmod 32=x % 32 from by rw [ht] at *; split at*<;> omega],hs⟩
theorem pressed_spec {x : Int} (hs : St W w L) (hx : i32P x) (hb : b.length≤1099511627776) (hp : ∀ w',St W w' L→RdB w' adP b.length b) :
   Calls Tryz.prog 97 #[.slice adP b.length cP,.int .i32 x] w fun e w'=>e=.returned (.int .i32 (pressI b x))∧St W w' L:=by
 simp only [i32P] at hx
 refine calls_enter Tryz.func97 rfl Tryz.ntmps97 (Nat.le_of_ble_eq_true rfl) ?_
 intro a ha
 replace ha : Fr a 19 [(0,_),(1,_)]:=ha
 refine WS<|WR ?_
 refine S1 ha fun a ha=>?_
 refine LN<|TN<|WS<|WS<|WR ?_
 iterate 3 (refine S1 ha fun a ha=>?_)
 refine ha.by (s:=7) (fun hg2 ha=>?_) (fun hg2 ha=>?_)
 ·
  iterate 5 (refine SO (s:=7) ha fun a ha=>?_)
  refine PT ha fun a ha=>?_
  refine LN<|TN<|WTr ha<|WS<|WR ?_
  refine S1d ha fun a ha=>?_
  refine LN<|TN<|wp_ret<|TR ?_
  refine ret1 ha rfl ?_
  exact ⟨by rw [pressI,if_neg (by omega)],hs⟩
 ·
  refine S1g (s:=7) ha fun a ha=>?_
  refine SK (st_set ha (wgT ha rfl (s:=7)) (ex_convIIs ha Tryz.underlying21 Tryz.underlying3 (by rw [wrap_in (by omega) (by omega)])) rfl fun a ha=>?_)
  iterate 3 (refine S1g (s:=7) ha fun a ha=>?_)
  refine PF ha fun a ha=>?_
  refine LN<|TN ?_
  refine WI ha (fun hc0=>?_) (fun hc0=>?_)
  ·
   refine WS<|WR ?_
   refine S1d ha fun a ha=>?_
   refine LN<|TN<|wp_ret<|TR ?_
   refine ret1 ha rfl ?_
   exact ⟨by rw [pressI,if_neg (by omega)],hs⟩
  ·
   refine WK<|TN<|WS ?_
   obtain ⟨k,hk⟩ : ∃ k : Nat,x=(k : Int):=⟨x.toNat,by omega⟩
   obtain ⟨_,_,hpr⟩:=hp _ hs
   have hkb : k < b.length:=by omega
   obtain ⟨bp,op,hade,hrd⟩ : ∃ bp op,adP=some ⟨bp,op,none⟩∧Rd w bp op (bc b):=by
     cases hh : adP with
     | none =>
       have:=(hp _ hs).2.1 hh
       omega
     | some a =>
       obtain ⟨b1,o1,rfl,h1⟩:=hpr a hh (by omega)
       exact ⟨b1,o1,rfl,h1⟩
   rw [hk] at ha
   refine WR ?_
   refine S1 ha fun a ha=>?_
   rw [hade] at ha
   refine S1 ha fun a ha=>?_
   refine SK (st_set ha rfl (ex_indexAddr ha Tryz.underlying22 Ty.t5 (by omega)) rfl fun a ha=>?_)
   rw [Nat.mul_one] at ha
   refine SL ha (hrd k (.int .u8 b[k].toNat) (by simp [bc,hkb])) fun a ha=>?_
   refine SK (st_set ha rfl (ex_convIIs ha Tryz.underlying5 Tryz.underlying21 (by have:=b[k].toNat_lt; exact wrap32' (by omega) (by omega))) rfl fun a ha=>?_)
   refine S1d ha fun a ha=>?_
   refine LN<|TN<|wp_ret ?_
   refine ret1 ha rfl ?_
   refine ⟨?_,hs⟩
   rw [pressI,if_pos (by omega),hk,Int.toNat_natCast,List.getD_eq_getElem?_getD,List.getElem?_eq_getElem hkb]; rfl
theorem refDiv_spec {x y : Int} (hs : St W w L) (hx : i32P x) (hy : i32P y) : Calls Tryz.prog 135 #[.int .i32 x,.int .i32 y] w fun e w'=>e=.returned (.int .i32 (if y=0 then 0 else w32 (x.tdiv y)))∧St W w' L:=by
 simp only [i32P] at hx hy
 have hq : y≠0 → -9223372036854775808≤x.tdiv y∧x.tdiv y≤9223372036854775807:=fun h=>by
   have h1 : (x.tdiv y).natAbs≤x.natAbs:=by rw [Int.natAbs_tdiv]; exact Nat.div_le_self _ _
   omega
 refine calls_enter Tryz.func135 rfl Tryz.ntmps135 (Nat.le_of_ble_eq_true rfl) ?_
 intro a ha
 replace ha : Fr a 13 [(0,_),(1,_)]:=ha
 refine WS<|WR ?_
 refine S1 ha fun a ha=>?_
 refine LN<|TN<|WS<|WS<|WR ?_
 iterate 2 (refine S1 ha fun a ha=>?_)
 refine LN<|TN ?_
 refine WI ha (fun hc0=>?_) (fun hc0=>?_)
 ·
  refine WS<|WR ?_
  refine S1d ha fun a ha=>?_
  refine LN<|TN<|wp_ret<|TR ?_
  refine ret1 ha rfl ?_
  exact ⟨by rw [if_pos hc0],hs⟩
 ·
  refine WK<|TN<|WS<|WR ?_
  refine S1 ha fun a ha=>?_
  refine SK (st_set ha rfl (ex_convIIs ha Tryz.underlying21 Tryz.underlying2 (wrap_in (by omega) (by omega))) rfl fun a ha=>?_)
  refine S1 ha fun a ha=>?_
  refine SK (st_set ha rfl (ex_convIIs ha Tryz.underlying21 Tryz.underlying2 (wrap_in (by omega) (by omega))) rfl fun a ha=>?_)
  refine SK (st_set ha rfl (ex_quoW ha (by omega)) rfl fun a ha=>?_)
  rw [wrap_in (hq hc0).1 (hq hc0).2] at ha
  refine SK (st_call ha rfl Ty.c99 rfl (refRound_spec hs (hq hc0).1 (hq hc0).2) ?_); clear ha hs
  rintro e w ⟨rfl,hs⟩
  refine ⟨_,rfl,?_⟩
  intro a ha
  refine S1d ha fun a ha=>?_
  refine LN<|TN<|wp_ret ?_
  refine ret1 ha rfl ?_
  exact ⟨by rw [if_neg hc0],hs⟩
theorem reckon_spec {k x y : Int} (hs : St W w L) (hx : i32P x) (hy : i32P y) : Calls Tryz.prog 100 #[.int .i64 k,.int .i32 x,.int .i32 y] w fun e w'=>e=.returned (.int .i32 (sumI k x y))∧St W w' L:=by
 have hx2:=hx
 have hy2:=hy
 simp only [i32P] at hx2 hy2
 have hmul : -9223372036854775808≤x*y∧x*y≤9223372036854775807:=by
   have h1 : (x*y).natAbs≤2147483648*2147483648:=by rw [Int.natAbs_mul]; exact Nat.mul_le_mul (by omega) (by omega)
   omega
 refine calls_enter Tryz.func100 rfl Tryz.ntmps100 (Nat.le_of_ble_eq_true rfl) ?_
 intro a ha
 replace ha : Fr a 47 [(0,_),(1,_),(2,_)]:=ha
 refine WS<|WR ?_
 refine S1 ha fun a ha=>?_
 refine LN<|TN<|WS<|WR ?_
 refine S1 ha fun a ha=>?_
 refine LN<|TN<|WS<|WS<|WR ?_
 refine S1 ha fun a ha=>?_
 refine LN<|TN<|wp_block<|WS<|WR ?_
 iterate 2 (refine S1 ha fun a ha=>?_)
 refine LN<|TN ?_
 refine WI ha (fun hc0=>?_) (fun hc0=>?_)
 ·
  refine WS<|WR ?_
  refine S1 ha fun a ha=>?_
  refine SK (st_set ha rfl (ex_convIIs ha Tryz.underlying21 Tryz.underlying2 (wrap_in (by omega) (by omega))) rfl fun a ha=>?_)
  refine S1 ha fun a ha=>?_
  refine SK (st_set ha rfl (ex_convIIs ha Tryz.underlying21 Tryz.underlying2 (wrap_in (by omega) (by omega))) rfl fun a ha=>?_)
  refine SK (st_set ha rfl (ex_addI ha (by omega) (by omega)) rfl fun a ha=>?_)
  refine SK (st_call ha rfl Ty.c99 rfl (refRound_spec hs (by omega) (by omega)) ?_); clear ha hs
  rintro e w ⟨rfl,hs⟩
  refine ⟨_,rfl,?_⟩
  intro a ha
  refine S1d ha fun a ha=>?_
  refine LN<|TN<|wp_ret<|BR<|TR ?_
  refine ret1 ha rfl ?_
  exact ⟨by simp [sumI,hc0],hs⟩
 ·
  refine WS<|WR ?_
  iterate 2 (refine S1 ha fun a ha=>?_)
  refine LN<|TN ?_
  refine WI ha (fun hc1=>?_) (fun hc1=>?_)
  ·
   refine WS<|WR ?_
   refine S1 ha fun a ha=>?_
   refine SK (st_set ha rfl (ex_convIIs ha Tryz.underlying21 Tryz.underlying2 (wrap_in (by omega) (by omega))) rfl fun a ha=>?_)
   refine S1 ha fun a ha=>?_
   refine SK (st_set ha rfl (ex_convIIs ha Tryz.underlying21 Tryz.underlying2 (wrap_in (by omega) (by omega))) rfl fun a ha=>?_)
   refine SK (st_set ha rfl (ex_subI ha (by omega) (by omega)) rfl fun a ha=>?_)
   refine SK (st_call ha rfl Ty.c99 rfl (refRound_spec hs (by omega) (by omega)) ?_); clear ha hs
   rintro e w ⟨rfl,hs⟩
   refine ⟨_,rfl,?_⟩
   intro a ha
   refine S1d ha fun a ha=>?_
   refine LN<|TN<|wp_ret<|BR<|TR ?_
   refine ret1 ha rfl ?_
   exact ⟨by simp [sumI,hc1],hs⟩
  ·
   refine WS<|WR ?_
   iterate 2 (refine S1 ha fun a ha=>?_)
   refine LN<|TN ?_
   refine WI ha (fun hc2=>?_) (fun hc2=>?_)
   ·
    refine WS<|WR ?_
    refine S1 ha fun a ha=>?_
    refine SK (st_set ha rfl (ex_convIIs ha Tryz.underlying21 Tryz.underlying2 (wrap_in (by omega) (by omega))) rfl fun a ha=>?_)
    refine S1 ha fun a ha=>?_
    refine SK (st_set ha rfl (ex_convIIs ha Tryz.underlying21 Tryz.underlying2 (wrap_in (by omega) (by omega))) rfl fun a ha=>?_)
    refine SK (st_set ha rfl (ex_mulI ha (by first | exact hmul.1 | exact hmul.2) (by first | exact hmul.1 | exact hmul.2)) rfl fun a ha=>?_)
    refine SK (st_call ha rfl Ty.c99 rfl (refRound_spec hs hmul.1 hmul.2) ?_); clear ha hs
    rintro e w ⟨rfl,hs⟩
    refine ⟨_,rfl,?_⟩
    intro a ha
    refine S1d ha fun a ha=>?_
    refine LN<|TN<|wp_ret<|BR<|TR ?_
    refine ret1 ha rfl ?_
    exact ⟨by simp [sumI,hc2],hs⟩
   ·
    refine WS<|WR ?_
    iterate 2 (refine S1 ha fun a ha=>?_)
    refine LN<|TN ?_
    refine WI ha (fun hc3=>?_) (fun hc3=>?_)
    ·
     refine WS<|WR ?_
     iterate 2 (refine S1 ha fun a ha=>?_)
     refine SK (st_call ha rfl Ty.c135 rfl (refDiv_spec hs hx hy) ?_); clear ha hs
     rintro e w ⟨rfl,hs⟩
     refine ⟨_,rfl,?_⟩
     intro a ha
     refine S1d ha fun a ha=>?_
     refine LN<|TN<|wp_ret<|BR<|TR ?_
     refine ret1 ha rfl ?_
     exact ⟨by simp [sumI,hc3],hs⟩
    ·
     refine WS<|WR ?_
     iterate 2 (refine S1 ha fun a ha=>?_)
     refine LN<|TN ?_
     refine WI ha (fun hc4=>?_) (fun hc4=>?_)
     ·
      refine WR ?_
      iterate 3 (refine S1 ha fun a ha=>?_)
      refine S1d ha fun a ha=>?_
      refine LN<|BN<|TN<|WS<|WS<|WR ?_
      refine S1 ha fun a ha=>?_
      refine LN<|TN ?_
      refine WI ha (fun hc5=>?_) (fun hc5=>?_)
      ·
       refine WS<|WR ?_
       refine S1d ha fun a ha=>?_
       refine LN<|TN<|wp_ret<|TR ?_
       refine ret1 ha rfl ?_
       exact ⟨by simp [sumI,hc4,hc5],hs⟩
      ·
       refine WK<|TN<|WS<|WR ?_
       refine S1d ha fun a ha=>?_
       refine LN<|TN<|wp_ret ?_
       refine ret1 ha rfl ?_
       exact ⟨by simp [sumI,hc4]; omega,hs⟩
     ·
      refine WR ?_
      iterate 3 (refine S1 ha fun a ha=>?_)
      refine S1d ha fun a ha=>?_
      refine LN<|BN<|TN<|WS<|WS<|WR ?_
      refine S1 ha fun a ha=>?_
      refine LN<|TN ?_
      refine WI ha (fun hc5=>?_) (fun hc5=>?_)
      ·
       refine WS<|WR ?_
       refine S1d ha fun a ha=>?_
       refine LN<|TN<|wp_ret<|TR ?_
       refine ret1 ha rfl ?_
       exact ⟨by simp [sumI,hc0,hc1,hc2,hc3,hc4,hc5],hs⟩
      ·
       refine WK<|TN<|WS<|WR ?_
       refine S1d ha fun a ha=>?_
       refine LN<|TN<|wp_ret ?_
       refine ret1 ha rfl ?_
       exact ⟨by simp [sumI,hc0,hc1,hc2,hc3,hc4]; omega,hs⟩
theorem ints_at {w : World} {bx j : Nat} {g : Nat→Int} (h : Rd w bx 0 (ints .i32 32 g)) (hj : j < 32) : w.cell? ⟨bx,j,none⟩=some (.int .i32 (g j)):=by
 have:=h j _ (ints_get g hj)
 rwa [Nat.zero_add] at this
theorem refStep_spec (hs : St W w (RoP W p adO cO::L)) (hpr : prOk p) (hsz : p.title.size≤1000000000) (hg : gOk g) (hb : b.length≤1099511627776) (hf : -4611686018427387904≤fr∧fr≤4611686018427387904) (hp : ∀ w',St W w' L→RdB w' adP b.length b) :
   Calls Tryz.prog 50 #[.agg (prV p adO cO).toArray,.agg (ints .i32 32 g).toArray,.int .i64 fr,.slice adP b.length cP] w fun e w'=>∃ n : Int,e=.returned (.tuple #[.agg (ints .i32 32 (frameI p fr b g)).toArray,.int .i64 n])∧gOk (frameI p fr b g)∧St W w' (RoP W p adO cO::L):=by
 have hol : p.ops.length≤64:=hpr.1.2.2.1
 refine calls_enter Tryz.func50 rfl Tryz.ntmps50 (Nat.le_of_ble_eq_true rfl) ?_
 intro a ha
 replace ha : Fr a 166 [(0,_),(1,_),(2,_),(3,_)]:=ha
 refine WS<|WR ?_
 refine SK (st_box ha rfl hs rfl fun b4 a w ha hs ho=>?_)
 clear ho
 change St W w (blk b4 33 (prV p adO cO)::_) at hs
 refine SK (st_box ha rfl hs rfl fun b5 a w ha hs ho=>?_)
 clear ho
 change St W w (blk b5 46 (ints .i32 32 g)::_) at hs
 refine SK (st_alloc ha rfl hs Ty.t46 rfl fun b8 a w ha hs ho=>?_)
 clear ho
 change St W w (blk b8 46 (ints .i32 32 (fun _=>0))::_) at hs
 refine S1 ha fun a ha=>?_
 refine LN<|TN<|WS<|WS<|WR ?_
 refine SK (st_set ha rfl (ex_loadN ha Tryz.underlying33 rfl Ty.t33 (hs.rdAll)) rfl fun a ha=>?_)
 refine SK (st_call ha rfl Ty.c53 rfl (refFault_spec (hs.pick (RoP W p adO cO)) hsz (by omega)) ?_); clear ha hs
 rintro e w ⟨r,rfl,hr,hs⟩
 refine ⟨_,rfl,?_⟩
 intro a ha
 obtain rfl : r = -1:=hr.2 hpr
 refine S1 ha fun a ha=>?_
 rw [show decide ((-1 : Int) ≠ -1)=false from rfl] at ha
 refine LN<|TN<|WFa ha<|WK<|TN<|WS<|WR ?_
 iterate 2 (refine S1 ha fun a ha=>?_)
 refine LN<|TN<|WS<|WR ?_
 refine S1 ha fun a ha=>?_
 refine SL ha (hs.rd1 rfl) fun a ha=>?_
 refine SK (st_call ha rfl Ty.c96 rfl (refRunes_spec hs hsz) ?_); clear ha hs
 rintro e w ⟨adT,cT,rfl,hs⟩
 refine ⟨_,rfl,?_⟩
 intro a ha
 iterate 5 (refine S1 ha fun a ha=>?_)
 refine LN<|TN<|WS<|wp_block ?_
 refine wp_loop_ghost (fun μ a w=>∃ (n at' : Nat) (g' : Nat→Int),(μ=200 - n∧n≤200∧at'≤p.ops.length∧gOk g'∧runI p fr b (200 - n) g' at'=frameI p fr b g)∧Fr a 166 [(2,.int .i64 fr),(3,.slice adP b.length cP),(4,.pointer (some ⟨b4,0,none⟩)),(5,.pointer (some ⟨b5,0,none⟩)),(8,.pointer (some ⟨b8,0,none⟩)),(10,.int .i64 at'),(11,.int .i64 n),(12,.slice adT (runesAt p.title 0).length cT)]∧St W w (blk b5 46 (ints .i32 32 g')::blk b4 33 (prV p adO cO)::blk b8 46 (ints .i32 32 (fun _=>0))::Sl 21 1 adT (runesAt p.title 0).length cT (RI (runesAt p.title 0))::RoP W p adO cO::L)) (200) ?_ ?_
 · exact ⟨0,0,g,⟨by simp,by simp,by simp,hg,rfl⟩,ha.keep [2,3,4,5,8,10,11,12],hs.sub⟩
 ·
  clear ha hs
  rintro μ a w ⟨n,at',g',⟨rfl,hn,hat,hgo,hru⟩,ha,hs⟩
  refine WS<|WS<|WR ?_
  iterate 3 (refine S1 ha fun a ha=>?_)
  refine ha.by (s:=28) (fun hg2 ha=>?_) (fun hg2 ha=>?_)
  ·
   iterate 2 (refine S1g (s:=28) ha fun a ha=>?_)
   refine SLg (s:=28) ha (hs.rd1 rfl) fun a ha=>?_
   iterate 2 (refine S1g (s:=28) ha fun a ha=>?_)
   refine PT ha fun a ha=>?_
   refine LN<|TN ?_
   refine WI ha (fun hc1=>?_) (fun hc1=>?_)
   ·
    obtain ⟨o,ho⟩ : ∃ o,p.ops[at']?=some o:=⟨_,List.getElem?_eq_getElem (by omega)⟩
    obtain ⟨bo,oo,rfl,hro⟩:=hs.roRd adO (by omega)
    have hst:=runI_step (p:=p) (fr:=fr) (b:=b) (g:=g') (n:=200 - (n+1)) ho
    rw [show 200 - (n+1)+1=200 - n from by omega,hru] at hst
    have hok:=hpr.2 o (List.mem_of_getElem? ho)
    have hop:=hok
    simp only [okOp,cellP] at hop
    have ha9 : o.code=9→LeN o.a p.ops.length:=fun h=>LeN.of (by omega)
    have hac : o.code≠9→o.code≠0→LtN o.a 32:=fun h h2=>LtN.of (by omega)
    have hb10 : o.code=10→LeN o.b p.ops.length:=fun h=>LeN.of (by omega)
    have hbc : o.code≠1→o.code≠15→o.code≠9→o.code≠10→o.code≠0→LtN o.b 32:=fun _ _ _ _ _=>LtN.of (by omega)
    have hcr : o.code≠0→o.code≠1→o.code≠2→o.code≠9→o.code≠10→o.code≠11→o.code≠12→o.code≠13→o.code≠14→o.code≠15→LtN o.c 32:=fun _ _ _ _ _ _ _ _ _ _=>LtN.of (by omega)
    clear hop
    refine WK<|TN<|wp_block<|WS<|WR ?_
    refine S1 ha fun a ha=>?_
    refine SL ha (hs.rd1 rfl) fun a ha=>?_
    refine S1 ha fun a ha=>?_
    refine SK (st_set ha rfl (ex_indexAddr ha Tryz.underlying31 Ty.t87 (by omega)) rfl fun a ha=>?_)
    refine SK (st_set ha rfl (ex_loadN ha Tryz.underlying87 rfl Ty.t87 (op_rd hro ho)) rfl fun a ha=>?_)
    refine SK (st_alloc ha rfl hs Ty.t87 rfl fun b14 a w ha hs ho=>?_)
    clear ho
    refine SK (st_storeAll ha rfl hs Ty.t87 (opR_one o) (by rfl) fun a w ha hs=>?_)
    refine LN<|TN<|WS<|WR ?_
    refine S1 ha fun a ha=>?_
    refine SK (st_set ha rfl (ex_addI ha (by omega) (by omega)) rfl fun a ha=>?_)
    refine S1d ha fun a ha=>?_
    refine LN<|TN<|WS<|WR ?_
    refine S1 ha fun a ha=>?_
    refine SK (st_set ha rfl (ex_addI ha (by omega) (by omega)) rfl fun a ha=>?_)
    refine S1d ha fun a ha=>?_
    refine LN<|TN<|WS<|WR ?_
    refine S1 ha fun a ha=>?_
    refine SL ha (hs.rd1 rfl) fun a ha=>?_
    refine LN<|TN<|wp_block<|WS<|WR ?_
    iterate 2 (refine S1 ha fun a ha=>?_)
    refine LN<|TN ?_
    refine WI ha (fun hc2=>?_) (fun hc2=>?_)
    ·
     refine WS<|WR ?_
     refine SK (st_set ha rfl (ex_loadN ha Tryz.underlying46 rfl Ty.t46 (hs.rdAll)) rfl fun a ha=>?_)
     refine S1 ha fun a ha=>?_
     refine SK (st_storeAll ha rfl hs Ty.t46 ints_one (by rw [ints_len,ints_len]) fun a w ha hs=>?_)
     refine S1 ha fun a ha=>?_
     refine LN<|TN<|wp_ret<|BR<|BR<|TR<|BR<|TR ?_
     refine retC2 ha rfl (run_loadN Tryz.underlying46 rfl Ty.t46 (hs.rdAll)) ?_
     rw [show oneI p fr b g' at' o=(g',at'+1,false) from by rw [oneI,if_pos hc2]] at hst
     refine ⟨_,by rw [hst]; rfl,?_,hs.sub⟩
     rw [hst]; exact hgo
    ·
     refine WS<|WR ?_
     iterate 2 (refine S1 ha fun a ha=>?_)
     refine LN<|TN ?_
     refine WI ha (fun hc3=>?_) (fun hc3=>?_)
     ·
      obtain ⟨an,han,hanl⟩:=hac (by omega) (by omega)
      refine WR ?_
      refine S1 ha fun a ha=>?_
      refine SL ha (hs.rd1 rfl) fun a ha=>?_
      rw [han] at ha
      refine S1 ha fun a ha=>?_
      refine SL ha (hs.rd1 rfl) fun a ha=>?_
      refine SK (st_set ha rfl (ex_convII ha Tryz.underlying3 Tryz.underlying21) rfl fun a ha=>?_)
      refine SK (st_set ha rfl (ex_indexAddrA ha Tryz.underlying46 Ty.t21 (by omega)) rfl fun a ha=>?_)
      rw [Nat.zero_add,Nat.mul_one] at ha
      refine SK (st_store ha rfl hs Ty.t21 rfl (by rw [ints_len]; omega) fun a w ha hs=>?_)
      rw [ints_set,show (fun i=>if i=an then IntKind.i32.wrap o.b else g' i)=upd g' (an) (w32 o.b) from rfl] at hs
      refine LN<|BN<|BN<|TN ?_
      have hone : oneI p fr b g' at' o=(upd g' (an) (w32 o.b),at'+1,true):=by
        rw [oneI,if_neg (by omega),if_neg (by omega),if_neg (by omega),if_neg (by omega),han,Int.toNat_natCast,valI,if_pos hc3]
      rw [hone] at hst
      exact ⟨200 - (n+1),by omega,n+1,at'+1,upd g' (an) (w32 o.b),⟨rfl,by omega,by omega,upd_ok hgo (w32_in _),hst.symm⟩,ha.keep [2,3,4,5,8,10,11,12],hs.sub⟩
     ·
      refine WS<|WR ?_
      iterate 2 (refine S1 ha fun a ha=>?_)
      refine LN<|TN ?_
      refine WI ha (fun hc4=>?_) (fun hc4=>?_)
      ·
       obtain ⟨an,han,hanl⟩:=hac (by omega) (by omega)
       obtain ⟨bn,hbn,hbnl⟩:=hbc (by omega) (by omega) (by omega) (by omega) (by omega)
       refine DW (m:=8) (fun w'=>Rd w' b14 0 (opR o)∧Rd w' b5 0 (ints .i32 32 g')) [3,4,5] [0,2,1,3,4,5,6,7] Ty.mixed (pk_blk (pk_blk (pk_then (pk_blk (pk_then pk_body))))) (fun hpk=>?_)
       replace hs:=hs.drew
       generalize w.drew=w at hs hpk ⊢
       have hC : Rd w b14 0 (opR o)∧Rd w b5 0 (ints .i32 32 g'):=⟨hs.rdAll,hs.rdAll⟩
       iterate 2 (refine DP hpk ha rfl fun a ha=>?_)
       refine DL hpk ha rfl (fun w hc=>hc.1 1 _ rfl) hC fun a ha=>?_
       rw [han] at ha
       refine D1 rfl (st_set ha rfl (ex_load1 ha Tryz.underlying3 rfl (hC.1 2 _ rfl)) rfl fun a ha=>?_)
       refine ⟨fun _=>hC,?_⟩
       rw [hbn] at ha
       refine D1 rfl (st_set ha rfl (ex_indexAddrA ha Tryz.underlying46 Ty.t21 (by omega)) rfl fun a ha=>?_)
       refine ⟨fun _=>hC,?_⟩
       rw [Nat.zero_add,Nat.mul_one] at ha
       refine D1 rfl (st_set ha rfl (ex_load1 ha Tryz.underlying21 rfl (ints_at hC.2 hbnl)) rfl fun a ha=>?_)
       refine ⟨fun _=>hC,?_⟩
       refine DQ hpk ha rfl rfl (fun w=>ex_indexAddrA ha Tryz.underlying46 Ty.t21 (by omega)) fun a ha=>?_
       rw [Nat.zero_add,Nat.mul_one] at ha
       refine D1 rfl (st_store ha rfl hs Ty.t21 rfl (by rw [ints_len]; omega) fun a w ha hs=>?_)
       refine ⟨fun h=>absurd h (by decide),?_⟩
       rw [ints_set,show (fun i=>if i=an then g' bn else g' i)=upd g' (an) (g' bn) from rfl] at hs
       refine DD<|BN<|BN<|TN ?_
       have hone : oneI p fr b g' at' o=(upd g' (an) (g' bn),at'+1,true):=by
         rw [oneI,if_neg (by omega),if_neg (by omega),if_neg (by omega),if_neg (by omega),han,Int.toNat_natCast,valI,if_neg (by omega),if_pos hc4,hbn,Int.toNat_natCast]
       rw [hone] at hst
       exact ⟨200 - (n+1),by omega,n+1,at'+1,upd g' (an) (g' bn),⟨rfl,by omega,by omega,upd_ok hgo (hgo _ hbnl),hst.symm⟩,ha.keep [2,3,4,5,8,10,11,12],hs.sub⟩
      ·
       refine WS<|WR ?_
       iterate 2 (refine S1 ha fun a ha=>?_)
       refine LN<|TN ?_
       refine WI ha (fun hc5=>?_) (fun hc5=>?_)
       ·
        obtain ⟨an,han,hanl⟩:=ha9 hc5
        refine WR ?_
        refine S1 ha fun a ha=>?_
        refine SL ha (hs.rd1 rfl) fun a ha=>?_
        rw [han] at ha
        refine S1d ha fun a ha=>?_
        refine LN<|BN<|BN<|TN ?_
        have hone : oneI p fr b g' at' o=(g',an,true):=by
          rw [oneI,if_neg (by omega),if_pos hc5,han,Int.toNat_natCast]
        rw [hone] at hst
        exact ⟨200 - (n+1),by omega,n+1,an,g',⟨rfl,by omega,by omega,hgo,hst.symm⟩,ha.keep [2,3,4,5,8,10,11,12],hs.sub⟩
       ·
        refine WS<|WR ?_
        iterate 2 (refine S1 ha fun a ha=>?_)
        refine LN<|TN ?_
        refine WI ha (fun hc6=>?_) (fun hc6=>?_)
        ·
         refine WS ?_
         obtain ⟨an,han,hanl⟩:=hac (by omega) (by omega)
         refine WR ?_
         refine S1 ha fun a ha=>?_
         refine SL ha (hs.rd1 rfl) fun a ha=>?_
         rw [han] at ha
         refine SK (st_set ha rfl (ex_indexAddrA ha Tryz.underlying46 Ty.t21 (by omega)) rfl fun a ha=>?_)
         rw [Nat.zero_add,Nat.mul_one] at ha
         refine SL ha ((ints_at hs.rdAll hanl)) fun a ha=>?_
         refine S1 ha fun a ha=>?_
         refine LN<|TN ?_
         refine WI ha (fun hc7=>?_) (fun hc7=>?_)
         ·
          obtain ⟨bn,hbn,hbnl⟩:=hb10 hc6
          refine WR ?_
          refine S1 ha fun a ha=>?_
          refine SL ha (hs.rd1 rfl) fun a ha=>?_
          rw [hbn] at ha
          refine S1d ha fun a ha=>?_
          refine LN<|BN<|BN<|TN ?_
          have hone : oneI p fr b g' at' o=(g',bn,true):=by
            rw [oneI,if_neg (by omega),if_neg (by omega),if_pos hc6,han,Int.toNat_natCast,if_pos hc7,hbn,Int.toNat_natCast]
          rw [hone] at hst
          exact ⟨200 - (n+1),by omega,n+1,bn,g',⟨rfl,by omega,by omega,hgo,hst.symm⟩,ha.keep [2,3,4,5,8,10,11,12],hs.sub⟩
         ·
          refine WK<|BN<|BN<|TN ?_
          have hone : oneI p fr b g' at' o=(g',at'+1,true):=by
            rw [oneI,if_neg (by omega),if_neg (by omega),if_pos hc6,han,Int.toNat_natCast,if_neg hc7]
          rw [hone] at hst
          exact ⟨200 - (n+1),by omega,n+1,at'+1,g',⟨rfl,by omega,by omega,hgo,hst.symm⟩,ha.keep [2,3,4,5,8,10,11,12],hs.sub⟩
        ·
         refine WS<|WR ?_
         iterate 2 (refine S1 ha fun a ha=>?_)
         refine LN<|TN ?_
         refine WI ha (fun hc8=>?_) (fun hc8=>?_)
         ·
          obtain ⟨an,han,hanl⟩:=hac (by omega) (by omega)
          obtain ⟨bn,hbn,hbnl⟩:=hbc (by omega) (by omega) (by omega) (by omega) (by omega)
          refine DW (m:=10) (fun w'=>Rd w' b14 0 (opR o)∧Rd w' b5 0 (ints .i32 32 g')) [4,5,6,7] [0,2,3,1,4,5,6,7,8,9] Ty.mixed (pk_blk (pk_blk (pk_then (pk_blk (pk_then pk_body))))) (fun hpk=>?_)
          replace hs:=hs.drew
          generalize w.drew=w at hs hpk ⊢
          have hC : Rd w b14 0 (opR o)∧Rd w b5 0 (ints .i32 32 g'):=⟨hs.rdAll,hs.rdAll⟩
          iterate 3 (refine DP hpk ha rfl fun a ha=>?_)
          refine DL hpk ha rfl (fun w hc=>hc.1 1 _ rfl) hC fun a ha=>?_
          rw [han] at ha
          refine D1 rfl (st_set ha rfl (ex_load1 ha Tryz.underlying3 rfl (hC.1 2 _ rfl)) rfl fun a ha=>?_)
          refine ⟨fun _=>hC,?_⟩
          rw [hbn] at ha
          refine D1 rfl (st_set ha rfl (ex_indexAddrA ha Tryz.underlying46 Ty.t21 (by omega)) rfl fun a ha=>?_)
          refine ⟨fun _=>hC,?_⟩
          rw [Nat.zero_add,Nat.mul_one] at ha
          refine D1 rfl (st_set ha rfl (ex_load1 ha Tryz.underlying21 rfl (ints_at hC.2 hbnl)) rfl fun a ha=>?_)
          refine ⟨fun _=>hC,?_⟩
          refine D1 rfl (st_call ha rfl Ty.c97 rfl (pressed_spec hs (hgo _ hbnl) hb (fun w' h=>hp w' h.sub)) ?_); clear ha hs
          rintro e w ⟨rfl,hs⟩
          refine ⟨_,rfl,?_⟩
          intro a ha
          replace hC : (fun w'=>Rd w' b14 0 (opR o)∧Rd w' b5 0 (ints .i32 32 g')) w:=⟨hs.rdAll,hs.rdAll⟩
          refine ⟨fun _=>hC,?_⟩
          refine DQ hpk ha rfl rfl (fun w=>ex_indexAddrA ha Tryz.underlying46 Ty.t21 (by omega)) fun a ha=>?_
          rw [Nat.zero_add,Nat.mul_one] at ha
          refine D1 rfl (st_store ha rfl hs Ty.t21 rfl (by rw [ints_len]; omega) fun a w ha hs=>?_)
          refine ⟨fun h=>absurd h (by decide),?_⟩
          rw [ints_set,show (fun i=>if i=an then pressI b (g' bn) else g' i)=upd g' (an) (pressI b (g' bn)) from rfl] at hs
          refine DD<|BN<|BN<|TN ?_
          have hone : oneI p fr b g' at' o=(upd g' (an) (pressI b (g' bn)),at'+1,true):=by
            rw [oneI,if_neg (by omega),if_neg (by omega),if_neg (by omega),if_neg (by omega),han,Int.toNat_natCast,valI,if_neg (by omega),if_neg (by omega),if_pos hc8,hbn,Int.toNat_natCast]
          rw [hone] at hst
          exact ⟨200 - (n+1),by omega,n+1,at'+1,upd g' (an) (pressI b (g' bn)),⟨rfl,by omega,by omega,upd_ok hgo (pressI_ok _ _),hst.symm⟩,ha.keep [2,3,4,5,8,10,11,12],hs.sub⟩
         ·
          refine WS<|WR ?_
          iterate 2 (refine S1 ha fun a ha=>?_)
          refine LN<|TN ?_
          refine WI ha (fun hc9=>?_) (fun hc9=>?_)
          ·
           obtain ⟨an,han,hanl⟩:=hac (by omega) (by omega)
           obtain ⟨bn,hbn,hbnl⟩:=hbc (by omega) (by omega) (by omega) (by omega) (by omega)
           have hm32:=mod32_lt (g' bn)
           refine DW (m:=11) (fun w'=>Rd w' b14 0 (opR o)∧Rd w' b5 0 (ints .i32 32 g')) [3,4,5,6,7,8] [0,2,1,3,4,5,6,7,8,9,10] Ty.mixed (pk_blk (pk_blk (pk_then (pk_blk (pk_then pk_body))))) (fun hpk=>?_)
           replace hs:=hs.drew
           generalize w.drew=w at hs hpk ⊢
           have hC : Rd w b14 0 (opR o)∧Rd w b5 0 (ints .i32 32 g'):=⟨hs.rdAll,hs.rdAll⟩
           iterate 2 (refine DP hpk ha rfl fun a ha=>?_)
           refine DL hpk ha rfl (fun w hc=>hc.1 1 _ rfl) hC fun a ha=>?_
           rw [han] at ha
           refine D1 rfl (st_set ha rfl (ex_load1 ha Tryz.underlying3 rfl (hC.1 2 _ rfl)) rfl fun a ha=>?_)
           refine ⟨fun _=>hC,?_⟩
           rw [hbn] at ha
           refine D1 rfl (st_set ha rfl (ex_indexAddrA ha Tryz.underlying46 Ty.t21 (by omega)) rfl fun a ha=>?_)
           refine ⟨fun _=>hC,?_⟩
           rw [Nat.zero_add,Nat.mul_one] at ha
           refine D1 rfl (st_set ha rfl (ex_load1 ha Tryz.underlying21 rfl (ints_at hC.2 hbnl)) rfl fun a ha=>?_)
           refine ⟨fun _=>hC,?_⟩
           refine D1 rfl (st_call ha rfl Ty.c98 rfl (refMod_spec hs (hgo _ hbnl)) ?_); clear ha hs
           rintro e w ⟨rfl,hs⟩
           refine ⟨_,rfl,?_⟩
           intro a ha
           replace hC : (fun w'=>Rd w' b14 0 (opR o)∧Rd w' b5 0 (ints .i32 32 g')) w:=⟨hs.rdAll,hs.rdAll⟩
           refine ⟨fun _=>hC,?_⟩
           refine D1 rfl (st_set ha rfl (ex_indexAddrA ha Tryz.underlying46 Ty.t21 (by omega)) rfl fun a ha=>?_)
           refine ⟨fun _=>hC,?_⟩
           rw [Nat.zero_add,Nat.mul_one] at ha
           refine D1 rfl (st_set ha rfl (ex_load1 ha Tryz.underlying21 rfl (ints_at hC.2 hm32)) rfl fun a ha=>?_)
           refine ⟨fun _=>hC,?_⟩
           refine DQ hpk ha rfl rfl (fun w=>ex_indexAddrA ha Tryz.underlying46 Ty.t21 (by omega)) fun a ha=>?_
           rw [Nat.zero_add,Nat.mul_one] at ha
           refine D1 rfl (st_store ha rfl hs Ty.t21 rfl (by rw [ints_len]; omega) fun a w ha hs=>?_)
           refine ⟨fun h=>absurd h (by decide),?_⟩
           rw [ints_set,show (fun i=>if i=an then g' (mod32 (g' bn)) else g' i)=upd g' (an) (g' (mod32 (g' bn))) from rfl] at hs
           refine DD<|BN<|BN<|TN ?_
           have hone : oneI p fr b g' at' o=(upd g' (an) (g' (mod32 (g' bn))),at'+1,true):=by
             rw [oneI,if_neg (by omega),if_neg (by omega),if_neg (by omega),if_neg (by omega),han,Int.toNat_natCast,valI,if_neg (by omega),if_neg (by omega),if_neg (by omega),if_pos hc9,hbn,Int.toNat_natCast]
           rw [hone] at hst
           exact ⟨200 - (n+1),by omega,n+1,at'+1,upd g' (an) (g' (mod32 (g' bn))),⟨rfl,by omega,by omega,upd_ok hgo (hgo _ hm32),hst.symm⟩,ha.keep [2,3,4,5,8,10,11,12],hs.sub⟩
          ·
           refine WS<|WR ?_
           iterate 2 (refine S1 ha fun a ha=>?_)
           refine LN<|TN ?_
           refine WI ha (fun hc10=>?_) (fun hc10=>?_)
           ·
            obtain ⟨an,han,hanl⟩:=hac (by omega) (by omega)
            obtain ⟨bn,hbn,hbnl⟩:=hbc (by omega) (by omega) (by omega) (by omega) (by omega)
            have hm32:=mod32_lt (g' an)
            refine DW (m:=11) (fun w'=>Rd w' b14 0 (opR o)∧Rd w' b5 0 (ints .i32 32 g')) [4,6,7,8] [0,5,1,2,3,6,7,8,4,9,10] Ty.mixed (pk_blk (pk_blk (pk_then (pk_blk (pk_then pk_body))))) (fun hpk=>?_)
            replace hs:=hs.drew
            generalize w.drew=w at hs hpk ⊢
            have hC : Rd w b14 0 (opR o)∧Rd w b5 0 (ints .i32 32 g'):=⟨hs.rdAll,hs.rdAll⟩
            iterate 2 (refine DP hpk ha rfl fun a ha=>?_)
            refine DL hpk ha rfl (fun w hc=>hc.1 1 _ rfl) hC fun a ha=>?_
            rw [han] at ha
            refine DQ hpk ha rfl rfl (fun w=>ex_indexAddrA ha Tryz.underlying46 Ty.t21 (by omega)) fun a ha=>?_
            rw [Nat.zero_add,Nat.mul_one] at ha
            refine DL hpk ha rfl (fun w hc=>ints_at hc.2 hanl) hC fun a ha=>?_
            refine DL hpk ha rfl (fun w hc=>hc.1 2 _ rfl) hC fun a ha=>?_
            rw [hbn] at ha
            refine DH hpk ha rfl rfl (fun w hc=>ex_indexAddrA ha Tryz.underlying46 Ty.t21 (by omega)) hC fun a ha=>?_
            rw [Nat.zero_add,Nat.mul_one] at ha
            refine DL hpk ha rfl (fun w hc=>ints_at hc.2 hbnl) hC fun a ha=>?_
            refine D1 rfl (st_call ha rfl Ty.c98 rfl (refMod_spec hs (hgo _ hanl)) ?_); clear ha hs
            rintro e w ⟨rfl,hs⟩
            refine ⟨_,rfl,?_⟩
            intro a ha
            replace hC : (fun w'=>Rd w' b14 0 (opR o)∧Rd w' b5 0 (ints .i32 32 g')) w:=⟨hs.rdAll,hs.rdAll⟩
            refine ⟨fun _=>hC,?_⟩
            refine DQ hpk ha rfl rfl (fun w=>ex_indexAddrA ha Tryz.underlying46 Ty.t21 (by omega)) fun a ha=>?_
            rw [Nat.zero_add,Nat.mul_one] at ha
            refine D1 rfl (st_store ha rfl hs Ty.t21 rfl (by rw [ints_len]; omega) fun a w ha hs=>?_)
            refine ⟨fun h=>absurd h (by decide),?_⟩
            rw [ints_set,show (fun i=>if i=mod32 (g' an) then g' bn else g' i)=upd g' (mod32 (g' an)) (g' bn) from rfl] at hs
            refine DD<|BN<|BN<|TN ?_
            have hone : oneI p fr b g' at' o=(upd g' (mod32 (g' an)) (g' bn),at'+1,true):=by
              rw [oneI,if_neg (by omega),if_neg (by omega),if_neg (by omega),if_pos hc10,han,Int.toNat_natCast,hbn,Int.toNat_natCast]
            rw [hone] at hst
            exact ⟨200 - (n+1),by omega,n+1,at'+1,upd g' (mod32 (g' an)) (g' bn),⟨rfl,by omega,by omega,upd_ok hgo (hgo _ hbnl),hst.symm⟩,ha.keep [2,3,4,5,8,10,11,12],hs.sub⟩
           ·
            refine WS<|WR ?_
            iterate 2 (refine S1 ha fun a ha=>?_)
            refine LN<|TN ?_
            refine WI ha (fun hc11=>?_) (fun hc11=>?_)
            ·
             refine WS ?_
             obtain ⟨an,han,hanl⟩:=hac (by omega) (by omega)
             obtain ⟨bn,hbn,hbnl⟩:=hbc (by omega) (by omega) (by omega) (by omega) (by omega)
             have hgb:=hgo _ hbnl
             have hgb2:=hgb
             simp only [i32P] at hgb2
             refine WR ?_
             refine S1 ha fun a ha=>?_
             refine LN<|TN<|WS<|WS<|WR ?_
             refine S1 ha fun a ha=>?_
             refine SL ha (hs.rd1 rfl) fun a ha=>?_
             rw [hbn] at ha
             refine SK (st_set ha rfl (ex_indexAddrA ha Tryz.underlying46 Ty.t21 (by omega)) rfl fun a ha=>?_)
             rw [Nat.zero_add,Nat.mul_one] at ha
             refine SL ha ((ints_at hs.rdAll hbnl)) fun a ha=>?_
             iterate 2 (refine S1 ha fun a ha=>?_)
             refine ha.by (s:=136) (fun hg5 ha=>?_) (fun hg5 ha=>?_)
             ·
              refine S1g (s:=136) ha fun a ha=>?_
              refine SLg (s:=136) ha (hs.rd1 rfl) fun a ha=>?_
              rw [hbn] at ha
              refine SK (st_set ha (wgT ha rfl (s:=136)) (ex_indexAddrA ha Tryz.underlying46 Ty.t21 (by omega)) rfl fun a ha=>?_)
              rw [Nat.zero_add,Nat.mul_one] at ha
              refine SLg (s:=136) ha ((ints_at hs.rdAll hbnl)) fun a ha=>?_
              refine SK (st_set ha (wgT ha rfl (s:=136)) (ex_convIIs ha Tryz.underlying21 Tryz.underlying3 (wrap_in (by omega) (by omega))) rfl fun a ha=>?_)
              iterate 3 (refine S1g (s:=136) ha fun a ha=>?_)
              refine PT ha fun a ha=>?_
              refine LN<|TN ?_
              refine WI ha (fun hc12=>?_) (fun hc12=>?_)
              ·
               obtain ⟨rn,hrn⟩ : ∃ rn : Nat,g' bn=rn:=⟨(g' bn).toNat,by omega⟩
               obtain ⟨bT,oT,rfl,hrT⟩:=hs.slRd adT (by omega)
               obtain ⟨xr,hxr⟩ : ∃ xr,(runesAt p.title 0)[rn]?=some xr:=⟨_,List.getElem?_eq_getElem (by omega)⟩
               refine WR ?_
               iterate 2 (refine S1 ha fun a ha=>?_)
               refine SL ha (hs.rd1 rfl) fun a ha=>?_
               rw [hbn] at ha
               refine SK (st_set ha rfl (ex_indexAddrA ha Tryz.underlying46 Ty.t21 (by omega)) rfl fun a ha=>?_)
               rw [Nat.zero_add,Nat.mul_one] at ha
               refine SL ha ((ints_at hs.rdAll hbnl)) fun a ha=>?_
               rw [hrn] at ha
               refine SK (st_set ha rfl (ex_indexAddr ha Tryz.underlying154 Ty.t21 (by omega)) rfl fun a ha=>?_)
               rw [Nat.mul_one] at ha
               refine SL ha ((hrT rn _ (RI_at hxr))) fun a ha=>?_
               refine S1d ha fun a ha=>?_
               refine LN ?_
               have hri : runeI p.title (g' bn)=xr.1:=by rw [runeI,if_pos (by omega),hrn,Int.toNat_natCast,hxr]; rfl
               rw [← hri] at ha
               refine TN<|WR ?_
               refine S1 ha fun a ha=>?_
               refine SL ha (hs.rd1 rfl) fun a ha=>?_
               rw [han] at ha
               refine S1 ha fun a ha=>?_
               refine SK (st_set ha rfl (ex_indexAddrA ha Tryz.underlying46 Ty.t21 (by omega)) rfl fun a ha=>?_)
               rw [Nat.zero_add,Nat.mul_one] at ha
               refine SK (st_store ha rfl hs Ty.t21 rfl (by rw [ints_len]; omega) fun a w ha hs=>?_)
               rw [ints_set,show (fun i=>if i=an then runeI p.title (g' bn) else g' i)=upd g' an (runeI p.title (g' bn)) from rfl] at hs
               refine LN<|BN<|BN<|TN ?_
               have hone : oneI p fr b g' at' o=(upd g' an (runeI p.title (g' bn)),at'+1,true):=by
                 rw [oneI,if_neg (by omega),if_neg (by omega),if_neg (by omega),if_neg (by omega),han,Int.toNat_natCast,valI,if_neg (by omega),if_neg (by omega),if_neg (by omega),if_neg (by omega),if_pos hc11,hbn,Int.toNat_natCast]
               rw [hone] at hst
               exact ⟨200 - (n+1),by omega,n+1,at'+1,upd g' an (runeI p.title (g' bn)),⟨rfl,by omega,by omega,upd_ok hgo (runeI_ok _ _),hst.symm⟩,ha.keep [2,3,4,5,8,10,11,12],hs.sub⟩
              ·
               refine WK<|TN ?_
               have hri0 : True:=trivial
               refine WR ?_
               refine S1 ha fun a ha=>?_
               refine SL ha (hs.rd1 rfl) fun a ha=>?_
               rw [han] at ha
               refine S1 ha fun a ha=>?_
               refine SK (st_set ha rfl (ex_indexAddrA ha Tryz.underlying46 Ty.t21 (by omega)) rfl fun a ha=>?_)
               rw [Nat.zero_add,Nat.mul_one] at ha
               refine SK (st_store ha rfl hs Ty.t21 rfl (by rw [ints_len]; omega) fun a w ha hs=>?_)
               rw [ints_set,show (fun i=>if i=an then 0 else g' i)=upd g' an 0 from rfl] at hs
               refine LN<|BN<|BN<|TN ?_
               have hone : oneI p fr b g' at' o=(upd g' an 0,at'+1,true):=by
                 rw [oneI,if_neg (by omega),if_neg (by omega),if_neg (by omega),if_neg (by omega),han,Int.toNat_natCast,valI,if_neg (by omega),if_neg (by omega),if_neg (by omega),if_neg (by omega),if_pos hc11,hbn,Int.toNat_natCast,runeI,if_pos (by omega),List.getElem?_eq_none (by omega)]; rfl
               rw [hone] at hst
               exact ⟨200 - (n+1),by omega,n+1,at'+1,upd g' an 0,⟨rfl,by omega,by omega,upd_ok hgo (by simp [i32P]),hst.symm⟩,ha.keep [2,3,4,5,8,10,11,12],hs.sub⟩
             ·
              iterate 8 (refine SO (s:=136) ha fun a ha=>?_)
              refine PF ha fun a ha=>?_
              refine LN<|TN<|WFa ha<|WK<|TN<|WR ?_
              refine S1 ha fun a ha=>?_
              refine SL ha (hs.rd1 rfl) fun a ha=>?_
              rw [han] at ha
              refine S1 ha fun a ha=>?_
              refine SK (st_set ha rfl (ex_indexAddrA ha Tryz.underlying46 Ty.t21 (by omega)) rfl fun a ha=>?_)
              rw [Nat.zero_add,Nat.mul_one] at ha
              refine SK (st_store ha rfl hs Ty.t21 rfl (by rw [ints_len]; omega) fun a w ha hs=>?_)
              rw [ints_set,show (fun i=>if i=an then 0 else g' i)=upd g' an 0 from rfl] at hs
              refine LN<|BN<|BN<|TN ?_
              have hone : oneI p fr b g' at' o=(upd g' an 0,at'+1,true):=by
                rw [oneI,if_neg (by omega),if_neg (by omega),if_neg (by omega),if_neg (by omega),han,Int.toNat_natCast,valI,if_neg (by omega),if_neg (by omega),if_neg (by omega),if_neg (by omega),if_pos hc11,hbn,Int.toNat_natCast,runeI,if_neg (by omega)]
              rw [hone] at hst
              exact ⟨200 - (n+1),by omega,n+1,at'+1,upd g' an 0,⟨rfl,by omega,by omega,upd_ok hgo (by simp [i32P]),hst.symm⟩,ha.keep [2,3,4,5,8,10,11,12],hs.sub⟩
            ·
             refine WS<|WR ?_
             iterate 2 (refine S1 ha fun a ha=>?_)
             refine LN<|TN ?_
             refine WI ha (fun hc13=>?_) (fun hc13=>?_)
             ·
              obtain ⟨an,han,hanl⟩:=hac (by omega) (by omega)
              refine DW (m:=6) (fun w'=>Rd w' b14 0 (opR o)∧Rd w' b5 0 (ints .i32 32 g')) [3] [0,2,1,3,4,5] Ty.mixed (pk_blk (pk_blk (pk_then (pk_blk (pk_then pk_body))))) (fun hpk=>?_)
              replace hs:=hs.drew
              generalize w.drew=w at hs hpk ⊢
              have hC : Rd w b14 0 (opR o)∧Rd w b5 0 (ints .i32 32 g'):=⟨hs.rdAll,hs.rdAll⟩
              iterate 2 (refine DP hpk ha rfl fun a ha=>?_)
              refine DL hpk ha rfl (fun w hc=>hc.1 1 _ rfl) hC fun a ha=>?_
              rw [han] at ha
              refine D1 rfl (st_call ha rfl Ty.c99 rfl (refRound_spec hs (by omega) (by omega)) ?_); clear ha hs
              rintro e w ⟨rfl,hs⟩
              refine ⟨_,rfl,?_⟩
              intro a ha
              replace hC : (fun w'=>Rd w' b14 0 (opR o)∧Rd w' b5 0 (ints .i32 32 g')) w:=⟨hs.rdAll,hs.rdAll⟩
              refine ⟨fun _=>hC,?_⟩
              refine DQ hpk ha rfl rfl (fun w=>ex_indexAddrA ha Tryz.underlying46 Ty.t21 (by omega)) fun a ha=>?_
              rw [Nat.zero_add,Nat.mul_one] at ha
              refine D1 rfl (st_store ha rfl hs Ty.t21 rfl (by rw [ints_len]; omega) fun a w ha hs=>?_)
              refine ⟨fun h=>absurd h (by decide),?_⟩
              rw [ints_set,show (fun i=>if i=an then w32 fr else g' i)=upd g' (an) (w32 fr) from rfl] at hs
              refine DD<|BN<|BN<|TN ?_
              have hone : oneI p fr b g' at' o=(upd g' (an) (w32 fr),at'+1,true):=by
                rw [oneI,if_neg (by omega),if_neg (by omega),if_neg (by omega),if_neg (by omega),han,Int.toNat_natCast,valI,if_neg (by omega),if_neg (by omega),if_neg (by omega),if_neg (by omega),if_neg (by omega),if_pos hc13]
              rw [hone] at hst
              exact ⟨200 - (n+1),by omega,n+1,at'+1,upd g' (an) (w32 fr),⟨rfl,by omega,by omega,upd_ok hgo (w32_in _),hst.symm⟩,ha.keep [2,3,4,5,8,10,11,12],hs.sub⟩
             ·
              obtain ⟨an,han,hanl⟩:=hac (by omega) (by omega)
              obtain ⟨bn,hbn,hbnl⟩:=hbc (by omega) (by omega) (by omega) (by omega) (by omega)
              obtain ⟨cn,hcn,hcnl⟩:=hcr (by omega) (by omega) (by omega) (by omega) (by omega) (by omega) (by omega) (by omega) (by omega) (by omega)
              refine DW (m:=15) (fun w'=>Rd w' b14 0 (opR o)∧Rd w' b5 0 (ints .i32 32 g')) [3,5,6,7,9,10,11,12] [0,2,4,8,1,3,5,6,7,9,10,11,12,13,14] Ty.mixed (pk_blk (pk_blk (pk_then (pk_blk (pk_then pk_body))))) (fun hpk=>?_)
              replace hs:=hs.drew
              generalize w.drew=w at hs hpk ⊢
              have hC : Rd w b14 0 (opR o)∧Rd w b5 0 (ints .i32 32 g'):=⟨hs.rdAll,hs.rdAll⟩
              iterate 4 (refine DP hpk ha rfl fun a ha=>?_)
              refine DL hpk ha rfl (fun w hc=>hc.1 1 _ rfl) hC fun a ha=>?_
              rw [han] at ha
              refine DL hpk ha rfl (fun w hc=>hc.1 0 _ rfl) hC fun a ha=>?_
              refine DL hpk ha rfl (fun w hc=>hc.1 2 _ rfl) hC fun a ha=>?_
              rw [hbn] at ha
              refine DH hpk ha rfl rfl (fun w hc=>ex_indexAddrA ha Tryz.underlying46 Ty.t21 (by omega)) hC fun a ha=>?_
              rw [Nat.zero_add,Nat.mul_one] at ha
              refine DL hpk ha rfl (fun w hc=>ints_at hc.2 hbnl) hC fun a ha=>?_
              refine D1 rfl (st_set ha rfl (ex_load1 ha Tryz.underlying3 rfl (hC.1 3 _ rfl)) rfl fun a ha=>?_)
              refine ⟨fun _=>hC,?_⟩
              rw [hcn] at ha
              refine D1 rfl (st_set ha rfl (ex_indexAddrA ha Tryz.underlying46 Ty.t21 (by omega)) rfl fun a ha=>?_)
              refine ⟨fun _=>hC,?_⟩
              rw [Nat.zero_add,Nat.mul_one] at ha
              refine D1 rfl (st_set ha rfl (ex_load1 ha Tryz.underlying21 rfl (ints_at hC.2 hcnl)) rfl fun a ha=>?_)
              refine ⟨fun _=>hC,?_⟩
              refine D1 rfl (st_call ha rfl Ty.c100 rfl (reckon_spec hs (hgo _ hbnl) (hgo _ hcnl)) ?_); clear ha hs
              rintro e w ⟨rfl,hs⟩
              refine ⟨_,rfl,?_⟩
              intro a ha
              replace hC : (fun w'=>Rd w' b14 0 (opR o)∧Rd w' b5 0 (ints .i32 32 g')) w:=⟨hs.rdAll,hs.rdAll⟩
              refine ⟨fun _=>hC,?_⟩
              refine DQ hpk ha rfl rfl (fun w=>ex_indexAddrA ha Tryz.underlying46 Ty.t21 (by omega)) fun a ha=>?_
              rw [Nat.zero_add,Nat.mul_one] at ha
              refine D1 rfl (st_store ha rfl hs Ty.t21 rfl (by rw [ints_len]; omega) fun a w ha hs=>?_)
              refine ⟨fun h=>absurd h (by decide),?_⟩
              rw [ints_set,show (fun i=>if i=an then sumI o.code (g' bn) (g' cn) else g' i)=upd g' (an) (sumI o.code (g' bn) (g' cn)) from rfl] at hs
              refine DD<|BN<|BN<|TN ?_
              have hone : oneI p fr b g' at' o=(upd g' (an) (sumI o.code (g' bn) (g' cn)),at'+1,true):=by
                rw [oneI,if_neg (by omega),if_neg (by omega),if_neg (by omega),if_neg (by omega),han,Int.toNat_natCast,valI,if_neg (by omega),if_neg (by omega),if_neg (by omega),if_neg (by omega),if_neg (by omega),if_neg (by omega),hbn,Int.toNat_natCast,hcn,Int.toNat_natCast]
              rw [hone] at hst
              exact ⟨200 - (n+1),by omega,n+1,at'+1,upd g' (an) (sumI o.code (g' bn) (g' cn)),⟨rfl,by omega,by omega,upd_ok hgo (sumI_ok _ _ _),hst.symm⟩,ha.keep [2,3,4,5,8,10,11,12],hs.sub⟩
   ·
    refine wp_exit<|TE<|TE<|blk_e<|TN<|WS<|WR ?_
    refine SK (st_set ha rfl (ex_loadN ha Tryz.underlying46 rfl Ty.t46 (hs.rdAll)) rfl fun a ha=>?_)
    refine S1 ha fun a ha=>?_
    refine SK (st_storeAll ha rfl hs Ty.t46 ints_one (by rw [ints_len,ints_len]) fun a w ha hs=>?_)
    refine S1 ha fun a ha=>?_
    refine LN<|TN<|wp_ret ?_
    refine retC2 ha rfl (run_loadN Tryz.underlying46 rfl Ty.t46 (hs.rdAll)) ?_
    rw [runI_end (by omega)] at hru
    exact ⟨_,by rw [← hru],by rw [← hru]; exact hgo,hs.sub⟩
  ·
   iterate 5 (refine SO (s:=28) ha fun a ha=>?_)
   refine PF ha fun a ha=>?_
   refine LN<|TN<|WFa ha<|wp_exit<|TE<|TE<|blk_e<|TN<|WS<|WR ?_
   refine SK (st_set ha rfl (ex_loadN ha Tryz.underlying46 rfl Ty.t46 (hs.rdAll)) rfl fun a ha=>?_)
   refine S1 ha fun a ha=>?_
   refine SK (st_storeAll ha rfl hs Ty.t46 ints_one (by rw [ints_len,ints_len]) fun a w ha hs=>?_)
   refine S1 ha fun a ha=>?_
   refine LN<|TN<|wp_ret ?_
   refine retC2 ha rfl (run_loadN Tryz.underlying46 rfl Ty.t46 (hs.rdAll)) ?_
   rw [show 200 - n=0 from by omega] at hru
   exact ⟨_,by rw [← hru]; rfl,by rw [← hru]; exact hgo,hs.sub⟩
theorem refFold_spec {P : List (List UInt8)} {zs : List BBx} (hs : St W w (RoP W p adO cO::L)) (hpr : prOk p) (hsz : p.title.size≤1000000000) (hg : gOk g) (hP : P.length≤65536∧∀ b∈P,b.length≤1099511627776) (hz : zs.map (·.2.2)=P) (hf : -1099511627776≤fr∧fr≤1099511627776) (hp : ∀ w',St W w' L→RdX w' adP zs) :
   Calls Tryz.prog 19 #[.agg (prV p adO cO).toArray,.agg (ints .i32 32 g).toArray,.int .i64 fr,.slice adP P.length cP] w fun e w'=>e=.returned (.agg (ints .i32 32 (foldI p fr g P)).toArray)∧gOk (foldI p fr g P)∧St W w' (RoP W p adO cO::L):=by
 have hzl : zs.length=P.length:=by rw [← hz,List.length_map]
 have hPl:=hP.1
 refine calls_enter Tryz.func19 rfl Tryz.ntmps19 (Nat.le_of_ble_eq_true rfl) ?_
 intro a ha
 replace ha : Fr a 33 [(0,_),(1,_),(2,_),(3,_)]:=ha
 refine WS<|WR ?_
 refine SK (st_box ha rfl hs rfl fun b4 a w ha hs ho=>?_)
 clear ho
 change St W w (blk b4 33 (prV p adO cO)::_) at hs
 refine SK (st_box ha rfl hs rfl fun b5 a w ha hs ho=>?_)
 clear ho
 change St W w (blk b5 46 (ints .i32 32 g)::_) at hs
 refine SK (st_alloc ha rfl hs Ty.t46 rfl fun b8 a w ha hs ho=>?_)
 clear ho
 change St W w (blk b8 46 (ints .i32 32 (fun _=>0))::_) at hs
 refine LN<|TN<|WS<|WS<|WR ?_
 refine S1 ha fun a ha=>?_
 refine LN<|TN<|wp_block ?_
 refine wp_loop_ghost (fun μ a w=>∃ (i : Nat) (g' : Nat→Int),(μ=P.length - i∧i≤P.length∧gOk g'∧foldI p fr g P=foldI p (fr+i) g' (P.drop i))∧Fr a 33 [(2,.int .i64 fr),(3,.slice adP P.length cP),(4,.pointer (some ⟨b4,0,none⟩)),(5,.pointer (some ⟨b5,0,none⟩)),(8,.pointer (some ⟨b8,0,none⟩)),(9,.int .i64 i)]∧St W w (blk b5 46 (ints .i32 32 g')::blk b4 33 (prV p adO cO)::blk b8 46 (ints .i32 32 (fun _=>0))::RoP W p adO cO::L)) (P.length) ?_ ?_
 · exact ⟨0,g,⟨by simp,by simp,hg,by simp⟩,ha.keep [2,3,4,5,8,9],hs.sub⟩
 ·
  clear ha hs
  rintro μ a w ⟨i,g',⟨rfl,hi,hgo,hfo⟩,ha,hs⟩
  refine WS<|WS<|WR ?_
  iterate 4 (refine S1 ha fun a ha=>?_)
  refine LN<|TN ?_
  refine WI ha (fun hc0=>?_) (fun hc0=>?_)
  ·
   have hzi : zs[i]?=some (zs[i]'(by omega)):=List.getElem?_eq_getElem (by omega)
   obtain ⟨z,hze⟩ : ∃ z,zs[i]'(by omega)=z:=⟨_,rfl⟩
   rw [hze] at hzi
   have hPi : P[i]?=some z.2.2:=by rw [← hz,List.getElem?_map,hzi]; rfl
   have hrx:=hp _ (hs.sub (M:=L))
   obtain ⟨bp,op,hade,hrd⟩:=hrx.1 (by omega)
   have hcl : ∀ w',St W w' L→w'.cell? ⟨bp,op+i,none⟩=some (bbv z):=fun w' h=>by
     obtain ⟨b',o',h1,h2⟩:=(hp w' h).1 (by omega)
     rw [hade] at h1
     cases h1
     exact h2 i _ (by rw [List.getElem?_map,hzi]; rfl)
   clear hrd hrx
   have hzb : ∀ w',St W w' L→RdB w' z.1 z.2.2.length z.2.2:=fun w' h=>(hp w' h).2 z (List.mem_of_getElem? hzi)
   have hfo2 : foldI p fr g P=foldI p (fr+(i+1 : Nat)) (frameI p (fr+i) z.2.2 g') (P.drop (i+1)):=by
     rw [hfo,List.drop_eq_getElem_cons (by omega),foldI]
     have : P[i]'(by omega)=z.2.2:=by rw [List.getElem?_eq_getElem (by omega)] at hPi; exact Option.some.inj hPi
     rw [this]
     congr 1
     omega
   refine WK<|TN<|WS<|wp_block ?_
   refine wp_seq_cut (M:=fun a w=>∃ b10 : Nat,gOk (frameI p (fr+i) z.2.2 g')∧Fr a 33 [(2,.int .i64 fr),(3,.slice adP P.length cP),(4,.pointer (some ⟨b4,0,none⟩)),(5,.pointer (some ⟨b5,0,none⟩)),(8,.pointer (some ⟨b8,0,none⟩)),(9,.int .i64 i),(10,.pointer (some ⟨b10,0,none⟩))]∧St W w (blk b10 46 (ints .i32 32 (frameI p (fr+i) z.2.2 g'))::blk b5 46 (ints .i32 32 g')::blk b4 33 (prV p adO cO)::blk b8 46 (ints .i32 32 (fun _=>0))::RoP W p adO cO::L)) ?_ ?_
   ·
    refine DW (m:=16) (fun w'=>Rd w' b4 0 (prV p adO cO)∧Rd w' b5 0 (ints .i32 32 g')∧w'.cell? ⟨bp,op+i,none⟩=some (bbv z)) [1,8,13] [2,3,4,5,6,7,0,1,8,9,10,11,12,13,14,15] Ty.mixed (pk_then (pk_blk (pk_then (pk_then (pk_blk (pk_then pk_body)))))) (fun hpk=>?_)
    replace hs:=hs.drew
    generalize w.drew=w at hs hpk ⊢
    have hC : Rd w b4 0 (prV p adO cO)∧Rd w b5 0 (ints .i32 32 g')∧w.cell? ⟨bp,op+i,none⟩=some (bbv z):=⟨hs.rdAll,hs.rdAll,hcl _ hs.sub⟩
    iterate 2 (refine DP hpk ha rfl fun a ha=>?_)
    refine DQ hpk ha rfl rfl (fun w=>ex_addI ha (by omega) (by omega)) fun a ha=>?_
    iterate 2 (refine DP hpk ha rfl fun a ha=>?_)
    rw [hade] at ha
    refine DQ hpk ha rfl rfl (fun w=>ex_indexAddr ha Tryz.underlying41 Ty.t22 (by omega)) fun a ha=>?_
    rw [Nat.mul_one] at ha
    refine DH hpk ha rfl rfl (fun w hc=>ex_loadN ha Tryz.underlying33 rfl Ty.t33 (hc.1)) hC fun a ha=>?_
    refine DH hpk ha rfl rfl (fun w hc=>ex_loadN ha Tryz.underlying46 rfl Ty.t46 (hc.2.1)) hC fun a ha=>?_
    refine DL hpk ha rfl (fun w hc=>hc.2.2) hC fun a ha=>?_
    refine D2 (i:=9) (j:=13) [10,11,12,13,14,15] [9,10,11,12,14,15] (by kernel_rfl) rfl rfl ?_ ?_
    ·
     refine st_call ha rfl Ty.c50 rfl (refStep_spec (hs.pick (RoP W p adO cO)) hpr hsz hgo (hP.2 _ (List.mem_of_getElem? hPi)) (by omega) (fun w' h=>hzb w' h.sub)) ?_; clear ha hs
     rintro e w ⟨n2,rfl,hg2,hs⟩
     refine ⟨_,rfl,?_⟩
     intro a ha
     refine ⟨fun h=>absurd h (by decide),?_⟩
     iterate 3 (refine DP hpk ha rfl fun a ha=>?_)
     refine D1 rfl (st_alloc ha rfl hs Ty.t46 rfl fun b10 a w ha hs ho=>?_)
     (try replace hC:=hC.trans ho); clear ho
     replace hC : (fun w'=>Rd w' b4 0 (prV p adO cO)∧Rd w' b5 0 (ints .i32 32 g')∧w'.cell? ⟨bp,op+i,none⟩=some (bbv z)) w:=⟨hs.rdAll,hs.rdAll,hcl _ hs.sub⟩
     refine ⟨fun _=>hC,?_⟩
     change St W w (blk b10 46 (ints .i32 32 (fun _=>0))::_) at hs
     refine D1 rfl (st_storeAll ha rfl hs Ty.t46 ints_one (by rw [ints_len,ints_len]) fun a w ha hs=>?_)
     refine ⟨fun h=>absurd h (by decide),?_⟩
     refine DP hpk ha rfl fun a ha=>?_
     refine DD<|TN ?_
     rw [← hade] at ha
     exact ⟨_,hg2,ha.keep [2,3,4,5,8,9,10],hs.sub⟩
    ·
     refine st_alloc ha rfl hs Ty.t46 rfl fun b10 a w ha hs ho=>?_
     (try replace hC:=hC.trans ho); clear ho
     replace hC : (fun w'=>Rd w' b4 0 (prV p adO cO)∧Rd w' b5 0 (ints .i32 32 g')∧w'.cell? ⟨bp,op+i,none⟩=some (bbv z)) w:=⟨hs.rdAll,hs.rdAll,hcl _ hs.sub⟩
     refine ⟨fun _=>hC,?_⟩
     change St W w (blk b10 46 (ints .i32 32 (fun _=>0))::_) at hs
     refine D1 rfl (st_call ha rfl Ty.c50 rfl (refStep_spec (hs.pick (RoP W p adO cO)) hpr hsz hgo (hP.2 _ (List.mem_of_getElem? hPi)) (by omega) (fun w' h=>hzb w' h.sub)) ?_); clear ha hs
     rintro e w ⟨n2,rfl,hg2,hs⟩
     refine ⟨_,rfl,?_⟩
     intro a ha
     refine ⟨fun h=>absurd h (by decide),?_⟩
     iterate 3 (refine DP hpk ha rfl fun a ha=>?_)
     refine D1 rfl (st_storeAll ha rfl hs Ty.t46 ints_one (by rw [ints_len,ints_len]) fun a w ha hs=>?_)
     refine ⟨fun h=>absurd h (by decide),?_⟩
     refine DP hpk ha rfl fun a ha=>?_
     refine DD<|TN ?_
     rw [← hade] at ha
     exact ⟨_,hg2,ha.keep [2,3,4,5,8,9,10],hs.sub⟩
   ·
    clear ha; (try clear hs)
    intro a w hcut
    obtain ⟨b10,hg2,ha,hs⟩:=hcut
    refine WR ?_
    refine SK (st_set ha rfl (ex_loadN ha Tryz.underlying46 rfl Ty.t46 (hs.rdAll)) rfl fun a ha=>?_)
    refine SK (st_storeAll ha rfl hs Ty.t46 ints_one (by rw [ints_len,ints_len]) fun a w ha hs=>?_)
    refine LN<|BN<|TN<|WR ?_
    refine S1 ha fun a ha=>?_
    refine SK (st_set ha rfl (ex_addI ha (by omega) (by omega)) rfl fun a ha=>?_)
    refine S1d ha fun a ha=>?_
    refine LN<|TN ?_
    exact ⟨P.length - (i+1),by omega,i+1,_,⟨rfl,by omega,hg2,hfo2⟩,ha.keep [2,3,4,5,8,9],hs.sub⟩
  ·
   refine wp_exit<|TE<|TE<|blk_e<|TN<|WS ?_
   obtain rfl : i=P.length:=by omega
   rw [List.drop_length,foldI] at hfo
   refine WR ?_
   refine SK (st_set ha rfl (ex_loadN ha Tryz.underlying46 rfl Ty.t46 (hs.rdAll)) rfl fun a ha=>?_)
   refine SK (st_storeAll ha rfl hs Ty.t46 ints_one (by rw [ints_len,ints_len]) fun a w ha hs=>?_)
   refine LN<|TN<|wp_ret ?_
   refine retC1 ha rfl (run_loadN Tryz.underlying46 rfl Ty.t46 (hs.rdAll)) ?_
   exact ⟨by rw [hfo],by rw [hfo]; exact hgo,hs.sub⟩
end
end Go.Proofs.YtagpkhbkdbaigaaGreat
