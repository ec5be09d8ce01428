/- The walks of packages word and vm, over whatever memory keeps the cells. -/
import Derived.Test.YtagpkhbkdbaigaaGreatChk2
import Derived.Test.YtagpkhbkdbaigaaGreatBB
namespace Go.Proofs.YtagpkhbkdbaigaaGreat
open Go.RowKit
set_option linter.unusedVariables false
set_option linter.unusedSimpArgs false
set_option maxRecDepth 10000
set_option synthInstance.maxSize 4000
set_option synthInstance.maxHeartbeats 400000
section
variable {W w : World} {L L' R : List SP}
theorem wmod_spec {x : Int} (hs : St W w L) (hx : i32P x) : Calls Tryz.prog 166 #[.int .i32 x,.int .i64 32] w fun e w'=>e=.returned (.int .i64 (mod32 x))∧St W w' L:=by
 have h1:=Int.tmod_lt_of_pos x (b:=32) (by decide)
 have h2:=Int.lt_tmod_of_pos x (b:=32) (by decide)
 have hm : (mod32 x : Int)=x % 32:=by
   have h1:=Int.emod_nonneg x (show (32 : Int)≠0 by decide)
   show (((x % 32).toNat : Nat) : Int)=_
   omega
 have ht : x.tmod 32=if 0≤x then x % 32 else -((-x) % 32):=by
   split
   · exact Int.tmod_eq_emod_of_nonneg (by omega)
   · rw [← Int.neg_neg (x.tmod 32),← Int.neg_tmod,Int.tmod_eq_emod_of_nonneg (by omega)]
 simp only [i32P] at hx
 refine calls_enter Tryz.func166 rfl Tryz.ntmps166 (Nat.le_of_ble_eq_true rfl) ?_
 intro a ha
 replace ha : Fr a 18 [(0,_),(1,_)]:=ha
 refine WS<|WR ?_
 refine S1 ha fun a ha=>?_
 refine LN<|TN<|WS<|WS<|WR ?_
 iterate 2 (refine S1 ha fun a ha=>?_)
 refine LN<|TN<|WFa ha<|WK<|TN<|WS<|WR ?_
 refine S1 ha fun a ha=>?_
 refine SK (st_set ha rfl (ex_convIIs ha Tryz.underlying21 Tryz.underlying3 (by rw [wrap_in (by omega) (by omega)])) rfl fun a ha=>?_)
 refine S1 ha fun a ha=>?_
 refine SK (st_set ha rfl (ex_rem ha (by omega)) rfl fun a ha=>?_)
 refine S1 ha fun a ha=>?_
 refine LN<|TN<|WS<|WS<|WR ?_
 iterate 2 (refine S1 ha fun a ha=>?_)
 refine LN<|TN ?_
 refine WI ha (fun hc1=>?_) (fun hc1=>?_)
 ·
  refine WR ?_
  iterate 2 (refine S1 ha fun a ha=>?_)
  refine SK (st_set ha rfl (ex_addI ha (by omega) (by omega)) rfl fun a ha=>?_)
  refine S1d ha fun a ha=>?_
  refine LN ?_
  rw [show x.tmod 32+32=(mod32 x : Int) from by rw [hm,ht]; split <;> omega] at ha
  refine TN<|WS<|WR ?_
  refine S1 ha fun a ha=>?_
  refine S1d ha fun a ha=>?_
  refine LN<|TN<|wp_ret ?_
  refine ret1 ha rfl ?_
  exact ⟨rfl,hs⟩
 ·
  refine WK<|TN<|WS<|WR ?_
  refine S1 ha fun a ha=>?_
  refine S1d ha fun a ha=>?_
  refine LN<|TN<|wp_ret ?_
  refine ret1 ha rfl ?_
  exact ⟨by rw [hm,show x.tmod 32=x % 32 from by rw [ht] at *; split at*<;> omega],hs⟩
theorem wadd_spec {x y : Int} (hs : St W w L) : Calls Tryz.prog 176 #[.int .i32 x,.int .i32 y] w fun e w'=>e=.returned (.int .i32 (w32 (x+y)))∧St W w' L:=by
 refine calls_enter Tryz.func176 rfl Tryz.ntmps176 (Nat.le_of_ble_eq_true rfl) ?_
 intro a ha
 replace ha : Fr a 8 [(0,_),(1,_)]:=ha
 refine WS<|WR ?_
 refine S1 ha fun a ha=>?_
 refine LN<|TN<|WS<|WR ?_
 iterate 2 (refine S1 ha fun a ha=>?_)
 refine SK (st_set ha rfl (ex_add ha) rfl fun a ha=>?_)
 refine S1d ha fun a ha=>?_
 refine LN<|TN<|wp_ret ?_
 refine ret1 ha rfl ?_
 exact ⟨rfl,hs⟩
theorem wsub_spec {x y : Int} (hs : St W w L) : Calls Tryz.prog 177 #[.int .i32 x,.int .i32 y] w fun e w'=>e=.returned (.int .i32 (w32 (x - y)))∧St W w' L:=by
 refine calls_enter Tryz.func177 rfl Tryz.ntmps177 (Nat.le_of_ble_eq_true rfl) ?_
 intro a ha
 replace ha : Fr a 8 [(0,_),(1,_)]:=ha
 refine WS<|WR ?_
 refine S1 ha fun a ha=>?_
 refine LN<|TN<|WS<|WR ?_
 iterate 2 (refine S1 ha fun a ha=>?_)
 refine SK (st_set ha rfl (ex_sub ha) rfl fun a ha=>?_)
 refine S1d ha fun a ha=>?_
 refine LN<|TN<|wp_ret ?_
 refine ret1 ha rfl ?_
 exact ⟨rfl,hs⟩
theorem wmul_spec {x y : Int} (hs : St W w L) : Calls Tryz.prog 178 #[.int .i32 x,.int .i32 y] w fun e w'=>e=.returned (.int .i32 (w32 (x*y)))∧St W w' L:=by
 refine calls_enter Tryz.func178 rfl Tryz.ntmps178 (Nat.le_of_ble_eq_true rfl) ?_
 intro a ha
 replace ha : Fr a 8 [(0,_),(1,_)]:=ha
 refine WS<|WR ?_
 refine S1 ha fun a ha=>?_
 refine LN<|TN<|WS<|WR ?_
 iterate 2 (refine S1 ha fun a ha=>?_)
 refine SK (st_set ha rfl (ex_mul ha) rfl fun a ha=>?_)
 refine S1d ha fun a ha=>?_
 refine LN<|TN<|wp_ret ?_
 refine ret1 ha rfl ?_
 exact ⟨rfl,hs⟩
theorem wdiv_spec {x y : Int} (hs : St W w L) : Calls Tryz.prog 179 #[.int .i32 x,.int .i32 y] w fun e w'=>e=.returned (.int .i32 (if y=0 then 0 else w32 (x.tdiv y)))∧St W w' L:=by
 refine calls_enter Tryz.func179 rfl Tryz.ntmps179 (Nat.le_of_ble_eq_true rfl) ?_
 intro a ha
 replace ha : Fr a 15 [(0,_),(1,_)]:=ha
 refine WS<|WR ?_
 refine S1 ha fun a ha=>?_
 refine LN<|TN<|WS<|WS<|WR ?_
 refine S1 ha fun a ha=>?_
 refine LN<|TN<|wp_block<|WS<|WR ?_
 iterate 2 (refine S1 ha fun a ha=>?_)
 refine LN<|TN ?_
 refine WI ha (fun hc0=>?_) (fun hc0=>?_)
 ·
  refine WS<|WR ?_
  refine S1d ha fun a ha=>?_
  refine LN<|TN<|wp_ret<|BR<|TR ?_
  refine ret1 ha rfl ?_
  exact ⟨by rw [if_pos (by omega)],hs⟩
 ·
  refine WS<|WR ?_
  iterate 2 (refine S1 ha fun a ha=>?_)
  refine LN<|TN ?_
  refine WI ha (fun hc1=>?_) (fun hc1=>?_)
  ·
   refine WS<|WR ?_
   refine S1 ha fun a ha=>?_
   refine SK (st_set ha rfl (ex_neg ha) rfl fun a ha=>?_)
   refine S1d ha fun a ha=>?_
   refine LN<|TN<|wp_ret<|BR<|TR ?_
   refine ret1 ha rfl ?_
   exact ⟨by rw [if_neg (by omega),show y = -1 from by omega,Int.tdiv_neg,Int.tdiv_one,show (0 : Int) - x = -x from by omega]; rfl,hs⟩
  ·
   refine WK<|BN<|TN<|WS<|WR ?_
   iterate 2 (refine S1 ha fun a ha=>?_)
   refine SK (st_set ha rfl (ex_quoW ha (by omega)) rfl fun a ha=>?_)
   refine S1d ha fun a ha=>?_
   refine LN<|TN<|wp_ret ?_
   refine ret1 ha rfl ?_
   exact ⟨by rw [if_neg (by omega)]; rfl,hs⟩
theorem flag_spec {z : Bool} (hs : St W w L) : Calls Tryz.prog 180 #[.bool z] w fun e w'=>e=.returned (.int .i32 (if z=true then 1 else 0))∧St W w' L:=by
 refine calls_enter Tryz.func180 rfl Tryz.ntmps180 (Nat.le_of_ble_eq_true rfl) ?_
 intro a ha
 replace ha : Fr a 4 [(0,_)]:=ha
 refine WS<|WR ?_
 refine S1 ha fun a ha=>?_
 refine LN<|TN<|WS<|WS<|WR ?_
 refine S1 ha fun a ha=>?_
 refine LN<|TN ?_
 refine WI ha (fun hc0=>?_) (fun hc0=>?_)
 ·
  refine WS<|WR ?_
  refine S1d ha fun a ha=>?_
  refine LN<|TN<|wp_ret<|TR ?_
  refine ret1 ha rfl ?_
  exact ⟨by rw [if_pos hc0],hs⟩
 ·
  refine WK<|TN<|WS<|WR ?_
  refine S1d ha fun a ha=>?_
  refine LN<|TN<|wp_ret ?_
  refine ret1 ha rfl ?_
  exact ⟨by rw [if_neg (by rw [hc0]; decide)],hs⟩
theorem sum_spec {k x y : Int} (hs : St W w L) : Calls Tryz.prog 173 #[.int .i64 k,.int .i32 x,.int .i32 y] w fun e w'=>e=.returned (.int .i32 (sumI k x y))∧St W w' L:=by
 refine calls_enter Tryz.func173 rfl Tryz.ntmps173 (Nat.le_of_ble_eq_true rfl) ?_
 intro a ha
 replace ha : Fr a 38 [(0,_),(1,_),(2,_)]:=ha
 refine WS<|WR ?_
 refine S1 ha fun a ha=>?_
 refine LN<|TN<|WS<|WS<|WR ?_
 refine S1 ha fun a ha=>?_
 refine LN<|TN<|wp_block<|WS<|WR ?_
 iterate 2 (refine S1 ha fun a ha=>?_)
 refine LN<|TN ?_
 refine WI ha (fun hc0=>?_) (fun hc0=>?_)
 ·
  refine WS<|WR ?_
  iterate 2 (refine S1 ha fun a ha=>?_)
  refine SK (st_call ha rfl Ty.c176 rfl (wadd_spec hs) ?_); clear ha hs
  rintro e w ⟨rfl,hs⟩
  refine ⟨_,rfl,?_⟩
  intro a ha
  refine S1d ha fun a ha=>?_
  refine LN<|TN<|wp_ret<|BR<|TR ?_
  refine ret1 ha rfl ?_
  exact ⟨by simp [sumI,hc0],hs⟩
 ·
  refine WS<|WR ?_
  iterate 2 (refine S1 ha fun a ha=>?_)
  refine LN<|TN ?_
  refine WI ha (fun hc1=>?_) (fun hc1=>?_)
  ·
   refine WS<|WR ?_
   iterate 2 (refine S1 ha fun a ha=>?_)
   refine SK (st_call ha rfl Ty.c177 rfl (wsub_spec hs) ?_); clear ha hs
   rintro e w ⟨rfl,hs⟩
   refine ⟨_,rfl,?_⟩
   intro a ha
   refine S1d ha fun a ha=>?_
   refine LN<|TN<|wp_ret<|BR<|TR ?_
   refine ret1 ha rfl ?_
   exact ⟨by simp [sumI,hc1],hs⟩
  ·
   refine WS<|WR ?_
   iterate 2 (refine S1 ha fun a ha=>?_)
   refine LN<|TN ?_
   refine WI ha (fun hc2=>?_) (fun hc2=>?_)
   ·
    refine WS<|WR ?_
    iterate 2 (refine S1 ha fun a ha=>?_)
    refine SK (st_call ha rfl Ty.c178 rfl (wmul_spec hs) ?_); clear ha hs
    rintro e w ⟨rfl,hs⟩
    refine ⟨_,rfl,?_⟩
    intro a ha
    refine S1d ha fun a ha=>?_
    refine LN<|TN<|wp_ret<|BR<|TR ?_
    refine ret1 ha rfl ?_
    exact ⟨by simp [sumI,hc2],hs⟩
   ·
    refine WS<|WR ?_
    iterate 2 (refine S1 ha fun a ha=>?_)
    refine LN<|TN ?_
    refine WI ha (fun hc3=>?_) (fun hc3=>?_)
    ·
     refine WS<|WR ?_
     iterate 2 (refine S1 ha fun a ha=>?_)
     refine SK (st_call ha rfl Ty.c179 rfl (wdiv_spec hs) ?_); clear ha hs
     rintro e w ⟨rfl,hs⟩
     refine ⟨_,rfl,?_⟩
     intro a ha
     refine S1d ha fun a ha=>?_
     refine LN<|TN<|wp_ret<|BR<|TR ?_
     refine ret1 ha rfl ?_
     exact ⟨by simp [sumI,hc3],hs⟩
    ·
     refine WS<|WR ?_
     iterate 2 (refine S1 ha fun a ha=>?_)
     refine LN<|TN ?_
     refine WI ha (fun hc4=>?_) (fun hc4=>?_)
     ·
      refine WS<|WR ?_
      iterate 3 (refine S1 ha fun a ha=>?_)
      refine SK (st_call ha rfl Ty.c180 rfl (flag_spec hs) ?_); clear ha hs
      rintro e w ⟨rfl,hs⟩
      refine ⟨_,rfl,?_⟩
      intro a ha
      refine S1d ha fun a ha=>?_
      refine LN<|TN<|wp_ret<|BR<|TR ?_
      refine ret1 ha rfl ?_
      exact ⟨by simp [sumI,hc4],hs⟩
     ·
      refine WK<|BN<|TN<|WS<|WR ?_
      iterate 3 (refine S1 ha fun a ha=>?_)
      refine SK (st_call ha rfl Ty.c180 rfl (flag_spec hs) ?_); clear ha hs
      rintro e w ⟨rfl,hs⟩
      refine ⟨_,rfl,?_⟩
      intro a ha
      refine S1d ha fun a ha=>?_
      refine LN<|TN<|wp_ret ?_
      refine ret1 ha rfl ?_
      exact ⟨by simp [sumI,hc0,hc1,hc2,hc3,hc4],hs⟩
theorem at_spec {s : ByteArray} {n : Int} (hs : St W w L) (hsz : s.size≤1099511627776) (hn : i32P n) : Calls Tryz.prog 172 #[.string s,.int .i64 n] w fun e w'=>e=.returned (.int .i32 (runeI s n))∧St W w' L:=by
 simp only [i32P] at hn
 refine calls_enter Tryz.func172 rfl Tryz.ntmps172 (Nat.le_of_ble_eq_true rfl) ?_
 intro a ha
 replace ha : Fr a 17 [(0,_),(1,_)]:=ha
 refine WS<|WR ?_
 refine S1 ha fun a ha=>?_
 refine LN<|TN<|WS<|WS<|WR ?_
 refine S1 ha fun a ha=>?_
 refine SK (st_range ha rfl hs Tryz.underlying9 rfl fun b8 a w ha hs ho=>?_)
 clear ho
 refine LN<|TN<|wp_block ?_
 refine wp_loop_ghost (fun μ a w=>∃ (pos : Nat) (dn : List (Nat × Nat)),(μ=s.size - pos∧pos≤s.size∧runesAt s 0=dn++runesAt s pos∧dn.length≤pos∧(n < 0∨(dn.length : Int)≤n))∧Fr a 17 [(0,.string s),(1,.int .i64 (n - dn.length)),(8,.pointer (some ⟨b8,0,none⟩))]∧St W w (pts b8 (.stringIter s pos)::L)) (s.size) ?_ ?_
 · exact ⟨0,[],⟨by simp,by simp,by simp,by simp,by simp; omega⟩,by rw [show n - (([] : List (Nat × Nat)).length : Int)=n from by simp]; exact ha.keep [0,1,8],hs⟩
 ·
  clear ha hs
  rintro μ a w ⟨pos,dn,⟨rfl,hpos,hdn,hdl,hnn⟩,ha,hs⟩
  refine WS<|WR ?_
  refine SK (st_next ha rfl hs rfl fun a w ha hs=>?_)
  refine SK (st_set ha rfl (ex_extract ha (nx0 s pos)) rfl fun a ha=>?_)
  refine LN<|TN<|WS ?_
  refine WI ha (fun hc0=>?_) (fun hc0=>?_)
  ·
   have hra:=runesAt_in hc0
   have hal:=adv_le hpos
   have had : adv s pos=pos+(Utf8.decode s pos).2:=by rw [adv,if_pos hc0]
   have hwp:=decode_pos s pos
   refine WK<|TN<|wp_block<|WS<|WR ?_
   refine SK (st_set ha rfl (ex_extract ha (nx2 hc0)) rfl fun a ha=>?_)
   refine S1 ha fun a ha=>?_
   refine LN<|TN<|WS<|WS<|WR ?_
   iterate 2 (refine S1 ha fun a ha=>?_)
   refine LN<|TN ?_
   refine WI ha (fun hc1=>?_) (fun hc1=>?_)
   ·
    refine WS<|WR ?_
    iterate 2 (refine S1 ha fun a ha=>?_)
    refine LN<|TN<|wp_ret<|TR<|BR<|TR<|BR<|TR ?_
    refine ret1 ha rfl ?_
    refine ⟨?_,hs.sub⟩
    have hnl : n.toNat=dn.length:=by omega
    rw [runeI,if_pos (by omega),hdn,hra,hnl,List.getElem?_append_right (Nat.le_refl _),Nat.sub_self]; rfl
   ·
    refine WK<|TN<|WR ?_
    refine S1 ha fun a ha=>?_
    refine SK (st_set ha rfl (ex_subI ha (by omega) (by omega)) rfl fun a ha=>?_)
    refine S1d ha fun a ha=>?_
    refine LN<|BN<|TN ?_
    exact ⟨s.size - adv s pos,by omega,adv s pos,dn++[Utf8.decode s pos],⟨rfl,hal,by rw [hdn,hra,List.append_assoc]; rfl,by rw [List.length_append]; simp; omega,by rw [List.length_append]; simp; omega⟩,by rw [show n - ((dn++[Utf8.decode s pos]).length : Int)=n - (dn.length : Int) - 1 from by rw [List.length_append]; simp; omega]; exact ha.keep [0,1,8],hs.sub⟩
  ·
   refine wp_exit<|TE<|TE<|blk_e<|TN<|WS<|WR ?_
   refine S1 ha fun a ha=>?_
   refine LN<|TN<|wp_ret ?_
   refine ret1 ha rfl ?_
   refine ⟨?_,hs.sub⟩
   have hro:=runesAt_out (s:=s) (pos:=pos) hc0
   rw [hro,List.append_nil] at hdn
   rw [runeI]
   split
   · rw [hdn,List.getElem?_eq_none (by omega)]; rfl
   · rfl
structure MemS (W : World) (t : TypeId) (ad : Addr) (fg fs : FuncId) (J : (Nat→Int)→Bool→SP) : Prop where
 mG : MethodT Tryz.prog t "Get" fg
 cG : callable Tryz.prog fg=true
 mS : MethodT Tryz.prog t "Set" fs
 cS : callable Tryz.prog fs=true
 ok : ∀ (w : World) (L : List SP) (g : Nat→Int) (bad : Bool),St W w (J g bad::L)→gOk g
 get : ∀ (w : World) (L : List SP) (g : Nat→Int) (bad : Bool) (c : Nat),c < 32→St W w (J g bad::L)→Calls Tryz.prog fg (List.toArray [.pointer (some ad),.int .i64 c]) w fun e w'=>e=.returned (.int .i32 (g c))∧St W w' (J g bad::L)
 set : ∀ (w : World) (L : List SP) (g : Nat→Int) (bad : Bool) (c : Nat) (v : Int),c < 32→i32P v→St W w (J g bad::L)→Calls Tryz.prog fs (List.toArray [.pointer (some ad),.int .i64 c,.int .i32 v]) w fun e w' =>
   ∃ (g' : Nat→Int) (bad' : Bool),e=.returned (.tuple #[])∧((bad'=true∧g'=g)∨(bad'=false∧bad=false∧g'=upd g c v))∧St W w' (J g' bad'::L)
def runC (p : Pr) (adO : Option Addr) (cO : Nat) (t : TypeId) (ad : Addr) (fr : Int) (adP : Option Addr) (nP cP : Nat) (at' : Nat) : List Value :=
 [.string p.title,.slice adO p.ops.length cO,.iface t (.pointer (some ad)),.int .i64 fr,.slice adP nP cP,.int .i64 at']
variable {t : TypeId} {ad : Addr} {fg fs br at' cO cP : Nat} {J : (Nat→Int)→Bool→SP} {p : Pr} {adO adP : Option Addr} {fr : Int} {b : List UInt8} {g : Nat→Int} {bad : Bool} {o : OpR}
theorem in_spec {x : Int} (hs : St W w (blk br 224 (runC p adO cO t ad fr adP b.length cP at')::L)) (hx : i32P x) (hb : b.length≤1099511627776) (hp : ∀ w',St W w' L→RdB w' adP b.length b) :
   Calls Tryz.prog 171 #[.pointer (some ⟨br,0,none⟩),.int .i32 x] w fun e w'=>e=.returned (.int .i32 (pressI b x))∧St W w' (blk br 224 (runC p adO cO t ad fr adP b.length cP at')::L):=by
 simp only [i32P] at hx
 refine calls_enter Tryz.func171 rfl Tryz.ntmps171 (Nat.le_of_ble_eq_true rfl) ?_
 intro a ha
 replace ha : Fr a 25 [(0,_),(1,_)]:=ha
 refine WS<|WR ?_
 refine S1 ha fun a ha=>?_
 refine LN<|TN<|WS<|WS<|WR ?_
 iterate 3 (refine S1 ha fun a ha=>?_)
 refine ha.by (s:=7) (fun hg2 ha=>?_) (fun hg2 ha=>?_)
 ·
  iterate 8 (refine SO (s:=7) ha fun a ha=>?_)
  refine PT ha fun a ha=>?_
  refine LN<|TN<|WTr ha<|WS<|WR ?_
  refine S1d ha fun a ha=>?_
  refine LN<|TN<|wp_ret<|TR ?_
  refine ret1 ha rfl ?_
  exact ⟨by rw [pressI,if_neg (by omega)],hs⟩
 ·
  refine S1g (s:=7) ha fun a ha=>?_
  refine SK (st_set ha (wgT ha rfl (s:=7)) (ex_convIIs ha Tryz.underlying21 Tryz.underlying3 (by rw [wrap_in (by omega) (by omega)])) rfl fun a ha=>?_)
  iterate 3 (refine S1g (s:=7) ha fun a ha=>?_)
  refine SLg (s:=7) ha (hs.rd1 rfl) fun a ha=>?_
  iterate 2 (refine S1g (s:=7) ha fun a ha=>?_)
  refine PF ha fun a ha=>?_
  refine LN<|TN ?_
  refine WI ha (fun hc0=>?_) (fun hc0=>?_)
  ·
   refine WS<|WR ?_
   refine S1d ha fun a ha=>?_
   refine LN<|TN<|wp_ret<|TR ?_
   refine ret1 ha rfl ?_
   exact ⟨by rw [pressI,if_neg (by omega)],hs⟩
  ·
   refine WK<|TN<|WS ?_
   obtain ⟨k,hk⟩ : ∃ k : Nat,x=(k : Int):=⟨x.toNat,by omega⟩
   obtain ⟨_,_,hpr⟩:=hp _ hs.tail
   have hkb : k < b.length:=by omega
   obtain ⟨bp,op,hade,hrd⟩ : ∃ bp op,adP=some ⟨bp,op,none⟩∧Rd w bp op (bc b):=by
     cases hh : adP with
     | none =>
       have:=(hp _ hs.tail).2.1 hh
       omega
     | some a =>
       obtain ⟨b1,o1,rfl,h1⟩:=hpr a hh (by omega)
       exact ⟨b1,o1,rfl,h1⟩
   rw [hk] at ha
   refine WR ?_
   iterate 3 (refine S1 ha fun a ha=>?_)
   refine SL ha (hs.rd1 rfl) fun a ha=>?_
   rw [hade] at ha
   refine S1 ha fun a ha=>?_
   refine SK (st_set ha rfl (ex_indexAddr ha Tryz.underlying22 Ty.t5 (by omega)) rfl fun a ha=>?_)
   rw [Nat.mul_one] at ha
   refine SL ha (hrd k (.int .u8 b[k].toNat) (by simp [bc,hkb])) fun a ha=>?_
   refine SK (st_set ha rfl (ex_convIIs ha Tryz.underlying5 Tryz.underlying21 (by have:=b[k].toNat_lt; exact wrap32' (by omega) (by omega))) rfl fun a ha=>?_)
   refine S1d ha fun a ha=>?_
   refine LN<|TN<|wp_ret ?_
   refine ret1 ha rfl ?_
   refine ⟨?_,hs.sub⟩
   rw [pressI,if_pos (by omega),hk,Int.toNat_natCast,List.getD_eq_getElem?_getD,List.getElem?_eq_getElem hkb]; rfl
theorem upd_ok {c : Nat} {v : Int} (h : gOk g) (hv : i32P v) : gOk (upd g c v):=fun d hd=>by
 simp only [upd]; split
 · exact hv
 · exact h d hd
def LeN (x : Int) (m : Nat) : Prop:=∃ n : Nat,x=(n : Int)∧n≤m
def LtN (x : Int) (m : Nat) : Prop:=∃ n : Nat,x=(n : Int)∧n < m
theorem LeN.of {x : Int} {m : Nat} (h : 0≤x∧x≤m) : LeN x m:=⟨x.toNat,by omega,by omega⟩
theorem LtN.of {x : Int} {m : Nat} (h : 0≤x∧x < m) : LtN x m:=⟨x.toNat,by omega,by omega⟩
theorem value_spec {M : MemS W t ad fg fs J} {m : Nat} (hs : St W w (blk br 224 (runC p adO cO t ad fr adP b.length cP at')::J g bad::L)) (ho : okOp m o) (h0 : o.code≠0) (h9 : o.code≠9) (h10 : o.code≠10) (h13 : o.code≠13)
   (hsz : p.title.size≤1000000000) (hb : b.length≤1099511627776) (hp : ∀ w',St W w' L→RdB w' adP b.length b) :
   Calls Tryz.prog 167 #[.pointer (some ⟨br,0,none⟩),.agg (opR o).toArray] w fun e w'=>e=.returned (.int .i32 (valI p fr b g o))∧St W w' (blk br 224 (runC p adO cO t ad fr adP b.length cP at')::J g bad::L):=by
 have hg : gOk g:=M.ok _ _ g bad hs.tail
 have hop:=ho
 simp only [okOp,cellP] at hop
 have hbc : o.code≠1→o.code≠15→LtN o.b 32:=fun h1 h2=>LtN.of (by omega)
 have hcc : 3≤o.code∧o.code≤8→LtN o.c 32:=fun h=>LtN.of (by omega)
 have hcr : o.code≠1→o.code≠2→o.code≠11→o.code≠12→o.code≠14→o.code≠15→3≤o.code∧o.code≤8:=by omega
 clear hop
 refine calls_enter Tryz.func167 rfl Tryz.ntmps167 (Nat.le_of_ble_eq_true rfl) ?_
 intro a ha
 replace ha : Fr a 92 [(0,_),(1,_)]:=ha
 refine WS<|WR ?_
 refine SK (st_box ha rfl hs rfl fun b3 a w ha hs ho=>?_)
 clear ho
 change St W w (blk b3 87 (opR o)::_) at hs
 refine S1 ha fun a ha=>?_
 refine LN<|TN<|WS<|WS<|WR ?_
 refine S1 ha fun a ha=>?_
 refine SL ha (hs.rd1 rfl) fun a ha=>?_
 refine LN<|TN<|wp_block<|WS<|WR ?_
 iterate 2 (refine S1 ha fun a ha=>?_)
 refine LN<|TN ?_
 refine WI ha (fun hc0=>?_) (fun hc0=>?_)
 ·
  refine WS<|WR ?_
  refine S1 ha fun a ha=>?_
  refine SL ha (hs.rd1 rfl) fun a ha=>?_
  refine SK (st_set ha rfl (ex_convII ha Tryz.underlying3 Tryz.underlying21) rfl fun a ha=>?_)
  refine S1d ha fun a ha=>?_
  refine LN<|TN<|wp_ret<|BR<|TR ?_
  refine ret1 ha rfl ?_
  exact ⟨by simp [valI,hc0]; rfl,hs.sub⟩
 ·
  refine WS<|WR ?_
  iterate 2 (refine S1 ha fun a ha=>?_)
  refine LN<|TN ?_
  refine WI ha (fun hc1=>?_) (fun hc1=>?_)
  ·
   refine WS ?_
   obtain ⟨bn,hbn,hb32⟩:=hbc (by omega) (by omega)
   refine DW (m:=8) (Old w.drew) [5] [0,1,2,4,3,5,6,7] Ty.mixed (pk_then (pk_blk (pk_then pk_body))) (fun hpk=>?_)
   replace hs:=hs.drew
   have hC:=Old.refl w.drew
   generalize w.drew=w at hs hC hpk ⊢
   iterate 4 (refine DP hpk ha rfl fun a ha=>?_)
   refine DL hpk ha rfl (fun w hc=>hc.cell (hs.rd1 rfl)) hC fun a ha=>?_
   refine D1 rfl (st_set ha rfl (ex_load1 ha Tryz.underlying3 rfl (hs.rd1 rfl)) rfl fun a ha=>?_)
   refine ⟨fun _=>hC,?_⟩
   rw [hbn] at ha
   refine D1 rfl (st_callI ha rfl M.mG M.cG rfl (M.get _ _ g bad bn hb32 (hs.pick (J g bad))) (by rfl) ?_); clear ha hs
   rintro e w ⟨rfl,hs⟩
   refine ⟨_,rfl,?_⟩
   intro a ha
   refine ⟨fun h=>absurd h (by decide),?_⟩
   replace ha:=ha.del 4
   refine DP hpk ha rfl fun a ha=>?_
   refine DD<|TN<|wp_ret<|BR<|TR ?_
   refine ret1 ha rfl ?_
   exact ⟨by simp [valI,hc1,hbn],hs.sub⟩
  ·
   refine WS<|WR ?_
   iterate 2 (refine S1 ha fun a ha=>?_)
   refine LN<|TN ?_
   refine WI ha (fun hc2=>?_) (fun hc2=>?_)
   ·
    refine WS ?_
    obtain ⟨bn,hbn,hb32⟩:=hbc (by omega) (by omega)
    refine DW (m:=10) (Old w.drew) [6] [0,1,2,3,5,4,6,7,8,9] Ty.mixed (pk_then (pk_blk (pk_then pk_body))) (fun hpk=>?_)
    replace hs:=hs.drew
    have hC:=Old.refl w.drew
    generalize w.drew=w at hs hC hpk ⊢
    iterate 5 (refine DP hpk ha rfl fun a ha=>?_)
    refine DL hpk ha rfl (fun w hc=>hc.cell (hs.rd1 rfl)) hC fun a ha=>?_
    refine D1 rfl (st_set ha rfl (ex_load1 ha Tryz.underlying3 rfl (hs.rd1 rfl)) rfl fun a ha=>?_)
    refine ⟨fun _=>hC,?_⟩
    rw [hbn] at ha
    refine D1 rfl (st_callI ha rfl M.mG M.cG rfl (M.get _ _ g bad bn hb32 (hs.pick (J g bad))) (by rfl) ?_); clear ha hs
    rintro e w ⟨rfl,hs⟩
    refine ⟨_,rfl,?_⟩
    intro a ha
    refine ⟨fun h=>absurd h (by decide),?_⟩
    refine D1 rfl (st_call ha rfl Ty.c171 rfl (in_spec (hs.bring br) (hg bn hb32) hb (fun w' h=>hp w' h.sub)) ?_); clear ha hs
    rintro e w ⟨rfl,hs⟩
    refine ⟨_,rfl,?_⟩
    intro a ha
    refine ⟨fun h=>absurd h (by decide),?_⟩
    replace ha:=ha.del 4
    refine DP hpk ha rfl fun a ha=>?_
    refine DD<|TN<|wp_ret<|BR<|TR ?_
    refine ret1 ha rfl ?_
    exact ⟨by simp [valI,hc2,hbn],hs.sub⟩
   ·
    refine WS<|WR ?_
    iterate 2 (refine S1 ha fun a ha=>?_)
    refine LN<|TN ?_
    refine WI ha (fun hc3=>?_) (fun hc3=>?_)
    ·
     refine WS ?_
     obtain ⟨bn,hbn,hb32⟩:=hbc (by omega) (by omega)
     have hm32:=mod32_lt (g bn)
     have hrr : Rd w.drew br 0 (runC p adO cO t ad fr adP b.length cP at'):=hs.drew.rdAll
     have hro : Rd w.drew b3 0 (opR o):=hs.drew.rdAll
     refine DW (m:=16) (fun w'=>Rd w' br 0 (runC p adO cO t ad fr adP b.length cP at')∧Rd w' b3 0 (opR o)) [7,9,10,11] [0,1,2,4,5,6,8,3,12,13,7,9,10,11,14,15] Ty.mixed (pk_then (pk_blk (pk_then pk_body))) (fun hpk=>?_)
     replace hs:=hs.drew
     generalize w.drew=w at hs hpk hrr hro ⊢
     have hC:=And.intro hrr hro
     iterate 7 (refine DP hpk ha rfl fun a ha=>?_)
     refine DL hpk ha rfl (fun w hc=>hc.1 2 _ rfl) hC fun a ha=>?_
     iterate 2 (refine DP hpk ha rfl fun a ha=>?_)
     refine DL hpk ha rfl (fun w hc=>hc.1 2 _ rfl) hC fun a ha=>?_
     refine D1 rfl (st_set ha rfl (ex_load1 ha Tryz.underlying3 rfl (hC.2 2 _ rfl)) rfl fun a ha=>?_)
     refine ⟨fun _=>hC,?_⟩
     rw [hbn] at ha
     refine D1 rfl (st_callI ha rfl M.mG M.cG rfl (M.get _ _ g bad bn hb32 (hs.pick (J g bad))) (by rfl) ?_); clear ha hs
     rintro e w ⟨rfl,hs⟩
     refine ⟨_,rfl,?_⟩
     intro a ha
     replace hC : (fun w'=>Rd w' br 0 (runC p adO cO t ad fr adP b.length cP at')∧Rd w' b3 0 (opR o)) w:=And.intro hs.rdAll hs.rdAll
     refine ⟨fun _=>hC,?_⟩
     refine D1 rfl (st_call ha rfl Ty.c166 rfl (wmod_spec hs (hg bn hb32)) ?_); clear ha hs
     rintro e w ⟨rfl,hs⟩
     refine ⟨_,rfl,?_⟩
     intro a ha
     replace hC : (fun w'=>Rd w' br 0 (runC p adO cO t ad fr adP b.length cP at')∧Rd w' b3 0 (opR o)) w:=And.intro hs.rdAll hs.rdAll
     refine ⟨fun _=>hC,?_⟩
     refine D1 rfl (st_callI ha rfl M.mG M.cG rfl (M.get _ _ g bad (mod32 (g bn)) hm32 (hs.pick (J g bad))) (by rfl) ?_); clear ha hs
     rintro e w ⟨rfl,hs⟩
     refine ⟨_,rfl,?_⟩
     intro a ha
     refine ⟨fun h=>absurd h (by decide),?_⟩
     replace ha:=ha.del 4
     refine DP hpk ha rfl fun a ha=>?_
     refine DD<|TN<|wp_ret<|BR<|TR ?_
     refine ret1 ha rfl ?_
     exact ⟨by simp [valI,hc3,hbn],hs.sub⟩
    ·
     refine WS<|WR ?_
     iterate 2 (refine S1 ha fun a ha=>?_)
     refine LN<|TN ?_
     refine WI ha (fun hc4=>?_) (fun hc4=>?_)
     ·
      refine WS ?_
      obtain ⟨bn,hbn,hb32⟩:=hbc (by omega) (by omega)
      have hgi:=hg bn hb32
      have hgi2:=hgi
      simp only [i32P] at hgi2
      have hrr : Rd w.drew br 0 (runC p adO cO t ad fr adP b.length cP at'):=hs.drew.rdAll
      have hro : Rd w.drew b3 0 (opR o):=hs.drew.rdAll
      refine DW (m:=15) (fun w'=>Rd w' br 0 (runC p adO cO t ad fr adP b.length cP at')∧Rd w' b3 0 (opR o)) [8,10,11,12] [0,1,2,3,5,6,7,9,4,8,10,11,12,13,14] Ty.mixed (pk_then (pk_blk (pk_then pk_body))) (fun hpk=>?_)
      replace hs:=hs.drew
      generalize w.drew=w at hs hpk hrr hro ⊢
      have hC:=And.intro hrr hro
      iterate 8 (refine DP hpk ha rfl fun a ha=>?_)
      refine DL hpk ha rfl (fun w hc=>hc.1 0 _ rfl) hC fun a ha=>?_
      refine DL hpk ha rfl (fun w hc=>hc.1 2 _ rfl) hC fun a ha=>?_
      refine D1 rfl (st_set ha rfl (ex_load1 ha Tryz.underlying3 rfl (hC.2 2 _ rfl)) rfl fun a ha=>?_)
      refine ⟨fun _=>hC,?_⟩
      rw [hbn] at ha
      refine D1 rfl (st_callI ha rfl M.mG M.cG rfl (M.get _ _ g bad bn hb32 (hs.pick (J g bad))) (by rfl) ?_); clear ha hs
      rintro e w ⟨rfl,hs⟩
      refine ⟨_,rfl,?_⟩
      intro a ha
      replace hC : (fun w'=>Rd w' br 0 (runC p adO cO t ad fr adP b.length cP at')∧Rd w' b3 0 (opR o)) w:=And.intro hs.rdAll hs.rdAll
      refine ⟨fun _=>hC,?_⟩
      refine D1 rfl (st_set ha rfl (ex_convIIs ha Tryz.underlying21 Tryz.underlying3 (by rw [wrap_in (by omega) (by omega)])) rfl fun a ha=>?_)
      refine ⟨fun _=>hC,?_⟩
      refine D1 rfl (st_call ha rfl Ty.c172 rfl (at_spec hs (by omega) hgi) ?_); clear ha hs
      rintro e w ⟨rfl,hs⟩
      refine ⟨_,rfl,?_⟩
      intro a ha
      refine ⟨fun h=>absurd h (by decide),?_⟩
      replace ha:=ha.del 4
      refine DP hpk ha rfl fun a ha=>?_
      refine DD<|TN<|wp_ret<|BR<|TR ?_
      refine ret1 ha rfl ?_
      exact ⟨by simp [valI,hc4,hbn],hs.sub⟩
     ·
      refine WS<|WR ?_
      iterate 2 (refine S1 ha fun a ha=>?_)
      refine LN<|TN ?_
      refine WI ha (fun hc5=>?_) (fun hc5=>?_)
      ·
       refine WS<|WR ?_
       iterate 3 (refine S1 ha fun a ha=>?_)
       refine SL ha (hs.rd1 rfl) fun a ha=>?_
       refine SK (st_set ha rfl (ex_convII ha Tryz.underlying3 Tryz.underlying38) rfl fun a ha=>?_)
       refine SK (st_set ha rfl (ex_convII ha Tryz.underlying38 Tryz.underlying21) rfl fun a ha=>?_)
       refine S1d ha fun a ha=>?_
       refine LN<|TN<|wp_ret<|BR<|TR ?_
       refine ret1 ha rfl ?_
       refine ⟨?_,hs.sub⟩
       have e : IntKind.i32.wrap (IntKind.u32.wrap fr)=w32 fr:=by
         simp only [w32,IntKind.wrap,IntKind.signed,IntKind.bits]
         have : fr % 4294967296 % 4294967296=fr % 4294967296:=Int.emod_emod_of_dvd _ (Int.dvd_refl _)
         simp [this]
       simp [valI,hc5,e]
      ·
       refine WK<|BN<|TN<|WS ?_
       obtain ⟨bn,hbn,hb32⟩:=hbc (by omega) (by omega)
       obtain ⟨cn,hcn,hc32⟩:=hcc (hcr hc0 hc1 hc2 hc3 hc4 hc5)
       refine DW (m:=8) (Old w.drew) [5] [0,1,2,4,3,5,6,7] Ty.mixed (pk_then pk_body) (fun hpk=>?_)
       replace hs:=hs.drew
       have hC:=Old.refl w.drew
       generalize w.drew=w at hs hC hpk ⊢
       iterate 4 (refine DP hpk ha rfl fun a ha=>?_)
       refine DL hpk ha rfl (fun w hc=>hc.cell (hs.rd1 rfl)) hC fun a ha=>?_
       refine D1 rfl (st_set ha rfl (ex_load1 ha Tryz.underlying3 rfl (hs.rd1 rfl)) rfl fun a ha=>?_)
       refine ⟨fun _=>hC,?_⟩
       rw [hbn] at ha
       refine D1 rfl (st_callI ha rfl M.mG M.cG rfl (M.get _ _ g bad bn hb32 (hs.pick (J g bad))) (by rfl) ?_); clear ha hs
       rintro e w ⟨rfl,hs⟩
       refine ⟨_,rfl,?_⟩
       intro a ha
       refine ⟨fun h=>absurd h (by decide),?_⟩
       refine DP hpk ha rfl fun a ha=>?_
       refine DD<|TN<|WS ?_
       have hrr : Rd w.drew br 0 (runC p adO cO t ad fr adP b.length cP at'):=hs.drew.rdAll
       have hro : Rd w.drew b3 0 (opR o):=hs.drew.rdAll
       refine DW (m:=12) (fun w'=>Rd w' br 0 (runC p adO cO t ad fr adP b.length cP at')∧Rd w' b3 0 (opR o)) [6,8,9] [0,2,3,4,5,7,1,6,8,9,10,11] Ty.mixed (pk_then pk_body) (fun hpk=>?_)
       replace hs:=hs.drew
       generalize w.drew=w at hs hpk hrr hro ⊢
       have hC:=And.intro hrr hro
       iterate 6 (refine DP hpk ha rfl fun a ha=>?_)
       refine DL hpk ha rfl (fun w hc=>hc.2 0 _ rfl) hC fun a ha=>?_
       refine DL hpk ha rfl (fun w hc=>hc.1 2 _ rfl) hC fun a ha=>?_
       refine D1 rfl (st_set ha rfl (ex_load1 ha Tryz.underlying3 rfl (hC.2 3 _ rfl)) rfl fun a ha=>?_)
       refine ⟨fun _=>hC,?_⟩
       rw [hcn] at ha
       refine D1 rfl (st_callI ha rfl M.mG M.cG rfl (M.get _ _ g bad cn hc32 (hs.pick (J g bad))) (by rfl) ?_); clear ha hs
       rintro e w ⟨rfl,hs⟩
       refine ⟨_,rfl,?_⟩
       intro a ha
       replace hC : (fun w'=>Rd w' br 0 (runC p adO cO t ad fr adP b.length cP at')∧Rd w' b3 0 (opR o)) w:=And.intro hs.rdAll hs.rdAll
       refine ⟨fun _=>hC,?_⟩
       refine D1 rfl (st_call ha rfl Ty.c173 rfl (sum_spec hs) ?_); clear ha hs
       rintro e w ⟨rfl,hs⟩
       refine ⟨_,rfl,?_⟩
       intro a ha
       refine ⟨fun h=>absurd h (by decide),?_⟩
       replace ha:=ha.del 4
       refine DP hpk ha rfl fun a ha=>?_
       refine DD<|TN<|wp_ret ?_
       refine ret1 ha rfl ?_
       exact ⟨by simp [valI,hc0,hc1,hc2,hc3,hc4,hc5,hbn,hcn],hs.sub⟩
theorem runeI_ok (s : ByteArray) (n : Int) : i32P (runeI s n):=by
 have hb : ∀ pos,∀ x∈runesAt s pos,x.1 < 1114112:=by
   have h : ∀ k pos,s.size - pos≤k→∀ x∈runesAt s pos,x.1 < 1114112:=by
     intro k
     induction k with
     | zero=>intro pos h x hx; rw [runesAt_out (by omega)] at hx; simp at hx
     | succ k ih =>
       intro pos h x hx
       by_cases hp : pos < s.size
       · rw [runesAt_in hp] at hx
         rcases List.mem_cons.1 hx with rfl | hx
         · exact decode_lt s pos
         · have:=(decode_pos s pos).1
           exact ih (adv s pos) (by rw [adv,if_pos hp]; omega) x hx
       · rw [runesAt_out hp] at hx; simp at hx
   exact fun pos=>h _ pos (Nat.le_refl _)
 simp only [runeI,i32P]
 split
 · cases hx : (runesAt s 0)[n.toNat]? with
   | none=>simp
   | some x =>
     have:=hb 0 x (List.mem_of_getElem? hx)
     simp only [Option.map_some,Option.getD_some]
     omega
 · omega
theorem sumI_ok (k x y : Int) : i32P (sumI k x y):=by
 unfold sumI
 have h1 : i32P 1:=by simp [i32P]
 have h0 : i32P 0:=by simp [i32P]
 repeat' split
 all_goals first | exact w32_in _ | exact h1 | exact h0
theorem pressI_ok (b : List UInt8) (x : Int) : i32P (pressI b x):=by
 simp only [pressI,i32P]
 split
 · have:=(b.getD x.toNat 0).toNat_lt
   omega
 · omega
theorem value_ok {m : Int} (hg : gOk g) (ho : okOp m o) (h9 : o.code≠9) (h10 : o.code≠10) : i32P (valI p fr b g o):=by
 simp only [okOp,cellP] at ho
 have hb : o.code≠1→o.code≠15→o.code≠0→o.b.toNat < 32:=fun h1 h2 h3=>by omega
 have h0 : o.code=0→o.b.toNat < 32:=fun h=>by omega
 unfold valI
 split
 · exact w32_in _
 · split
   · exact hg _ (hb (by omega) (by omega) (by omega))
   · split
     · exact pressI_ok _ _
     · split
       · exact hg _ (mod32_lt _)
       · split
         · exact runeI_ok _ _
         · split
           · exact w32_in _
           · exact sumI_ok _ _ _
set_option maxHeartbeats 4000000 in
theorem one_spec {M : MemS W t ad fg fs J} (hs : St W w (blk br 224 (runC p adO cO t ad fr adP b.length cP at')::J g bad::RoP W p adO cO::L)) (hpr : ∀ o∈p.ops,okOp p.ops.length o) (hat : p.ops[at']?=some o)
   (hsz : p.title.size≤1000000000) (hol : p.ops.length≤1000000000) (hb : b.length≤1099511627776) (hp : ∀ w',St W w' L→RdB w' adP b.length b) :
   Calls Tryz.prog 151 #[.pointer (some ⟨br,0,none⟩)] w fun e w'=>∃ (g' : Nat→Int) (at2 : Nat) (bad' r : Bool),e=.returned (.bool r)∧(bad'=false→bad=false∧oneI p fr b g at' o=(g',at2,r))∧at2≤p.ops.length ∧
     St W w' (blk br 224 (runC p adO cO t ad fr adP b.length cP at2)::J g' bad'::RoP W p adO cO::L):=by
 have hg : gOk g:=M.ok _ _ g bad hs.tail
 have ho:=hpr o (List.mem_of_getElem? hat)
 have hatl:=(List.getElem?_eq_some_iff.1 hat).1
 have hop:=ho
 simp only [okOp,cellP] at hop
 have ha9 : o.code=9→LeN o.a p.ops.length:=fun h=>LeN.of (by omega)
 have hac : o.code≠9→o.code≠0→LtN o.a 32:=fun h h2=>LtN.of (by omega)
 have hb10 : o.code=10→LeN o.b p.ops.length:=fun h=>LeN.of (by omega)
 have hb13 : o.code=13→LtN o.b 32:=fun h=>LtN.of (by omega)
 clear hop
 refine calls_enter Tryz.func151 rfl Tryz.ntmps151 (Nat.le_of_ble_eq_true rfl) ?_
 intro a ha
 replace ha : Fr a 86 [(0,_)]:=ha
 refine WS<|WR ?_
 refine S1 ha fun a ha=>?_
 refine LN<|TN<|WS ?_
 obtain ⟨bo,oo,hade,hro⟩:=hs.drew.roRd adO (by omega)
 rw [hade] at hs
 refine DW (m:=13) (Old w.drew) [8,11] [0,1,2,3,5,6,7,4,8,9,10,11,12] Ty.mixed (pk_then pk_body) (fun hpk=>?_)
 replace hs:=hs.drew
 have hC:=Old.refl w.drew
 generalize w.drew=w at hs hC hpk hro ⊢
 iterate 7 (refine DP hpk ha rfl fun a ha=>?_)
 iterate 2 (refine DL hpk ha rfl (fun w hc=>hc.cell (hs.rd1 rfl)) hC fun a ha=>?_)
 refine DQ hpk ha rfl rfl (fun w=>ex_indexAddr ha Tryz.underlying31 Ty.t87 (by omega)) fun a ha=>?_
 refine DH hpk ha rfl rfl (fun w hc=>ex_loadN ha Tryz.underlying87 rfl Ty.t87 (hc.rd (op_rd hro hat))) hC fun a ha=>?_
 refine D1 rfl (st_alloc ha rfl hs Ty.t87 rfl fun b3 a w ha hs ho=>?_)
 (try replace hC:=hC.trans ho); clear ho
 refine ⟨fun _=>hC,?_⟩
 refine D1 rfl (st_storeAll ha rfl hs Ty.t87 (opR_one o) (by rfl) fun a w ha hs=>?_)
 refine ⟨fun h=>absurd h (by decide),?_⟩
 refine DD ?_
 rw [← hade] at hs
 replace ha:=ha.keep [0,3]
 refine TN<|WS<|WR ?_
 iterate 3 (refine S1 ha fun a ha=>?_)
 refine SL ha (hs.rd1 rfl) fun a ha=>?_
 refine SK (st_set ha rfl (ex_addI ha (by omega) (by omega)) rfl fun a ha=>?_)
 iterate 2 (refine S1 ha fun a ha=>?_)
 refine SK (st_store ha rfl hs Ty.t3 rfl (by simp [runC]) fun a w ha hs=>?_)
 rw [show ((at' : Int)+1)=((at'+1 : Nat) : Int) from rfl] at hs
 change St W w (blk br 224 (runC p adO cO t ad fr adP b.length cP (at'+1))::_) at hs
 refine LN<|TN<|WS<|WS<|WR ?_
 refine S1 ha fun a ha=>?_
 refine SL ha (hs.rd1 rfl) fun a ha=>?_
 refine LN<|TN<|wp_block<|WS<|WR ?_
 iterate 2 (refine S1 ha fun a ha=>?_)
 refine LN<|TN ?_
 refine WI ha (fun hc0=>?_) (fun hc0=>?_)
 ·
  refine WS<|WR ?_
  refine S1d ha fun a ha=>?_
  refine LN<|TN<|wp_ret<|BR<|TR ?_
  refine ret1 ha rfl ?_
  exact ⟨g,at'+1,bad,false,rfl,fun h=>⟨h,by rw [oneI,if_pos hc0]⟩,by omega,hs.sub⟩
 ·
  refine WS<|WR ?_
  iterate 2 (refine S1 ha fun a ha=>?_)
  refine LN<|TN ?_
  refine WI ha (fun hc1=>?_) (fun hc1=>?_)
  ·
   obtain ⟨an,han,hanl⟩:=ha9 hc1
   refine WR ?_
   iterate 2 (refine S1 ha fun a ha=>?_)
   refine SL ha (hs.rd1 rfl) fun a ha=>?_
   iterate 2 (refine S1 ha fun a ha=>?_)
   refine SK (st_store ha rfl hs Ty.t3 rfl (by simp [runC]) fun a w ha hs=>?_)
   rw [han] at hs
   change St W w (blk br 224 (runC p adO cO t ad fr adP b.length cP an)::_) at hs
   refine LN<|BN<|TN<|WS<|WR ?_
   refine S1d ha fun a ha=>?_
   refine LN<|TN<|wp_ret ?_
   refine ret1 ha rfl ?_
   exact ⟨g,an,bad,true,rfl,fun h=>⟨h,by rw [oneI,if_neg hc0,if_pos hc1,han]; rfl⟩,by omega,hs.sub⟩
  ·
   refine WS<|WR ?_
   iterate 2 (refine S1 ha fun a ha=>?_)
   refine LN<|TN ?_
   refine WI ha (fun hc2=>?_) (fun hc2=>?_)
   ·
    refine WS ?_
    obtain ⟨an,han,hanl⟩:=hac hc1 hc0
    obtain ⟨bn,hbn,hbnl⟩:=hb10 hc2
    refine DW (m:=8) (Old w.drew) [5] [0,1,2,4,3,5,6,7] Ty.mixed (pk_then (pk_blk (pk_then pk_body))) (fun hpk=>?_)
    replace hs:=hs.drew
    have hC:=Old.refl w.drew
    generalize w.drew=w at hs hC hpk ⊢
    iterate 4 (refine DP hpk ha rfl fun a ha=>?_)
    refine DL hpk ha rfl (fun w hc=>hc.cell (hs.rd1 rfl)) hC fun a ha=>?_
    refine D1 rfl (st_set ha rfl (ex_load1 ha Tryz.underlying3 rfl (hs.rd1 rfl)) rfl fun a ha=>?_)
    refine ⟨fun _=>hC,?_⟩
    rw [han] at ha
    refine D1 rfl (st_callI ha rfl M.mG M.cG rfl (M.get _ _ g bad an hanl (hs.pick (J g bad))) (by rfl) ?_); clear ha hs
    rintro e w ⟨rfl,hs⟩
    refine ⟨_,rfl,?_⟩
    intro a ha
    refine ⟨fun h=>absurd h (by decide),?_⟩
    refine DP hpk ha rfl fun a ha=>?_
    refine DD<|TN ?_
    refine WI ha (fun hc3=>?_) (fun hc3=>?_)
    ·
     refine WR ?_
     iterate 2 (refine S1 ha fun a ha=>?_)
     refine SL ha (hs.rd1 rfl) fun a ha=>?_
     iterate 2 (refine S1 ha fun a ha=>?_)
     refine SK (st_store ha rfl hs Ty.t3 rfl (by simp [runC]) fun a w ha hs=>?_)
     rw [hbn] at hs
     change St W w (blk br 224 (runC p adO cO t ad fr adP b.length cP bn)::_) at hs
     refine LN<|BN<|TN<|WS<|WR ?_
     refine S1d ha fun a ha=>?_
     refine LN<|TN<|wp_ret ?_
     refine ret1 ha rfl ?_
     exact ⟨g,bn,bad,true,rfl,fun h=>⟨h,by rw [oneI,if_neg hc0,if_neg hc1,if_pos hc2,han,hbn,Int.toNat_natCast,if_pos hc3]; rfl⟩,by omega,hs.sub⟩
    ·
     refine WK<|BN<|TN<|WS<|WR ?_
     refine S1d ha fun a ha=>?_
     refine LN<|TN<|wp_ret ?_
     refine ret1 ha rfl ?_
     exact ⟨g,at'+1,bad,true,rfl,fun h=>⟨h,by rw [oneI,if_neg hc0,if_neg hc1,if_pos hc2,han,Int.toNat_natCast,if_neg hc3]⟩,by omega,hs.sub⟩
   ·
    refine WS<|WR ?_
    iterate 2 (refine S1 ha fun a ha=>?_)
    refine LN<|TN ?_
    refine WI ha (fun hc4=>?_) (fun hc4=>?_)
    ·
     refine WS ?_
     obtain ⟨an,han,hanl⟩:=hac hc1 hc0
     obtain ⟨bn,hbn,hbnl⟩:=hb13 hc4
     refine DW (m:=9) (Old w.drew) [5] [0,1,2,4,3,5,6,7,8] Ty.mixed (pk_then (pk_blk (pk_then pk_body))) (fun hpk=>?_)
     replace hs:=hs.drew
     have hC:=Old.refl w.drew
     generalize w.drew=w at hs hC hpk ⊢
     iterate 4 (refine DP hpk ha rfl fun a ha=>?_)
     refine DL hpk ha rfl (fun w hc=>hc.cell (hs.rd1 rfl)) hC fun a ha=>?_
     refine D1 rfl (st_set ha rfl (ex_load1 ha Tryz.underlying3 rfl (hs.rd1 rfl)) rfl fun a ha=>?_)
     refine ⟨fun _=>hC,?_⟩
     rw [han] at ha
     refine D1 rfl (st_callI ha rfl M.mG M.cG rfl (M.get _ _ g bad an hanl (hs.pick (J g bad))) (by rfl) ?_); clear ha hs
     rintro e w ⟨rfl,hs⟩
     refine ⟨_,rfl,?_⟩
     intro a ha
     refine ⟨fun h=>absurd h (by decide),?_⟩
     refine D1 rfl (st_call ha rfl Ty.c166 rfl (wmod_spec hs (hg an hanl)) ?_); clear ha hs
     rintro e w ⟨rfl,hs⟩
     refine ⟨_,rfl,?_⟩
     intro a ha
     refine ⟨fun h=>absurd h (by decide),?_⟩
     refine DP hpk ha rfl fun a ha=>?_
     refine DD<|TN ?_
     have hrr : Rd w.drew br 0 (runC p adO cO t ad fr adP b.length cP (at'+1)):=hs.drew.rdAll
     have hr3 : Rd w.drew b3 0 (opR o):=hs.drew.rdAll
     refine DW (m:=15) (fun w'=>Rd w' br 0 (runC p adO cO t ad fr adP b.length cP (at'+1))∧Rd w' b3 0 (opR o)) [8,10,11] [0,1,2,4,5,6,7,9,3,12,13,8,10,11,14] Ty.mixed (pk_blk (pk_then pk_body)) (fun hpk=>?_)
     replace hs:=hs.drew
     generalize w.drew=w at hs hpk hrr hr3 ⊢
     have hC:=And.intro hrr hr3
     iterate 8 (refine DP hpk ha rfl fun a ha=>?_)
     refine DL hpk ha rfl (fun w hc=>hc.1 2 _ rfl) hC fun a ha=>?_
     iterate 2 (refine DP hpk ha rfl fun a ha=>?_)
     refine DL hpk ha rfl (fun w hc=>hc.1 2 _ rfl) hC fun a ha=>?_
     refine D1 rfl (st_set ha rfl (ex_load1 ha Tryz.underlying3 rfl (hC.2 2 _ rfl)) rfl fun a ha=>?_)
     refine ⟨fun _=>hC,?_⟩
     rw [hbn] at ha
     refine D1 rfl (st_callI ha rfl M.mG M.cG rfl (M.get _ _ g bad bn hbnl (hs.pick (J g bad))) (by rfl) ?_); clear ha hs
     rintro e w ⟨rfl,hs⟩
     refine ⟨_,rfl,?_⟩
     intro a ha
     replace hC : (fun w'=>Rd w' br 0 (runC p adO cO t ad fr adP b.length cP (at'+1))∧Rd w' b3 0 (opR o)) w:=And.intro hs.rdAll hs.rdAll
     refine ⟨fun _=>hC,?_⟩
     refine D1 rfl (st_callI ha rfl M.mS M.cS rfl (M.set _ _ g bad (mod32 (g an)) (g bn) (mod32_lt _) (hg bn hbnl) (hs.pick (J g bad))) (by rfl) ?_); clear ha hs
     rintro e w ⟨g',bad',rfl,hset,hs⟩
     refine ⟨_,rfl,?_⟩
     intro a ha
     refine ⟨fun h=>absurd h (by decide),?_⟩
     refine DD<|BN<|TN<|WS<|WR ?_
     refine S1d ha fun a ha=>?_
     refine LN<|TN<|wp_ret ?_
     refine ret1 ha rfl ?_
     refine ⟨g',at'+1,bad',true,rfl,fun h=>?_,by omega,hs.sub⟩
     obtain ⟨_,h1,h2⟩:=hset.resolve_left (fun h3=>by rw [h] at h3; cases h3.1)
     exact ⟨h1,by rw [oneI,if_neg hc0,if_neg hc1,if_neg hc2,if_pos hc4,han,hbn,Int.toNat_natCast,Int.toNat_natCast,h2]⟩
    ·
     obtain ⟨an,han,hanl⟩:=hac hc1 hc0
     have hrr : Rd w.drew br 0 (runC p adO cO t ad fr adP b.length cP (at'+1)):=hs.drew.rdAll
     have hr3 : Rd w.drew b3 0 (opR o):=hs.drew.rdAll
     refine DW (m:=12) (fun w'=>Rd w' br 0 (runC p adO cO t ad fr adP b.length cP (at'+1))∧Rd w' b3 0 (opR o)) [5,7,8] [0,1,2,4,6,3,9,10,5,7,8,11] Ty.mixed (pk_blk (pk_then pk_body)) (fun hpk=>?_)
     replace hs:=hs.drew
     generalize w.drew=w at hs hpk hrr hr3 ⊢
     have hC:=And.intro hrr hr3
     iterate 5 (refine DP hpk ha rfl fun a ha=>?_)
     refine DL hpk ha rfl (fun w hc=>hc.1 2 _ rfl) hC fun a ha=>?_
     iterate 2 (refine DP hpk ha rfl fun a ha=>?_)
     refine DL hpk ha rfl (fun w hc=>hc.2 1 _ rfl) hC fun a ha=>?_
     rw [han] at ha
     refine D1 rfl (st_set ha rfl (ex_loadN ha Tryz.underlying87 rfl Ty.t87 (hC.2)) rfl fun a ha=>?_)
     refine ⟨fun _=>hC,?_⟩
     refine D1 rfl (st_call ha rfl Ty.c167 rfl (value_spec (M:=M) (L:=blk b3 87 (opR o)::RoP W p adO cO::L) (hs.sub (M:=blk br 224 (runC p adO cO t ad fr adP b.length cP (at'+1))::J g bad::blk b3 87 (opR o)::RoP W p adO cO::L)) ho hc0 hc1 hc2 hc4 hsz hb (fun w' h=>hp w' h.sub)) ?_); clear ha hs
     rintro e w ⟨rfl,hs⟩
     refine ⟨_,rfl,?_⟩
     intro a ha
     replace hC : (fun w'=>Rd w' br 0 (runC p adO cO t ad fr adP b.length cP (at'+1))∧Rd w' b3 0 (opR o)) w:=And.intro hs.rdAll hs.rdAll
     refine ⟨fun _=>hC,?_⟩
     refine D1 rfl (st_callI ha rfl M.mS M.cS rfl (M.set _ _ g bad an (valI p fr b g o) hanl (value_ok hg ho hc1 hc2) (hs.pick (J g bad))) (by rfl) ?_); clear ha hs
     rintro e w ⟨g',bad',rfl,hset,hs⟩
     refine ⟨_,rfl,?_⟩
     intro a ha
     refine ⟨fun h=>absurd h (by decide),?_⟩
     refine DD<|BN<|TN<|WS<|WR ?_
     refine S1d ha fun a ha=>?_
     refine LN<|TN<|wp_ret ?_
     refine ret1 ha rfl ?_
     refine ⟨g',at'+1,bad',true,rfl,fun h=>?_,by omega,hs.sub⟩
     obtain ⟨_,h1,h2⟩:=hset.resolve_left (fun h3=>by rw [h] at h3; cases h3.1)
     exact ⟨h1,by rw [oneI,if_neg hc0,if_neg hc1,if_neg hc2,if_neg hc4,han,Int.toNat_natCast,h2]⟩
theorem runI_step {n : Nat} (h : p.ops[at']?=some o) : runI p fr b (n+1) g at'=if (oneI p fr b g at' o).2.2 then runI p fr b n (oneI p fr b g at' o).1 (oneI p fr b g at' o).2.1 else (oneI p fr b g at' o).1:=by
 rw [runI]; simp only [h]
theorem runI_end {n : Nat} (h : p.ops.length≤at') : runI p fr b n g at'=g:=by
 cases n with
 | zero=>rfl
 | succ n=>rw [runI]; simp only [List.getElem?_eq_none h]
set_option maxHeartbeats 4000000 in
theorem run_spec {M : MemS W t ad fg fs J} (hs : St W w (J g bad::RoP W p adO cO::L)) (hpr : prOk p) (hsz : p.title.size≤1000000000) (hb : b.length≤1099511627776) (hp : ∀ w',St W w' L→RdB w' adP b.length b) :
   Calls Tryz.prog 126 #[.agg (prV p adO cO).toArray,.iface t (.pointer (some ad)),.int .i64 fr,.slice adP b.length cP] w fun e w'=>∃ (g' : Nat→Int) (bad' : Bool) (n : Int),e=.returned (.int .i64 n)∧(bad'=false→bad=false∧g'=frameI p fr b g) ∧
     St W w' (J g' bad'::RoP W p adO cO::L):=by
 have hol : p.ops.length≤64:=hpr.1.2.2.1
 refine calls_enter Tryz.func126 rfl Tryz.ntmps126 (Nat.le_of_ble_eq_true rfl) ?_
 intro a ha
 replace ha : Fr a 42 [(0,_),(1,_),(2,_),(3,_)]:=ha
 refine WS<|WR ?_
 refine SK (st_box ha rfl hs rfl fun b4 a w ha hs ho=>?_)
 clear ho
 change St W w (blk b4 33 (prV p adO cO)::_) at hs
 refine S1 ha fun a ha=>?_
 refine LN<|TN<|WS<|WS<|WR ?_
 refine S1 ha fun a ha=>?_
 refine SK (st_set ha rfl (ex_eqnilI ha Tryz.underlying221) rfl fun a ha=>?_)
 refine S1 ha fun a ha=>?_
 refine SK (st_set ha (wgT ha rfl (s:=13)) (ex_loadN ha Tryz.underlying33 rfl Ty.t33 (hs.rdAll)) rfl fun a ha=>?_)
 refine SK (st_call ha (wgT ha rfl (s:=13)) Ty.c37 rfl (checkMay_spec (hs.pick (RoP W p adO cO)) hsz (by omega)) ?_); clear ha hs
 rintro e w ⟨r,rfl,hr,hs⟩
 refine ⟨_,rfl,?_⟩
 intro a ha
 rw [hr.2 hpr] at ha
 refine S1g (s:=13) ha fun a ha=>?_
 rw [show (!true)=false from rfl] at ha
 refine PF ha fun a ha=>?_
 refine LN<|TN<|WFa ha<|WK<|TN<|WS<|WR ?_
 refine SK (st_set ha rfl (ex_loadN ha Tryz.underlying33 rfl Ty.t33 (hs.rdAll)) rfl fun a ha=>?_)
 change Fr a 42 ((18,.agg (List.toArray [.string p.title,.slice adO p.ops.length cO]))::_) at ha
 iterate 3 (refine S1 ha fun a ha=>?_)
 refine SK (st_set ha rfl (ex_build ha Ty.b224 Ty.t224 rfl) rfl fun a ha=>?_)
 refine SK (st_box ha rfl hs rfl fun b23 a w ha hs ho=>?_)
 clear ho
 change St W w (blk b23 224 (runC p adO cO t ad fr adP b.length cP 0)::_) at hs
 refine S1 ha fun a ha=>?_
 refine LN<|TN<|WS<|WR ?_
 refine S1 ha fun a ha=>?_
 refine LN<|TN<|WS<|wp_block ?_
 refine wp_loop_ghost (fun μ a w=>∃ (n at' : Nat) (g' : Nat→Int) (bad' : Bool),(μ=200 - n∧n≤200∧at'≤p.ops.length∧(bad'=false→bad=false∧runI p fr b (200 - n) g' at'=frameI p fr b g))∧Fr a 42 [(4,.pointer (some ⟨b4,0,none⟩)),(9,.pointer (some ⟨b23,0,none⟩)),(10,.int .i64 n)]∧St W w (blk b23 224 (runC p adO cO t ad fr adP b.length cP at')::blk b4 33 (prV p adO cO)::J g' bad'::RoP W p adO cO::L)) (200) ?_ ?_
 · exact ⟨0,0,g,bad,⟨by simp,by simp,by simp,fun h=>⟨h,rfl⟩⟩,ha.keep [4,9,10],hs.sub⟩
 ·
  clear ha hs
  rintro μ a w ⟨n,at',g',bad',⟨rfl,hn,hat,hgb⟩,ha,hs⟩
  refine WS<|WS ?_
  refine DW (m:=12) (Old w.drew) [8,9] [0,1,2,3,4,5,7,6,8,9,10,11] Ty.mixed (pk_then (pk_then (pk_then (pk_blk (pk_then pk_body))))) (fun hpk=>?_)
  replace hs:=hs.drew
  have hC:=Old.refl w.drew
  generalize w.drew=w at hs hC hpk ⊢
  iterate 3 (refine DP hpk ha rfl fun a ha=>?_)
  refine ha.by (s:=26) (fun hg2 ha=>?_) (fun hg2 ha=>?_)
  ·
   iterate 4 (refine DPg (s:=26) hpk ha rfl fun a ha=>?_)
   refine DH hpk ha rfl (wgT ha rfl (s:=26)) (fun w hc=>ex_load1 ha Tryz.underlying3 rfl (hc.cell (hs.rd1 rfl))) hC fun a ha=>?_
   refine D1 rfl (st_set ha (wgT ha rfl (s:=26)) (ex_load1 ha Tryz.underlying31 rfl (hs.rd1 rfl)) rfl fun a ha=>?_)
   refine ⟨fun _=>hC,?_⟩
   refine D1 rfl (st_set ha (wgT ha rfl (s:=26)) (ex_len ha Tryz.underlying31) rfl fun a ha=>?_)
   refine ⟨fun _=>hC,?_⟩
   refine DPg (s:=26) hpk ha rfl fun a ha=>?_
   refine DT hpk ha rfl fun a ha=>?_
   refine DD<|TN ?_
   refine WI ha (fun hc1=>?_) (fun hc1=>?_)
   ·
    obtain ⟨o,ho⟩ : ∃ o,p.ops[at']?=some o:=⟨_,List.getElem?_eq_getElem (by omega)⟩
    have hst:=runI_step (p:=p) (fr:=fr) (b:=b) (g:=g') (n:=200 - (n+1)) ho
    rw [show 200 - (n+1)+1=200 - n from by omega] at hst
    refine WK<|TN<|wp_block<|WS<|WR ?_
    refine S1 ha fun a ha=>?_
    refine SK (st_set ha rfl (ex_addI ha (by omega) (by omega)) rfl fun a ha=>?_)
    refine S1d ha fun a ha=>?_
    refine LN<|TN<|WS<|WR ?_
    refine S1 ha fun a ha=>?_
    refine SK (st_call ha rfl Ty.c151 rfl (one_spec (M:=M) (L:=blk b4 33 (prV p adO cO)::L) (hs.sub (M:=blk b23 224 (runC p adO cO t ad fr adP b.length cP at')::J g' bad'::RoP W p adO cO::blk b4 33 (prV p adO cO)::L)) hpr.2 ho hsz (by omega) hb (fun w' h=>hp w' h.tail)) ?_); clear ha hs
    rintro e w ⟨g2,at2,bad2,r2,rfl,hone,hat2,hs⟩
    refine ⟨_,rfl,?_⟩
    intro a ha
    refine S1 ha fun a ha=>?_
    refine LN<|TN ?_
    refine WI ha (fun hc2=>?_) (fun hc2=>?_)
    ·
     have hrf : r2=false:=by simpa using hc2
     have hgb2 : bad2=false→bad=false∧g2=frameI p fr b g:=fun h=>by
       obtain ⟨h1,h2⟩:=hone h
       obtain ⟨h3,h4⟩:=hgb h1
       refine ⟨h3,?_⟩
       rw [hst,h2,hrf] at h4
       exact h4
     refine wp_exit<|blk_ne rfl<|TE<|blk_e<|TN<|WS<|WR ?_
     iterate 2 (refine S1 ha fun a ha=>?_)
     refine LN<|TN<|wp_ret ?_
     refine ret1 ha rfl ?_
     exact ⟨g2,bad2,_,rfl,hgb2,hs.sub⟩
    ·
     have hrt : r2=true:=by simpa using hc2
     refine WK<|BN<|TN ?_
     refine ⟨200 - (n+1),by omega,n+1,at2,g2,bad2,⟨rfl,by omega,hat2,fun h=>?_⟩,ha.keep [4,9,10],hs.sub⟩
     obtain ⟨h1,h2⟩:=hone h
     obtain ⟨h3,h4⟩:=hgb h1
     refine ⟨h3,?_⟩
     rw [hst,h2,hrt] at h4
     exact h4
   ·
    refine wp_exit<|TE<|TE<|blk_e<|TN<|WS<|WR ?_
    iterate 2 (refine S1 ha fun a ha=>?_)
    refine LN<|TN<|wp_ret ?_
    refine ret1 ha rfl ?_
    refine ⟨g',bad',_,rfl,fun h=>?_,hs.sub⟩
    obtain ⟨h3,h4⟩:=hgb h
    rw [runI_end (by omega)] at h4
    exact ⟨h3,h4⟩
  ·
   have hn2 : n=200:=by omega
   iterate 4 (refine DO (s:=26) hpk ha rfl fun a ha=>?_)
   iterate 3 (refine DOH (s:=26) hpk ha rfl hC fun a ha=>?_)
   refine DO (s:=26) hpk ha rfl fun a ha=>?_
   refine DF hpk ha rfl fun a ha=>?_
   refine DD<|TN<|WFa ha<|wp_exit<|TE<|TE<|blk_e<|TN<|WS<|WR ?_
   iterate 2 (refine S1 ha fun a ha=>?_)
   refine LN<|TN<|wp_ret ?_
   refine ret1 ha rfl ?_
   refine ⟨g',bad',_,rfl,fun h=>?_,hs.sub⟩
   obtain ⟨h3,h4⟩:=hgb h
   rw [hn2] at h4
   exact ⟨h3,h4⟩
end
end Go.Proofs.YtagpkhbkdbaigaaGreat
