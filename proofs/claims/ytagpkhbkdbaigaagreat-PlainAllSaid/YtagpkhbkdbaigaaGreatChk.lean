/- What may run: runes, check, code, asm.Takes. -/
import Derived.Test.YtagpkhbkdbaigaaGreatNum
namespace Go.Proofs.YtagpkhbkdbaigaaGreat
open Go.RowKit
set_option linter.unusedVariables false
set_option linter.unusedSimpArgs false
set_option maxRecDepth 10000
set_option synthInstance.maxSize 4000
set_option synthInstance.maxHeartbeats 400000
section
variable {W w : World} {L L' R : List SP} {n c : Nat} {ad : Option Addr} {s : ByteArray}
theorem wide_spec {r : Nat} (hs : St W w L) : Calls Tryz.prog 170 #[.int .i32 r] w fun e w'=>e=.returned (.int .i64 (wideN r))∧St W w' L:=by
 refine calls_enter Tryz.func170 rfl Tryz.ntmps170 (Nat.le_of_ble_eq_true rfl) ?_
 intro a ha
 replace ha : Fr a 12 [(0,_)]:=ha
 refine WS<|WR ?_
 refine S1 ha fun a ha=>?_
 refine LN<|TN<|WS<|wp_block<|WS<|WR ?_
 iterate 3 (refine S1 ha fun a ha=>?_)
 refine LN<|TN ?_
 refine WI ha (fun hc0=>?_) (fun hc0=>?_)
 ·
  refine WS<|WR ?_
  refine S1d ha fun a ha=>?_
  refine LN<|TN<|wp_ret<|BR<|TR ?_
  refine ret1 ha rfl ?_
  exact ⟨by rw [wideN,if_pos (by omega)]; rfl,hs⟩
 ·
  refine WS<|WR ?_
  iterate 3 (refine S1 ha fun a ha=>?_)
  refine LN<|TN ?_
  refine WI ha (fun hc1=>?_) (fun hc1=>?_)
  ·
   refine WS<|WR ?_
   refine S1d ha fun a ha=>?_
   refine LN<|TN<|wp_ret<|BR<|TR ?_
   refine ret1 ha rfl ?_
   exact ⟨by rw [wideN,if_neg (by omega),if_pos (by omega)]; rfl,hs⟩
  ·
   refine WS<|WR ?_
   iterate 3 (refine S1 ha fun a ha=>?_)
   refine LN<|TN ?_
   refine WI ha (fun hc2=>?_) (fun hc2=>?_)
   ·
    refine WS<|WR ?_
    refine S1d ha fun a ha=>?_
    refine LN<|TN<|wp_ret<|BR<|TR ?_
    refine ret1 ha rfl ?_
    exact ⟨by rw [wideN,if_neg (by omega),if_neg (by omega),if_pos (by omega)]; rfl,hs⟩
   ·
    refine WK<|BN<|TN<|WS<|WR ?_
    refine S1d ha fun a ha=>?_
    refine LN<|TN<|wp_ret ?_
    refine ret1 ha rfl ?_
    exact ⟨by rw [wideN,if_neg (by omega),if_neg (by omega),if_neg (by omega)]; rfl,hs⟩
theorem all_snoc {α : Type} (l : List α) (x : α) (f : α→Bool) : (l++[x]).all f=(l.all f && f x):=by simp
theorem valid_spec (hs : St W w L) (hsz : s.size≤1099511627776) : Calls Tryz.prog 165 #[.string s] w fun e w'=>e=.returned (.bool ((runesAt s 0).all goodB))∧St W w' L:=by
 refine calls_enter Tryz.func165 rfl Tryz.ntmps165 (Nat.le_of_ble_eq_true rfl) ?_
 intro a ha
 replace ha : Fr a 23 [(0,_)]:=ha
 refine WS<|WR ?_
 refine S1 ha fun a ha=>?_
 refine LN<|TN<|WS<|WR ?_
 refine S1 ha fun a ha=>?_
 refine LN<|TN<|WS<|WS<|WR ?_
 refine S1 ha fun a ha=>?_
 refine SK (st_range ha rfl hs Tryz.underlying9 rfl fun b7 a w ha hs ho=>?_)
 clear ho
 refine LN<|TN<|wp_block ?_
 refine wp_loop_ghost (fun μ a w=>∃ (pos n : Nat) (dn : List (Nat × Nat)),(μ=s.size - pos∧pos≤s.size∧runesAt s 0=dn++runesAt s pos∧((dn.all goodB=true∧n=pos)∨(dn.all goodB=false∧n=pos+2)))∧Fr a 23 [(0,.string s),(3,.int .i64 n),(7,.pointer (some ⟨b7,0,none⟩))]∧St W w (pts b7 (.stringIter s pos)::L)) (s.size) ?_ ?_
 · exact ⟨0,0,[],⟨by simp,by simp,by simp,.inl ⟨rfl,rfl⟩⟩,ha.keep [0,3,7],hs⟩
 ·
  clear ha hs
  rintro μ a w ⟨pos,n,dn,⟨rfl,hpos,hdn,hg⟩,ha,hs⟩
  refine WS<|WR ?_
  refine SK (st_next ha rfl hs rfl fun a w ha hs=>?_)
  refine SK (st_set ha rfl (ex_extract ha (nx0 s pos)) rfl fun a ha=>?_)
  refine LN<|TN<|WS ?_
  refine WI ha (fun hc0=>?_) (fun hc0=>?_)
  ·
   have hra:=runesAt_in hc0
   have hal:=adv_le hpos
   have had : adv s pos=pos+(Utf8.decode s pos).2:=by rw [adv,if_pos hc0]
   have hwp:=decode_pos s pos
   refine WK<|TN<|wp_block<|WS<|WR ?_
   refine SK (st_set ha rfl (ex_extract ha (nx1 hc0)) rfl fun a ha=>?_)
   refine SK (st_set ha rfl (ex_extract ha (nx2 hc0)) rfl fun a ha=>?_)
   iterate 2 (refine S1 ha fun a ha=>?_)
   refine LN<|TN<|WS<|WS<|WR ?_
   iterate 3 (refine S1 ha fun a ha=>?_)
   refine LN<|TN ?_
   refine WI ha (fun hc1=>?_) (fun hc1=>?_)
   ·
    have hgf : dn.all goodB=false:=by
      rcases hg with ⟨_,h⟩ | ⟨h,_⟩
      · omega
      · exact h
    refine WS<|WR ?_
    refine S1 ha fun a ha=>?_
    refine LN<|TN<|wp_ret<|TR<|BR<|TR<|BR<|TR ?_
    refine ret1 ha rfl ?_
    exact ⟨by rw [hdn,List.all_append,hgf,Bool.false_and],hs.sub⟩
   ·
    obtain ⟨hgt,hn⟩:=hg.resolve_right (fun h=>by omega)
    have hw4 : wideN (Utf8.decode s pos).1≤4:=by unfold wideN; (repeat' split) <;> omega
    refine WK<|TN<|WR ?_
    iterate 2 (refine S1 ha fun a ha=>?_)
    refine SK (st_call ha rfl Ty.c170 rfl (wide_spec hs) ?_); clear ha hs
    rintro e w ⟨rfl,hs⟩
    refine ⟨_,rfl,?_⟩
    intro a ha
    refine SK (st_set ha rfl (ex_addI ha (by omega) (by omega)) rfl fun a ha=>?_)
    refine S1d ha fun a ha=>?_
    refine LN<|BN<|TN ?_
    refine ⟨s.size - adv s pos,by omega,adv s pos,n+wideN (Utf8.decode s pos).1,dn++[Utf8.decode s pos],⟨rfl,hal,by rw [hdn,hra,List.append_assoc]; rfl,?_⟩,ha.keep [0,3,7],hs.sub⟩
    rw [all_snoc,hgt,Bool.true_and]
    rcases decode_wide s pos with h | h
    · refine .inl ⟨?_,by omega⟩
      simp only [goodB,Bool.not_eq_true',decide_eq_false_iff_not]
      intro e
      rw [e] at h; simp [wideN] at h
    · refine .inr ⟨by simp [goodB,h],?_⟩
      rw [had,h]; simp [wideN]; omega
  ·
   refine wp_exit<|TE<|TE<|blk_e<|TN<|WS ?_
   have hps : pos=s.size:=by omega
   have hro:=runesAt_out (s:=s) (pos:=pos) (by omega)
   rw [hro,List.append_nil] at hdn
   refine WR ?_
   iterate 2 (refine S1 ha fun a ha=>?_)
   refine SK (st_set ha rfl (ex_lenS ha Tryz.underlying9) rfl fun a ha=>?_)
   iterate 2 (refine S1 ha fun a ha=>?_)
   refine LN<|TN<|wp_ret ?_
   refine ret1 ha rfl ?_
   refine ⟨?_,hs.sub⟩
   rw [hdn]
   rcases hg with ⟨h,h2⟩ | ⟨h,h2⟩
   · rw [h,decide_eq_true (by omega)]
   · rw [h,decide_eq_false (by omega)]
theorem title_spec (hs : St W w L) (hsz : s.size≤1099511627776) : Calls Tryz.prog 145 #[.string s] w fun e w'=>e=.returned (.bool (tOk s))∧St W w' L:=by
 refine calls_enter Tryz.func145 rfl Tryz.ntmps145 (Nat.le_of_ble_eq_true rfl) ?_
 intro a ha
 replace ha : Fr a 29 [(0,_)]:=ha
 refine WS<|WR ?_
 refine S1 ha fun a ha=>?_
 refine LN<|TN<|WS<|WR ?_
 refine S1 ha fun a ha=>?_
 refine LN<|TN<|WS<|WS<|WR ?_
 refine S1 ha fun a ha=>?_
 refine SK (st_range ha rfl hs Tryz.underlying9 rfl fun b7 a w ha hs ho=>?_)
 clear ho
 refine LN<|TN<|wp_block ?_
 refine wp_loop_ghost (fun μ a w=>∃ (pos : Nat) (dn : List (Nat × Nat)),(μ=s.size - pos∧pos≤s.size∧runesAt s 0=dn++runesAt s pos∧dn.all ctlB=true∧dn.length≤pos)∧Fr a 29 [(0,.string s),(3,.int .i64 dn.length),(7,.pointer (some ⟨b7,0,none⟩))]∧St W w (pts b7 (.stringIter s pos)::L)) (s.size) ?_ ?_
 · exact ⟨0,[],⟨by simp,by simp,by simp,rfl,by simp⟩,ha.keep [0,3,7],hs⟩
 ·
  clear ha hs
  rintro μ a w ⟨pos,dn,⟨rfl,hpos,hdn,hg,hdl⟩,ha,hs⟩
  refine WS<|WR ?_
  refine SK (st_next ha rfl hs rfl fun a w ha hs=>?_)
  refine SK (st_set ha rfl (ex_extract ha (nx0 s pos)) rfl fun a ha=>?_)
  refine LN<|TN<|WS ?_
  refine WI ha (fun hc0=>?_) (fun hc0=>?_)
  ·
   have hra:=runesAt_in hc0
   have hal:=adv_le hpos
   have had : adv s pos=pos+(Utf8.decode s pos).2:=by rw [adv,if_pos hc0]
   have hwp:=decode_pos s pos
   refine WK<|TN<|wp_block<|WS<|WR ?_
   refine SK (st_set ha rfl (ex_extract ha (nx2 hc0)) rfl fun a ha=>?_)
   refine S1 ha fun a ha=>?_
   refine LN<|TN<|WS<|WS<|WR ?_
   iterate 3 (refine S1 ha fun a ha=>?_)
   refine ha.by (s:=13) (fun hg2 ha=>?_) (fun hg2 ha=>?_)
   ·
    have hbad : ctlB (Utf8.decode s pos)=false:=by simp [ctlB]; omega
    iterate 2 (refine SO (s:=13) ha fun a ha=>?_)
    refine PT ha fun a ha=>?_
    refine LN<|TN<|WTr ha<|WS<|WR ?_
    refine S1 ha fun a ha=>?_
    refine LN<|TN<|wp_ret<|TR<|BR<|TR<|BR<|TR ?_
    refine ret1 ha rfl ?_
    refine ⟨?_,hs.sub⟩
    have : (runesAt s 0).all ctlB=false:=by rw [hdn,hra,List.all_append,List.all_cons,hbad]; simp
    rw [tOk,this]; simp
   ·
    iterate 2 (refine S1g (s:=13) ha fun a ha=>?_)
    refine PF ha fun a ha=>?_
    refine LN<|TN ?_
    refine WI ha (fun hc1=>?_) (fun hc1=>?_)
    ·
     have hbad : ctlB (Utf8.decode s pos)=false:=by simp [ctlB]; omega
     refine WS<|WR ?_
     refine S1 ha fun a ha=>?_
     refine LN<|TN<|wp_ret<|TR<|BR<|TR<|BR<|TR ?_
     refine ret1 ha rfl ?_
     refine ⟨?_,hs.sub⟩
     have : (runesAt s 0).all ctlB=false:=by rw [hdn,hra,List.all_append,List.all_cons,hbad]; simp
     rw [tOk,this]; simp
    ·
     refine WK<|TN<|WR ?_
     refine S1 ha fun a ha=>?_
     refine SK (st_set ha rfl (ex_addI ha (by omega) (by omega)) rfl fun a ha=>?_)
     refine S1d ha fun a ha=>?_
     refine LN<|BN<|TN ?_
     exact ⟨s.size - adv s pos,by omega,adv s pos,dn++[Utf8.decode s pos],⟨rfl,hal,by rw [hdn,hra,List.append_assoc]; rfl,by rw [all_snoc,hg]; simp [ctlB]; omega,by rw [List.length_append]; simp; omega⟩,by rw [List.length_append]; exact ha.keep [0,3,7],hs.sub⟩
  ·
   refine wp_exit<|TE<|TE<|blk_e<|TN<|WS ?_
   have hro:=runesAt_out (s:=s) (pos:=pos) (by omega)
   rw [hro,List.append_nil] at hdn
   have htk : tOk s=(decide (1≤dn.length) && decide (dn.length≤20) && (runesAt s 0).all goodB):=by rw [tOk,hdn,hg]; simp
   refine WR ?_
   iterate 3 (refine S1 ha fun a ha=>?_)
   refine ha.by (s:=21) (fun hg2 ha=>?_) (fun hg2 ha=>?_)
   ·
    iterate 2 (refine S1g (s:=21) ha fun a ha=>?_)
    refine PT ha fun a ha=>?_
    refine S1 ha fun a ha=>?_
    refine ha.by (s:=25) (fun hg6 ha=>?_) (fun hg6 ha=>?_)
    ·
     refine S1g (s:=25) ha fun a ha=>?_
     refine SK (st_call ha (wgT ha rfl (s:=25)) Ty.c165 rfl (valid_spec hs hsz) ?_); clear ha hs
     rintro e w ⟨rfl,hs⟩
     refine ⟨_,rfl,?_⟩
     intro a ha
     refine PT ha fun a ha=>?_
     refine S1 ha fun a ha=>?_
     refine LN<|TN<|wp_ret ?_
     refine ret1 ha rfl ?_
     refine ⟨?_,hs.sub⟩
     rw [htk]
     first
       | (rw [decide_eq_false (show ¬ 1≤dn.length by omega)]; rfl)
       | (rw [decide_eq_false (show ¬ dn.length≤20 by omega)]; simp; done)
       | (rw [decide_eq_true (show 1≤dn.length by omega),decide_eq_true (show dn.length≤20 by omega)]; rfl)
    ·
     iterate 2 (refine SO (s:=25) ha fun a ha=>?_)
     refine PF ha fun a ha=>?_
     refine S1 ha fun a ha=>?_
     refine LN<|TN<|wp_ret ?_
     refine ret1 ha rfl ?_
     refine ⟨?_,hs.sub⟩
     rw [htk]
     first
       | (rw [decide_eq_false (show ¬ 1≤dn.length by omega)]; rfl)
       | (rw [decide_eq_false (show ¬ dn.length≤20 by omega)]; simp; done)
       | (rw [decide_eq_true (show 1≤dn.length by omega),decide_eq_true (show dn.length≤20 by omega)]; rfl)
   ·
    iterate 2 (refine SO (s:=21) ha fun a ha=>?_)
    refine PF ha fun a ha=>?_
    refine S1 ha fun a ha=>?_
    iterate 2 (refine SO (s:=25) ha fun a ha=>?_)
    refine PF ha fun a ha=>?_
    refine S1 ha fun a ha=>?_
    refine LN<|TN<|wp_ret ?_
    refine ret1 ha rfl ?_
    refine ⟨?_,hs.sub⟩
    rw [htk]
    first
      | (rw [decide_eq_false (show ¬ 1≤dn.length by omega)]; rfl)
      | (rw [decide_eq_false (show ¬ dn.length≤20 by omega)]; simp; done)
      | (rw [decide_eq_true (show 1≤dn.length by omega),decide_eq_true (show dn.length≤20 by omega)]; rfl)
def tkI (k : Int) : Int:=if k=0 then 0 else if k=9∨k=15 then 1 else if k=1∨k=2∨(10≤k∧k≤14) then 2 else if 3≤k∧k≤8 then 3 else -1
theorem tkI_cases (k : Int) : (k=0∧tkI k=0)∨((k=9∨k=15)∧tkI k=1)∨((k=1∨k=2∨(10≤k∧k≤14))∧tkI k=2)∨(3≤k∧k≤8∧tkI k=3)∨((k < 0∨15 < k)∧tkI k = -1):=by
 unfold tkI
 repeat' split
 all_goals omega
theorem takes_spec {k : Int} (hs : St W w L) : Calls Tryz.prog 149 #[.int .i64 k] w fun e w'=>e=.returned (.int .i64 (tkI k))∧St W w' L:=by
 have hk:=tkI_cases k
 have hfin : ∀ (z : Int) (w' : World),St W w' L→z=tkI k→Ending.returned (Value.int .i64 z)=.returned (.int .i64 (tkI k))∧St W w' L:=fun z w' h e=>⟨by rw [e],h⟩
 refine calls_enter Tryz.func149 rfl Tryz.ntmps149 (Nat.le_of_ble_eq_true rfl) ?_
 intro a ha
 replace ha : Fr a 24 [(0,_)]:=ha
 refine WS<|WR ?_
 refine S1 ha fun a ha=>?_
 refine LN<|TN<|WS<|WS<|WR ?_
 refine S1 ha fun a ha=>?_
 refine LN<|TN<|wp_block<|WS<|WR ?_
 iterate 2 (refine S1 ha fun a ha=>?_)
 refine LN<|TN ?_
 refine WI ha (fun hc0=>?_) (fun hc0=>?_)
 ·
  refine WS<|WR ?_
  refine S1d ha fun a ha=>?_
  refine LN<|TN<|wp_ret<|BR<|TR ?_
  refine ret1 ha rfl ?_
  exact hfin _ _ hs (by omega)
 ·
  refine WS<|WS<|WR ?_
  iterate 2 (refine S1 ha fun a ha=>?_)
  refine LN<|TN ?_
  refine ha.by (s:=6) (fun hc1 ha=>?_) (fun hc1 ha=>?_)
  ·
   refine WTr ha<|WK<|TN<|WTr ha<|WS<|WR ?_
   refine S1d ha fun a ha=>?_
   refine LN<|TN<|wp_ret<|BR<|TR ?_
   refine ret1 ha rfl ?_
   exact hfin _ _ hs (by omega)
  ·
   refine WFa ha<|WR ?_
   refine S1 ha fun a ha=>?_
   refine S1d ha fun a ha=>?_
   refine LN<|TN ?_
   refine ha.by (s:=6) (fun hc2 ha=>?_) (fun hc2 ha=>?_)
   ·
    refine WTr ha<|WS<|WR ?_
    refine S1d ha fun a ha=>?_
    refine LN<|TN<|wp_ret<|BR<|TR ?_
    refine ret1 ha rfl ?_
    exact hfin _ _ hs (by omega)
   ·
    refine WFa ha<|WS<|WS<|WR ?_
    iterate 2 (refine S1 ha fun a ha=>?_)
    refine LN<|TN ?_
    refine ha.by (s:=9) (fun hc3 ha=>?_) (fun hc3 ha=>?_)
    ·
     refine WTr ha<|WK<|TN<|WTr ha<|WS<|WR ?_
     refine S1d ha fun a ha=>?_
     refine LN<|TN<|wp_ret<|BR<|TR ?_
     refine ret1 ha rfl ?_
     exact hfin _ _ hs (by omega)
    ·
     refine WFa ha<|WS<|WR ?_
     refine S1 ha fun a ha=>?_
     refine S1d ha fun a ha=>?_
     refine LN<|TN ?_
     refine ha.by (s:=9) (fun hc4 ha=>?_) (fun hc4 ha=>?_)
     ·
      refine WTr ha<|WK<|TN<|WTr ha<|WS<|WR ?_
      refine S1d ha fun a ha=>?_
      refine LN<|TN<|wp_ret<|BR<|TR ?_
      refine ret1 ha rfl ?_
      exact hfin _ _ hs (by omega)
     ·
      refine WFa ha<|WS<|WR ?_
      refine S1 ha fun a ha=>?_
      refine S1d ha fun a ha=>?_
      refine LN<|TN ?_
      refine ha.by (s:=9) (fun hc5 ha=>?_) (fun hc5 ha=>?_)
      ·
       refine WTr ha<|WK<|TN<|WTr ha<|WS<|WR ?_
       refine S1d ha fun a ha=>?_
       refine LN<|TN<|wp_ret<|BR<|TR ?_
       refine ret1 ha rfl ?_
       exact hfin _ _ hs (by omega)
      ·
       refine WFa ha<|WS<|WR ?_
       refine S1 ha fun a ha=>?_
       refine S1d ha fun a ha=>?_
       refine LN<|TN ?_
       refine ha.by (s:=9) (fun hc6 ha=>?_) (fun hc6 ha=>?_)
       ·
        refine WTr ha<|WK<|TN<|WTr ha<|WS<|WR ?_
        refine S1d ha fun a ha=>?_
        refine LN<|TN<|wp_ret<|BR<|TR ?_
        refine ret1 ha rfl ?_
        exact hfin _ _ hs (by omega)
       ·
        refine WFa ha<|WS<|WR ?_
        refine S1 ha fun a ha=>?_
        refine S1d ha fun a ha=>?_
        refine LN<|TN ?_
        refine ha.by (s:=9) (fun hc7 ha=>?_) (fun hc7 ha=>?_)
        ·
         refine WTr ha<|WK<|TN<|WTr ha<|WS<|WR ?_
         refine S1d ha fun a ha=>?_
         refine LN<|TN<|wp_ret<|BR<|TR ?_
         refine ret1 ha rfl ?_
         exact hfin _ _ hs (by omega)
        ·
         refine WFa ha<|WS<|WR ?_
         refine S1 ha fun a ha=>?_
         refine S1d ha fun a ha=>?_
         refine LN<|TN ?_
         refine ha.by (s:=9) (fun hc8 ha=>?_) (fun hc8 ha=>?_)
         ·
          refine WTr ha<|WK<|TN<|WTr ha<|WS<|WR ?_
          refine S1d ha fun a ha=>?_
          refine LN<|TN<|wp_ret<|BR<|TR ?_
          refine ret1 ha rfl ?_
          exact hfin _ _ hs (by omega)
         ·
          refine WFa ha<|WR ?_
          refine S1 ha fun a ha=>?_
          refine S1d ha fun a ha=>?_
          refine LN<|TN ?_
          refine ha.by (s:=9) (fun hc9 ha=>?_) (fun hc9 ha=>?_)
          ·
           refine WTr ha<|WS<|WR ?_
           refine S1d ha fun a ha=>?_
           refine LN<|TN<|wp_ret<|BR<|TR ?_
           refine ret1 ha rfl ?_
           exact hfin _ _ hs (by omega)
          ·
           refine WFa ha<|WS<|WS<|WR ?_
           iterate 2 (refine S1 ha fun a ha=>?_)
           refine LN<|TN ?_
           refine ha.by (s:=17) (fun hc10 ha=>?_) (fun hc10 ha=>?_)
           ·
            refine WTr ha<|WK<|TN<|WTr ha<|WS<|WR ?_
            refine S1d ha fun a ha=>?_
            refine LN<|TN<|wp_ret<|BR<|TR ?_
            refine ret1 ha rfl ?_
            exact hfin _ _ hs (by omega)
           ·
            refine WFa ha<|WS<|WR ?_
            refine S1 ha fun a ha=>?_
            refine S1d ha fun a ha=>?_
            refine LN<|TN ?_
            refine ha.by (s:=17) (fun hc11 ha=>?_) (fun hc11 ha=>?_)
            ·
             refine WTr ha<|WK<|TN<|WTr ha<|WS<|WR ?_
             refine S1d ha fun a ha=>?_
             refine LN<|TN<|wp_ret<|BR<|TR ?_
             refine ret1 ha rfl ?_
             exact hfin _ _ hs (by omega)
            ·
             refine WFa ha<|WS<|WR ?_
             refine S1 ha fun a ha=>?_
             refine S1d ha fun a ha=>?_
             refine LN<|TN ?_
             refine ha.by (s:=17) (fun hc12 ha=>?_) (fun hc12 ha=>?_)
             ·
              refine WTr ha<|WK<|TN<|WTr ha<|WS<|WR ?_
              refine S1d ha fun a ha=>?_
              refine LN<|TN<|wp_ret<|BR<|TR ?_
              refine ret1 ha rfl ?_
              exact hfin _ _ hs (by omega)
             ·
              refine WFa ha<|WS<|WR ?_
              refine S1 ha fun a ha=>?_
              refine S1d ha fun a ha=>?_
              refine LN<|TN ?_
              refine ha.by (s:=17) (fun hc13 ha=>?_) (fun hc13 ha=>?_)
              ·
               refine WTr ha<|WK<|TN<|WTr ha<|WS<|WR ?_
               refine S1d ha fun a ha=>?_
               refine LN<|TN<|wp_ret<|BR<|TR ?_
               refine ret1 ha rfl ?_
               exact hfin _ _ hs (by omega)
              ·
               refine WFa ha<|WS<|WR ?_
               refine S1 ha fun a ha=>?_
               refine S1d ha fun a ha=>?_
               refine LN<|TN ?_
               refine ha.by (s:=17) (fun hc14 ha=>?_) (fun hc14 ha=>?_)
               ·
                refine WTr ha<|WK<|TN<|WTr ha<|WS<|WR ?_
                refine S1d ha fun a ha=>?_
                refine LN<|TN<|wp_ret<|BR<|TR ?_
                refine ret1 ha rfl ?_
                exact hfin _ _ hs (by omega)
               ·
                refine WFa ha<|WR ?_
                refine S1 ha fun a ha=>?_
                refine S1d ha fun a ha=>?_
                refine LN<|TN ?_
                refine ha.by (s:=17) (fun hc15 ha=>?_) (fun hc15 ha=>?_)
                ·
                 refine WTr ha<|WS<|WR ?_
                 refine S1d ha fun a ha=>?_
                 refine LN<|TN<|wp_ret<|BR<|TR ?_
                 refine ret1 ha rfl ?_
                 exact hfin _ _ hs (by omega)
                ·
                 refine WFa ha<|WK<|BN<|TN<|WS<|WR ?_
                 refine S1d ha fun a ha=>?_
                 refine LN<|TN<|wp_ret ?_
                 refine ret1 ha rfl ?_
                 exact hfin _ _ hs (by omega)
def CellsIn (l : List Int) : Prop:=∀ x∈l,cellP x
theorem cell_spec {zs : List Int} {b e : Nat} (hs : St W w (blk b e (zs.map (.int .i64))::L)) (hl : zs.length≤10) :
   Calls Tryz.prog 150 #[.slice (some ⟨b,0,none⟩) zs.length zs.length] w fun e' w'=>∃ r : Bool,e'=.returned (.bool r)∧(r=true ↔ CellsIn zs)∧St W w' (blk b e (zs.map (.int .i64))::L):=by
 refine calls_enter Tryz.func150 rfl Tryz.ntmps150 (Nat.le_of_ble_eq_true rfl) ?_
 intro a ha
 replace ha : Fr a 18 [(0,_)]:=ha
 refine WS<|WR ?_
 refine S1 ha fun a ha=>?_
 refine LN<|TN<|WS<|WS<|WR ?_
 iterate 3 (refine S1 ha fun a ha=>?_)
 refine LN<|TN<|wp_block ?_
 refine wp_loop_ghost (fun μ a w=>∃ i : Nat,(μ=zs.length - i∧i≤zs.length∧∀ j x,j < i→zs[j]?=some x→cellP x)∧Fr a 18 [(5,.slice (some ⟨b,0,none⟩) zs.length zs.length),(6,.int .i64 zs.length),(7,.int .i64 i)]∧St W w (blk b e (zs.map (.int .i64))::L)) (zs.length) ?_ ?_
 · exact ⟨0,⟨by simp,by simp,fun j x h=>absurd h (by omega)⟩,ha.keep [5,6,7],hs⟩
 ·
  clear ha hs
  rintro μ a w ⟨i,⟨rfl,hi,hin⟩,ha,hs⟩
  refine WS<|WR ?_
  refine S1 ha fun a ha=>?_
  refine LN<|TN<|WS ?_
  refine WI ha (fun hc0=>?_) (fun hc0=>?_)
  ·
   obtain ⟨x,hx⟩ : ∃ x,zs[i]?=some x:=⟨_,List.getElem?_eq_getElem (by omega)⟩
   refine WK<|TN<|WS<|wp_block<|WS<|WR ?_
   refine SK (st_set ha rfl (ex_indexAddr ha Tryz.underlying63 Ty.t3 (by omega)) rfl fun a ha=>?_)
   rw [Nat.zero_add,Nat.mul_one] at ha
   refine SL ha (hs.rd1 (v:=.int .i64 x) (by rw [List.getElem?_map,hx]; rfl)) fun a ha=>?_
   refine S1 ha fun a ha=>?_
   refine LN<|TN<|WS<|WR ?_
   iterate 3 (refine S1 ha fun a ha=>?_)
   refine ha.by (s:=13) (fun hg2 ha=>?_) (fun hg2 ha=>?_)
   ·
    iterate 2 (refine SO (s:=13) ha fun a ha=>?_)
    refine PT ha fun a ha=>?_
    refine LN<|TN<|WTr ha<|WS<|WR ?_
    refine S1 ha fun a ha=>?_
    refine LN<|TN<|wp_ret<|BR<|TR<|TR<|BR<|TR ?_
    refine ret1 ha rfl ?_
    refine ⟨false,rfl,⟨fun h=>(by cases h),fun h=>?_⟩,hs.sub⟩
    have:=h x (List.mem_of_getElem? hx)
    unfold cellP at this; omega
   ·
    iterate 2 (refine S1g (s:=13) ha fun a ha=>?_)
    refine PF ha fun a ha=>?_
    refine LN<|TN ?_
    refine WI ha (fun hc1=>?_) (fun hc1=>?_)
    ·
     refine WS<|WR ?_
     refine S1 ha fun a ha=>?_
     refine LN<|TN<|wp_ret<|BR<|TR<|TR<|BR<|TR ?_
     refine ret1 ha rfl ?_
     refine ⟨false,rfl,⟨fun h=>(by cases h),fun h=>?_⟩,hs.sub⟩
     have:=h x (List.mem_of_getElem? hx)
     unfold cellP at this; omega
    ·
     refine WK<|BN<|TN<|WR ?_
     refine SK (st_set ha rfl (ex_addI ha (by omega) (by omega)) rfl fun a ha=>?_)
     refine S1d ha fun a ha=>?_
     refine LN<|TN ?_
     refine ⟨zs.length - (i+1),by omega,i+1,⟨rfl,by omega,fun j y hj hy=>?_⟩,ha.keep [5,6,7],hs.sub⟩
     by_cases e : j=i
     · subst e
       rw [hx] at hy; cases hy
       unfold cellP; omega
     · exact hin j y (by omega) hy
  ·
   refine wp_exit<|TE<|TE<|blk_e<|TN<|WS<|WR ?_
   refine S1 ha fun a ha=>?_
   refine LN<|TN<|wp_ret ?_
   refine ret1 ha rfl ?_
   refine ⟨true,rfl,⟨fun _ x hx=>?_,fun _=>rfl⟩,hs.sub⟩
   obtain ⟨j,hj⟩:=List.mem_iff_getElem?.1 hx
   exact hin j x (by have:=(List.getElem?_eq_some_iff.1 hj).1; omega) hj
theorem to_spec {k n : Int} {b e : Nat} (hs : St W w (blk b e [.int .i64 n]::L)) :
   Calls Tryz.prog 148 #[.int .i64 k,.pointer (some ⟨b,0,none⟩)] w fun e' w'=>e'=.returned (.bool (decide (0≤k∧k≤n)))∧St W w' (blk b e [.int .i64 n]::L):=by
 refine calls_enter Tryz.func148 rfl Tryz.ntmps148 (Nat.le_of_ble_eq_true rfl) ?_
 intro a ha
 replace ha : Fr a 11 [(0,_),(1,_)]:=ha
 refine WS<|WR ?_
 refine S1 ha fun a ha=>?_
 refine LN<|TN<|WS<|WR ?_
 iterate 3 (refine S1 ha fun a ha=>?_)
 refine ha.by (s:=6) (fun hg2 ha=>?_) (fun hg2 ha=>?_)
 ·
  refine S1g (s:=6) ha fun a ha=>?_
  refine SLg (s:=6) ha (hs.rd1 rfl) fun a ha=>?_
  refine S1g (s:=6) ha fun a ha=>?_
  refine PT ha fun a ha=>?_
  refine S1d ha fun a ha=>?_
  refine LN<|TN<|wp_ret ?_
  refine ret1 ha rfl ?_
  refine ⟨?_,hs.sub⟩
  first
    | (rw [decide_eq_false (show ¬ (0≤k∧k≤n) by omega)])
    | (congr 2; rw [decide_eq_decide]; omega)
 ·
  iterate 3 (refine SO (s:=6) ha fun a ha=>?_)
  refine PF ha fun a ha=>?_
  refine S1d ha fun a ha=>?_
  refine LN<|TN<|wp_ret ?_
  refine ret1 ha rfl ?_
  refine ⟨?_,hs.sub⟩
  first
    | (rw [decide_eq_false (show ¬ (0≤k∧k≤n) by omega)])
    | (congr 2; rw [decide_eq_decide]; omega)
end
end Go.Proofs.YtagpkhbkdbaigaaGreat
