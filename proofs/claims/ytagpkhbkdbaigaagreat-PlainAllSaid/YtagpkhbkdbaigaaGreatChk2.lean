/- What may run, further. -/
import Derived.Test.YtagpkhbkdbaigaaGreatChk
namespace Go.Proofs.YtagpkhbkdbaigaaGreat
open Go.RowKit
set_option linter.unusedVariables false
set_option linter.unusedSimpArgs false
set_option maxRecDepth 10000
set_option synthInstance.maxSize 4000
set_option synthInstance.maxHeartbeats 400000
section
variable {W w : World} {L L' R : List SP} {n c : Nat} {ad : Option Addr} {s : ByteArray}
theorem okOp_0 {o : OpR} {m : Int} (h : o.code=0) : okOp m o ↔ (o.a=0∧o.b=0∧o.c=0):=by
 simp only [okOp,cellP]
 exact ⟨fun h=>by omega,fun h2=>.inl ⟨h,h2⟩⟩
theorem okOp_1 {o : OpR} {m : Int} (h : o.code=1) : okOp m o ↔ (cellP o.a∧o.c=0):=by
 simp only [okOp,cellP]
 exact ⟨fun h=>by omega,fun h2=>.inr (.inl ⟨h,h2⟩)⟩
theorem okOp_9 {o : OpR} {m : Int} (h : o.code=9) : okOp m o ↔ (0≤o.a∧o.a≤m∧o.b=0∧o.c=0):=by
 simp only [okOp,cellP]
 exact ⟨fun h=>by omega,fun h2=>.inr (.inr (.inl ⟨h,h2⟩))⟩
theorem okOp_15 {o : OpR} {m : Int} (h : o.code=15) : okOp m o ↔ (cellP o.a∧o.b=0∧o.c=0):=by
 simp only [okOp,cellP]
 exact ⟨fun h=>by omega,fun h2=>.inr (.inr (.inr (.inl ⟨h,h2⟩)))⟩
theorem okOp_10 {o : OpR} {m : Int} (h : o.code=10) : okOp m o ↔ (cellP o.a∧0≤o.b∧o.b≤m∧o.c=0):=by
 simp only [okOp,cellP]
 exact ⟨fun h=>by omega,fun h2=>.inr (.inr (.inr (.inr (.inl ⟨h,h2⟩))))⟩
theorem okOp_2 {o : OpR} {m : Int} (h : o.code=2∨(11≤o.code∧o.code≤14)) : okOp m o ↔ (cellP o.a∧cellP o.b∧o.c=0):=by
 simp only [okOp,cellP]
 exact ⟨fun h=>by omega,fun h2=>.inr (.inr (.inr (.inr (.inr (.inl ⟨h,h2⟩)))))⟩
theorem okOp_3 {o : OpR} {m : Int} (h : 3≤o.code∧o.code≤8) : okOp m o ↔ (cellP o.a∧cellP o.b∧cellP o.c):=by
 simp only [okOp,cellP]
 exact ⟨fun h=>by omega,fun h2=>.inr (.inr (.inr (.inr (.inr (.inr ⟨h.1,h.2,h2⟩)))))⟩
theorem okOp_tk {o : OpR} {m : Int} (h : okOp m o) : 0≤tkI o.code∧(tkI o.code < 3→o.c=0)∧(tkI o.code < 2→o.b=0)∧(tkI o.code < 1→o.a=0):=by
 have hk:=tkI_cases o.code
 simp only [okOp,cellP] at h
 omega
theorem may_spec {o : OpR} {m : Nat} (hs : St W w L) : Calls Tryz.prog 124 #[.agg (opR o).toArray,.int .i64 m] w fun e w'=>∃ r : Bool,e=.returned (.bool r)∧(r=true ↔ okOp m o)∧St W w' L:=by
 have hk:=tkI_cases o.code
 have hfin : ∀ (r : Bool) (P : Prop) (w' : World),St W w' L→(r=true ↔ P)→(P ↔ okOp m o)→∃ r' : Bool,Ending.returned (Value.bool r)=.returned (.bool r')∧(r'=true ↔ okOp m o)∧St W w' L:=fun r P w' h e1 e2=>⟨r,rfl,e1.trans e2,h⟩
 refine calls_enter Tryz.func124 rfl Tryz.ntmps124 (Nat.le_of_ble_eq_true rfl) ?_
 intro a ha
 replace ha : Fr a 76 [(0,_),(1,_)]:=ha
 refine WS<|WR ?_
 refine SK (st_box ha rfl hs rfl fun b2 a w ha hs ho=>?_)
 clear ho
 change St W w (blk b2 87 (opR o)::_) at hs
 refine SK (st_box ha rfl hs rfl fun b3 a w ha hs ho=>?_)
 clear ho
 refine S1 ha fun a ha=>?_
 refine LN<|TN<|WS<|WR ?_
 refine SK (st_set ha rfl (ex_makeFunc ha) rfl fun a ha=>?_)
 refine S1 ha fun a ha=>?_
 refine LN<|TN<|WS<|WR ?_
 refine S1 ha fun a ha=>?_
 refine SL ha (hs.rd1 rfl) fun a ha=>?_
 refine SK (st_call ha rfl Ty.c149 rfl (takes_spec hs) ?_); clear ha hs
 rintro e w ⟨rfl,hs⟩
 refine ⟨_,rfl,?_⟩
 intro a ha
 refine S1 ha fun a ha=>?_
 refine LN<|TN ?_
 refine wp_seq_cut (M:=fun a w=>(0≤tkI o.code∧(tkI o.code < 3→o.c=0)∧(tkI o.code < 2→o.b=0)∧(tkI o.code < 1→o.a=0))∧Fr a 76 [(2,.pointer (some ⟨b2,0,none⟩)),(3,.pointer (some ⟨b3,0,none⟩)),(5,.func (.func 148) #[] (List.toArray [.pointer (some ⟨b3,0,none⟩)]))]∧St W w (blk b3 3 [.int .i64 m]::blk b2 87 (opR o)::L)) ?_ ?_
 ·
  refine WS<|WR ?_
  iterate 3 (refine S1 ha fun a ha=>?_)
  refine ha.by (s:=13) (fun hg2 ha=>?_) (fun hg2 ha=>?_)
  ·
   iterate 2 (refine SO (s:=13) ha fun a ha=>?_)
   refine SK (st_offU ha (wgF ha rfl (s:=13) rfl) rfl fun a ha=>?_)
   iterate 3 (refine SK (st_off ha (wgU ha rfl (s:=16)) rfl fun a ha=>?_))
   refine SO (s:=13) ha fun a ha=>?_
   refine PT ha fun a ha=>?_
   refine S1 ha fun a ha=>?_
   iterate 2 (refine SO (s:=22) ha fun a ha=>?_)
   refine SK (st_offU ha (wgF ha rfl (s:=22) rfl) rfl fun a ha=>?_)
   iterate 3 (refine SK (st_off ha (wgU ha rfl (s:=25)) rfl fun a ha=>?_))
   refine SO (s:=22) ha fun a ha=>?_
   refine PT ha fun a ha=>?_
   refine S1 ha fun a ha=>?_
   iterate 2 (refine SO (s:=31) ha fun a ha=>?_)
   refine SK (st_offU ha (wgF ha rfl (s:=31) rfl) rfl fun a ha=>?_)
   iterate 3 (refine SK (st_off ha (wgU ha rfl (s:=34)) rfl fun a ha=>?_))
   refine SO (s:=31) ha fun a ha=>?_
   refine PT ha fun a ha=>?_
   refine LN<|TN<|WTr ha<|WS<|WR ?_
   refine S1d ha fun a ha=>?_
   refine LN<|TN<|wp_ret<|TR ?_
   refine ret1 ha rfl ?_
   exact hfin false False _ hs.sub (by simp) ⟨fun h=>h.elim,fun h=>by have h5:=okOp_tk h; omega⟩
  ·
   iterate 3 (refine S1g (s:=13) ha fun a ha=>?_)
   refine ha.by (s:=16) (fun hg5 ha=>?_) (fun hg5 ha=>?_)
   ·
    refine S1g (s:=16) ha fun a ha=>?_
    refine SLg (s:=16) ha (hs.rd1 rfl) fun a ha=>?_
    refine S1g (s:=16) ha fun a ha=>?_
    refine PTg (s:=13) ha fun a ha=>?_
    refine PF ha fun a ha=>?_
    refine S1 ha fun a ha=>?_
    refine ha.by (s:=22) (fun hg11 ha=>?_) (fun hg11 ha=>?_)
    ·
     iterate 2 (refine SO (s:=22) ha fun a ha=>?_)
     refine SK (st_offU ha (wgF ha rfl (s:=22) rfl) rfl fun a ha=>?_)
     iterate 3 (refine SK (st_off ha (wgU ha rfl (s:=25)) rfl fun a ha=>?_))
     refine SO (s:=22) ha fun a ha=>?_
     refine PT ha fun a ha=>?_
     refine S1 ha fun a ha=>?_
     iterate 2 (refine SO (s:=31) ha fun a ha=>?_)
     refine SK (st_offU ha (wgF ha rfl (s:=31) rfl) rfl fun a ha=>?_)
     iterate 3 (refine SK (st_off ha (wgU ha rfl (s:=34)) rfl fun a ha=>?_))
     refine SO (s:=31) ha fun a ha=>?_
     refine PT ha fun a ha=>?_
     refine LN<|TN<|WTr ha<|WS<|WR ?_
     refine S1d ha fun a ha=>?_
     refine LN<|TN<|wp_ret<|TR ?_
     refine ret1 ha rfl ?_
     exact hfin false False _ hs.sub (by simp) ⟨fun h=>h.elim,fun h=>by have h5:=okOp_tk h; omega⟩
    ·
     iterate 3 (refine S1g (s:=22) ha fun a ha=>?_)
     refine ha.by (s:=25) (fun hg14 ha=>?_) (fun hg14 ha=>?_)
     ·
      refine S1g (s:=25) ha fun a ha=>?_
      refine SLg (s:=25) ha (hs.rd1 rfl) fun a ha=>?_
      refine S1g (s:=25) ha fun a ha=>?_
      refine PTg (s:=22) ha fun a ha=>?_
      refine PF ha fun a ha=>?_
      refine S1 ha fun a ha=>?_
      refine ha.by (s:=31) (fun hg20 ha=>?_) (fun hg20 ha=>?_)
      ·
       iterate 2 (refine SO (s:=31) ha fun a ha=>?_)
       refine SK (st_offU ha (wgF ha rfl (s:=31) rfl) rfl fun a ha=>?_)
       iterate 3 (refine SK (st_off ha (wgU ha rfl (s:=34)) rfl fun a ha=>?_))
       refine SO (s:=31) ha fun a ha=>?_
       refine PT ha fun a ha=>?_
       refine LN<|TN<|WTr ha<|WS<|WR ?_
       refine S1d ha fun a ha=>?_
       refine LN<|TN<|wp_ret<|TR ?_
       refine ret1 ha rfl ?_
       exact hfin false False _ hs.sub (by simp) ⟨fun h=>h.elim,fun h=>by have h5:=okOp_tk h; omega⟩
      ·
       iterate 3 (refine S1g (s:=31) ha fun a ha=>?_)
       refine ha.by (s:=34) (fun hg23 ha=>?_) (fun hg23 ha=>?_)
       ·
        refine S1g (s:=34) ha fun a ha=>?_
        refine SLg (s:=34) ha (hs.rd1 rfl) fun a ha=>?_
        refine S1g (s:=34) ha fun a ha=>?_
        refine PTg (s:=31) ha fun a ha=>?_
        refine PF ha fun a ha=>?_
        refine LN<|TN ?_
        refine WI ha (fun hc0=>?_) (fun hc0=>?_)
        ·
         refine WS<|WR ?_
         refine S1d ha fun a ha=>?_
         refine LN<|TN<|wp_ret<|TR ?_
         refine ret1 ha rfl ?_
         exact hfin false False _ hs.sub (by simp) ⟨fun h=>h.elim,fun h=>by have h5:=okOp_tk h; omega⟩
        ·
         refine WK<|TN ?_
         exact ⟨by omega,ha.keep [2,3,5],hs.sub⟩
       ·
        iterate 3 (refine SO (s:=34) ha fun a ha=>?_)
        refine PFg (s:=31) ha fun a ha=>?_
        refine PF ha fun a ha=>?_
        refine LN<|TN<|WFa ha<|WK<|TN ?_
        exact ⟨by omega,ha.keep [2,3,5],hs.sub⟩
     ·
      iterate 3 (refine SO (s:=25) ha fun a ha=>?_)
      refine PFg (s:=22) ha fun a ha=>?_
      refine PF ha fun a ha=>?_
      refine S1 ha fun a ha=>?_
      iterate 3 (refine S1g (s:=31) ha fun a ha=>?_)
      refine ha.by (s:=34) (fun hg23 ha=>?_) (fun hg23 ha=>?_)
      ·
       refine S1g (s:=34) ha fun a ha=>?_
       refine SLg (s:=34) ha (hs.rd1 rfl) fun a ha=>?_
       refine S1g (s:=34) ha fun a ha=>?_
       refine PTg (s:=31) ha fun a ha=>?_
       refine PF ha fun a ha=>?_
       refine LN<|TN ?_
       refine WI ha (fun hc0=>?_) (fun hc0=>?_)
       ·
        refine WS<|WR ?_
        refine S1d ha fun a ha=>?_
        refine LN<|TN<|wp_ret<|TR ?_
        refine ret1 ha rfl ?_
        exact hfin false False _ hs.sub (by simp) ⟨fun h=>h.elim,fun h=>by have h5:=okOp_tk h; omega⟩
       ·
        refine WK<|TN ?_
        exact ⟨by omega,ha.keep [2,3,5],hs.sub⟩
      ·
       iterate 3 (refine SO (s:=34) ha fun a ha=>?_)
       refine PFg (s:=31) ha fun a ha=>?_
       refine PF ha fun a ha=>?_
       refine LN<|TN<|WFa ha<|WK<|TN ?_
       exact ⟨by omega,ha.keep [2,3,5],hs.sub⟩
   ·
    iterate 3 (refine SO (s:=16) ha fun a ha=>?_)
    refine PFg (s:=13) ha fun a ha=>?_
    refine PF ha fun a ha=>?_
    refine S1 ha fun a ha=>?_
    iterate 3 (refine S1g (s:=22) ha fun a ha=>?_)
    refine ha.by (s:=25) (fun hg14 ha=>?_) (fun hg14 ha=>?_)
    ·
     refine S1g (s:=25) ha fun a ha=>?_
     refine SLg (s:=25) ha (hs.rd1 rfl) fun a ha=>?_
     refine S1g (s:=25) ha fun a ha=>?_
     refine PTg (s:=22) ha fun a ha=>?_
     refine PF ha fun a ha=>?_
     refine S1 ha fun a ha=>?_
     refine ha.by (s:=31) (fun hg20 ha=>?_) (fun hg20 ha=>?_)
     ·
      iterate 2 (refine SO (s:=31) ha fun a ha=>?_)
      refine SK (st_offU ha (wgF ha rfl (s:=31) rfl) rfl fun a ha=>?_)
      iterate 3 (refine SK (st_off ha (wgU ha rfl (s:=34)) rfl fun a ha=>?_))
      refine SO (s:=31) ha fun a ha=>?_
      refine PT ha fun a ha=>?_
      refine LN<|TN<|WTr ha<|WS<|WR ?_
      refine S1d ha fun a ha=>?_
      refine LN<|TN<|wp_ret<|TR ?_
      refine ret1 ha rfl ?_
      exact hfin false False _ hs.sub (by simp) ⟨fun h=>h.elim,fun h=>by have h5:=okOp_tk h; omega⟩
     ·
      iterate 3 (refine S1g (s:=31) ha fun a ha=>?_)
      refine ha.by (s:=34) (fun hg23 ha=>?_) (fun hg23 ha=>?_)
      ·
       refine S1g (s:=34) ha fun a ha=>?_
       refine SLg (s:=34) ha (hs.rd1 rfl) fun a ha=>?_
       refine S1g (s:=34) ha fun a ha=>?_
       refine PTg (s:=31) ha fun a ha=>?_
       refine PF ha fun a ha=>?_
       refine LN<|TN ?_
       refine WI ha (fun hc0=>?_) (fun hc0=>?_)
       ·
        refine WS<|WR ?_
        refine S1d ha fun a ha=>?_
        refine LN<|TN<|wp_ret<|TR ?_
        refine ret1 ha rfl ?_
        exact hfin false False _ hs.sub (by simp) ⟨fun h=>h.elim,fun h=>by have h5:=okOp_tk h; omega⟩
       ·
        refine WK<|TN ?_
        exact ⟨by omega,ha.keep [2,3,5],hs.sub⟩
      ·
       iterate 3 (refine SO (s:=34) ha fun a ha=>?_)
       refine PFg (s:=31) ha fun a ha=>?_
       refine PF ha fun a ha=>?_
       refine LN<|TN<|WFa ha<|WK<|TN ?_
       exact ⟨by omega,ha.keep [2,3,5],hs.sub⟩
    ·
     iterate 3 (refine SO (s:=25) ha fun a ha=>?_)
     refine PFg (s:=22) ha fun a ha=>?_
     refine PF ha fun a ha=>?_
     refine S1 ha fun a ha=>?_
     iterate 3 (refine S1g (s:=31) ha fun a ha=>?_)
     refine ha.by (s:=34) (fun hg23 ha=>?_) (fun hg23 ha=>?_)
     ·
      refine S1g (s:=34) ha fun a ha=>?_
      refine SLg (s:=34) ha (hs.rd1 rfl) fun a ha=>?_
      refine S1g (s:=34) ha fun a ha=>?_
      refine PTg (s:=31) ha fun a ha=>?_
      refine PF ha fun a ha=>?_
      refine LN<|TN ?_
      refine WI ha (fun hc0=>?_) (fun hc0=>?_)
      ·
       refine WS<|WR ?_
       refine S1d ha fun a ha=>?_
       refine LN<|TN<|wp_ret<|TR ?_
       refine ret1 ha rfl ?_
       exact hfin false False _ hs.sub (by simp) ⟨fun h=>h.elim,fun h=>by have h5:=okOp_tk h; omega⟩
      ·
       refine WK<|TN ?_
       exact ⟨by omega,ha.keep [2,3,5],hs.sub⟩
     ·
      iterate 3 (refine SO (s:=34) ha fun a ha=>?_)
      refine PFg (s:=31) ha fun a ha=>?_
      refine PF ha fun a ha=>?_
      refine LN<|TN<|WFa ha<|WK<|TN ?_
      exact ⟨by omega,ha.keep [2,3,5],hs.sub⟩
 ·
  clear ha; (try clear hs)
  intro a w hcut
  obtain ⟨htk,ha,hs⟩:=hcut
  refine WS<|WS<|WR ?_
  refine S1 ha fun a ha=>?_
  refine SL ha (hs.rd1 rfl) fun a ha=>?_
  refine LN<|TN<|wp_block<|WS<|WR ?_
  iterate 2 (refine S1 ha fun a ha=>?_)
  refine LN<|TN ?_
  refine WI ha (fun hc1=>?_) (fun hc1=>?_)
  ·
   refine WS<|WR ?_
   refine S1 ha fun a ha=>?_
   refine LN<|TN<|wp_ret<|BR<|TR ?_
   refine ret1 ha rfl ?_
   exact hfin true True _ hs.sub (by simp) ⟨fun _=>(okOp_0 hc1).2 (by omega),fun _=>trivial⟩
  ·
   refine WS<|WR ?_
   iterate 2 (refine S1 ha fun a ha=>?_)
   refine LN<|TN ?_
   refine WI ha (fun hc2=>?_) (fun hc2=>?_)
   ·
    refine WS<|WR ?_
    refine S1 ha fun a ha=>?_
    refine SL ha (hs.rd1 rfl) fun a ha=>?_
    refine SK (st_buildSlice ha rfl hs Tryz.underlying63 Ty.t3 rfl rfl rfl rfl (by decide) (by decide) fun b48 a w ha hs ho=>?_)
    clear ho
    refine SK (st_call ha rfl Ty.c150 rfl (cell_spec (zs:=[o.a]) hs (by simp)) ?_); clear ha hs
    rintro e w ⟨r,rfl,hr,hs⟩
    refine ⟨_,rfl,?_⟩
    intro a ha
    refine S1 ha fun a ha=>?_
    refine LN<|TN<|wp_ret<|BR<|TR ?_
    refine ret1 ha rfl ?_
    exact hfin r _ _ hs.sub hr (by rw [okOp_1 hc2]; simp only [CellsIn,List.forall_mem_cons,List.not_mem_nil,false_imp_iff,implies_true,and_true]; exact ⟨fun h=>⟨h,by omega⟩,fun h=>h.1⟩)
   ·
    refine WS<|WR ?_
    iterate 2 (refine S1 ha fun a ha=>?_)
    refine LN<|TN ?_
    refine WI ha (fun hc3=>?_) (fun hc3=>?_)
    ·
     refine WS<|WR ?_
     iterate 2 (refine S1 ha fun a ha=>?_)
     refine SL ha (hs.rd1 rfl) fun a ha=>?_
     refine SK (st_callvN ha rfl Ty.c148 rfl (to_spec (hs.bring b3)) (by rfl) ?_); clear ha hs
     rintro e w ⟨rfl,hs⟩
     refine ⟨_,rfl,?_⟩
     intro a ha
     refine S1 ha fun a ha=>?_
     refine LN<|TN<|wp_ret<|BR<|TR ?_
     refine ret1 ha rfl ?_
     exact hfin _ _ _ hs.sub decide_eq_true_iff (by rw [okOp_9 hc3]; omega)
    ·
     refine WS<|WR ?_
     iterate 2 (refine S1 ha fun a ha=>?_)
     refine LN<|TN ?_
     refine WI ha (fun hc4=>?_) (fun hc4=>?_)
     ·
      refine WS<|WR ?_
      refine S1 ha fun a ha=>?_
      refine SL ha (hs.rd1 rfl) fun a ha=>?_
      refine SK (st_buildSlice ha rfl hs Tryz.underlying63 Ty.t3 rfl rfl rfl rfl (by decide) (by decide) fun b60 a w ha hs ho=>?_)
      clear ho
      refine SK (st_call ha rfl Ty.c150 rfl (cell_spec (zs:=[o.a]) hs (by simp)) ?_); clear ha hs
      rintro e w ⟨r,rfl,hr,hs⟩
      refine ⟨_,rfl,?_⟩
      intro a ha
      simp only [CellsIn,List.forall_mem_cons,List.not_mem_nil,false_imp_iff,implies_true,and_true] at hr
      refine S1 ha fun a ha=>?_
      refine ha.by (s:=62) (fun hg4 ha=>?_) (fun hg4 ha=>?_)
      ·
       iterate 2 (refine S1g (s:=62) ha fun a ha=>?_)
       refine SLg (s:=62) ha (hs.rd1 rfl) fun a ha=>?_
       refine SK (st_callvN ha (wgT ha rfl (s:=62)) Ty.c148 rfl (to_spec (hs.bring b3)) (by rfl) ?_); clear ha hs
       rintro e w ⟨rfl,hs⟩
       refine ⟨_,rfl,?_⟩
       intro a ha
       refine PT ha fun a ha=>?_
       refine S1 ha fun a ha=>?_
       refine LN<|TN<|wp_ret<|BR<|TR ?_
       refine ret1 ha rfl ?_
       exact hfin _ _ _ hs.sub decide_eq_true_iff (by rw [okOp_10 hc4]; exact ⟨fun h=>⟨hr.1 hg4,h.1,h.2,by omega⟩,fun h=>⟨h.2.1,h.2.2.1⟩⟩)
      ·
       iterate 4 (refine SO (s:=62) ha fun a ha=>?_)
       refine PF ha fun a ha=>?_
       refine S1 ha fun a ha=>?_
       refine LN<|TN<|wp_ret<|BR<|TR ?_
       refine ret1 ha rfl ?_
       exact hfin _ False _ hs.sub (by simp) (by rw [okOp_10 hc4]; exact ⟨fun h=>h.elim,fun h=>by rw [hr.2 h.1] at hg4; cases hg4⟩)
     ·
      refine WK<|BN<|TN<|WS<|WR ?_
      refine S1 ha fun a ha=>?_
      refine SL ha (hs.rd1 rfl) fun a ha=>?_
      refine S1 ha fun a ha=>?_
      refine SL ha (hs.rd1 rfl) fun a ha=>?_
      refine S1 ha fun a ha=>?_
      refine SL ha (hs.rd1 rfl) fun a ha=>?_
      refine SK (st_buildSlice ha rfl hs Tryz.underlying63 Ty.t3 rfl rfl rfl rfl (by decide) (by decide) fun b74 a w ha hs ho=>?_)
      clear ho
      refine SK (st_call ha rfl Ty.c150 rfl (cell_spec (zs:=[o.a,o.b,o.c]) hs (by simp)) ?_); clear ha hs
      rintro e w ⟨r,rfl,hr,hs⟩
      refine ⟨_,rfl,?_⟩
      intro a ha
      refine S1 ha fun a ha=>?_
      refine LN<|TN<|wp_ret ?_
      refine ret1 ha rfl ?_
      refine hfin r _ _ hs.sub hr ?_
      simp only [CellsIn,List.forall_mem_cons,List.not_mem_nil,false_imp_iff,implies_true,and_true]
      have h00 : cellP 0:=⟨by decide,by decide⟩
      rcases hk with hk | ⟨hk,hk2⟩ | ⟨hk,hk2⟩ | hk | hk
      · omega
      · have hcd : o.code=15:=by omega
        have hb0 : o.b=0:=by omega
        have hc00 : o.c=0:=by omega
        rw [okOp_15 hcd,hb0,hc00]
        exact ⟨fun h=>⟨h.1,rfl,rfl⟩,fun h=>⟨h.1,h00,h00⟩⟩
      · have hc00 : o.c=0:=by omega
        rw [okOp_2 (by omega),hc00]
        exact ⟨fun h=>⟨h.1,h.2.1,rfl⟩,fun h=>⟨h.1,h.2.1,h00⟩⟩
      · rw [okOp_3 ⟨hk.1,hk.2.1⟩]
      · omega
def prV (p : Pr) (ad : Option Addr) (c : Nat) : List Value:=[.string p.title,.slice ad p.ops.length c]
theorem prV_one (p : Pr) (ad : Option Addr) (c : Nat) : ∀ v∈prV p ad c,v.oneCell'=true:=by
 intro v hv
 simp [prV] at hv
 rcases hv with rfl | rfl <;> rfl
abbrev RoP (W : World) (p : Pr) (ad : Option Addr) (c : Nat) : SP:=Ro W 87 4 ad p.ops.length c (rows opR p.ops)
def fldI (o : OpR) (k : Nat) : Int:=[o.code,o.a,o.b,o.c].getD k 0
theorem opR_at (o : OpR) {k : Nat} (h : k < 4) : (opR o)[k]?=some (.int .i64 (fldI o k)):=by
 rcases (by omega : k=0∨k=1∨k=2∨k=3) with rfl | rfl | rfl | rfl <;> rfl
set_option maxHeartbeats 4000000 in
theorem encode_spec {p : Pr} (hs : St W w (RoP W p ad c::L)) (hsz : p.title.size≤1000000000) (hol : p.ops.length≤1000000000) :
   Calls Tryz.prog 123 #[.agg (prV p ad c).toArray] w fun e w'=>∃ ad' n' c',e=.returned (.slice ad' n' c')∧(ad'.isNone=true ↔ ¬ formOk p)∧St W w' (RoP W p ad c::L):=by
 refine calls_enter Tryz.func123 rfl Tryz.ntmps123 (Nat.le_of_ble_eq_true rfl) ?_
 intro a ha
 replace ha : Fr a 62 [(0,_)]:=ha
 refine WS<|WR ?_
 refine SK (st_box ha rfl hs rfl fun b1 a w ha hs ho=>?_)
 clear ho
 change St W w (blk b1 33 (prV p ad c)::_) at hs
 refine S1 ha fun a ha=>?_
 refine LN<|TN ?_
 refine wp_seq_cut (M:=fun a w=>(tOk p.title=true∧1≤p.ops.length∧p.ops.length≤64)∧Fr a 62 [(1,.pointer (some ⟨b1,0,none⟩))]∧St W w (blk b1 33 (prV p ad c)::RoP W p ad c::L)) ?_ ?_
 ·
  refine WS<|WR ?_
  refine S1 ha fun a ha=>?_
  refine SL ha (hs.rd1 rfl) fun a ha=>?_
  refine SK (st_call ha rfl Ty.c145 rfl (title_spec hs (by omega)) ?_); clear ha hs
  rintro e w ⟨rfl,hs⟩
  refine ⟨_,rfl,?_⟩
  intro a ha
  iterate 2 (refine S1 ha fun a ha=>?_)
  refine ha.by (s:=12) (fun ht ha=>?_) (fun ht ha=>?_)
  ·
   iterate 4 (refine SO (s:=12) ha fun a ha=>?_)
   refine PT ha fun a ha=>?_
   refine S1 ha fun a ha=>?_
   iterate 4 (refine SO (s:=18) ha fun a ha=>?_)
   refine PT ha fun a ha=>?_
   refine LN<|TN<|WTr ha<|WS<|WR ?_
   refine S1d ha fun a ha=>?_
   refine LN<|TN<|wp_ret<|TR ?_
   refine ret1 ha rfl ?_
   exact ⟨none,0,0,rfl,⟨fun _ h=>(by
     obtain ⟨h1,h2,h3,_⟩:=h
     first
       | (rw [h1] at ht; cases ht; done)
       | omega),fun _=>rfl⟩,hs.sub⟩
  ·
   refine S1g (s:=12) ha fun a ha=>?_
   refine SLg (s:=12) ha (hs.rd1 rfl) fun a ha=>?_
   iterate 2 (refine S1g (s:=12) ha fun a ha=>?_)
   refine PF ha fun a ha=>?_
   refine S1 ha fun a ha=>?_
   refine ha.by (s:=18) (fun hg10 ha=>?_) (fun hg10 ha=>?_)
   ·
    iterate 4 (refine SO (s:=18) ha fun a ha=>?_)
    refine PT ha fun a ha=>?_
    refine LN<|TN<|WTr ha<|WS<|WR ?_
    refine S1d ha fun a ha=>?_
    refine LN<|TN<|wp_ret<|TR ?_
    refine ret1 ha rfl ?_
    exact ⟨none,0,0,rfl,⟨fun _ h=>(by
      obtain ⟨h1,h2,h3,_⟩:=h
      first
        | (rw [h1] at ht; cases ht; done)
        | omega),fun _=>rfl⟩,hs.sub⟩
   ·
    refine S1g (s:=18) ha fun a ha=>?_
    refine SLg (s:=18) ha (hs.rd1 rfl) fun a ha=>?_
    iterate 2 (refine S1g (s:=18) ha fun a ha=>?_)
    refine PF ha fun a ha=>?_
    refine LN<|TN ?_
    refine WI ha (fun hc0=>?_) (fun hc0=>?_)
    ·
     refine WS<|WR ?_
     refine S1d ha fun a ha=>?_
     refine LN<|TN<|wp_ret<|TR ?_
     refine ret1 ha rfl ?_
     exact ⟨none,0,0,rfl,⟨fun _ h=>(by
       obtain ⟨h1,h2,h3,_⟩:=h
       first
         | (rw [h1] at ht; cases ht; done)
         | omega),fun _=>rfl⟩,hs.sub⟩
    ·
     refine WK<|TN ?_
     exact ⟨⟨ht,by omega,by omega⟩,ha.keep [1],hs.sub⟩
 ·
  clear ha; (try clear hs)
  intro a w hcut
  obtain ⟨hfo,ha,hs⟩:=hcut
  refine wp_seq_cut (M:=fun a w=>∃ (bs : List UInt8) (adb : Option Addr) (cb : Nat),(1≤bs.length∧bs.length≤p.title.size+30)∧Fr a 62 [(1,.pointer (some ⟨b1,0,none⟩)),(3,.slice adb bs.length cb)]∧St W w (Sl 5 1 adb bs.length cb (bc bs)::blk b1 33 (prV p ad c)::RoP W p ad c::L)) ?_ ?_
  ·
   have hc1 : w.drew.cell? ⟨b1,1,none⟩=some (.slice ad p.ops.length c):=hs.drew.rd1 rfl
   have hc0' : w.drew.cell? ⟨b1,0,none⟩=some (.string p.title):=hs.drew.rd1 rfl
   refine DW (m:=8) (fun w'=>w'.cell? ⟨b1,1,none⟩=some (.slice ad p.ops.length c)∧w'.cell? ⟨b1,0,none⟩=some (.string p.title)) [2,4,5] [0,3,1,4,5,2,6,7] Ty.mixed (pk_then pk_body) (fun hpk=>?_)
   replace hs:=hs.drew
   generalize w.drew=w at hs hpk hc1 hc0' ⊢
   have hC:=And.intro hc1 hc0'
   iterate 2 (refine DP hpk ha rfl fun a ha=>?_)
   refine DL hpk ha rfl (fun w hc=>hc.2) hC fun a ha=>?_
   refine DL hpk ha rfl (fun w hc=>hc.1) hC fun a ha=>?_
   refine DH hpk ha rfl rfl (fun w hc=>ex_len ha Tryz.underlying31) hC fun a ha=>?_
   refine D1 rfl (st_call ha rfl Ty.c147 rfl (bytes_spec hs (by omega)) ?_); clear ha hs
   rintro e w ⟨adp,cp,rfl,hs⟩
   refine ⟨_,rfl,?_⟩
   intro a ha
   replace hC : (fun w'=>w'.cell? ⟨b1,1,none⟩=some (.slice ad p.ops.length c)∧w'.cell? ⟨b1,0,none⟩=some (.string p.title)) w:=And.intro (hs.rd1 rfl) (hs.rd1 rfl)
   refine ⟨fun _=>hC,?_⟩
   have hp2:=putL_len 9 (zz p.title.size) (by rw [zz]; split <;> (simp; omega))
   have hss : p.title.data.toList.length=p.title.size:=rfl
   refine D1 rfl (st_call ha rfl Ty.c146 rfl (put_bytes (N:=p.ops.length) (hs.pick (Sl 5 1 adp (putL (zz p.title.size)++p.title.data.toList).length cp (bc (putL (zz p.title.size)++p.title.data.toList)))) (by omega) (by omega) (by rw [List.length_append]; omega)) ?_); clear ha hs
   rintro e w ⟨adq,cq,rfl,hs⟩
   refine ⟨_,rfl,?_⟩
   intro a ha
   refine ⟨fun h=>absurd h (by decide),?_⟩
   refine DP hpk ha rfl fun a ha=>?_
   refine DD<|TN ?_
   have hp3:=putL_len 9 (zz p.ops.length) (by rw [zz]; split <;> (simp; omega))
   have hp4:=putL_pos (zz p.ops.length)
   exact ⟨_,adq,cq,⟨by rw [List.length_append]; omega,by rw [List.length_append,List.length_append]; omega⟩,ha.keep [1,3],hs.sub⟩
  ·
   clear ha; (try clear hs)
   intro a w hcut
   obtain ⟨bs,adb,cb,⟨hb1,hb2⟩,ha,hs⟩:=hcut
   refine WS<|WS<|WR ?_
   refine S1 ha fun a ha=>?_
   refine SL ha (hs.rd1 rfl) fun a ha=>?_
   iterate 2 (refine S1 ha fun a ha=>?_)
   refine LN<|TN<|wp_block ?_
   refine wp_loop_ghost (fun μ a w=>∃ (i : Nat) (bs : List UInt8) (adb : Option Addr) (cb : Nat),(μ=p.ops.length - i∧i≤p.ops.length∧1≤bs.length∧bs.length≤p.title.size+30+40*i∧∀ j o,j < i→p.ops[j]?=some o→i32O o)∧Fr a 62 [(3,.slice adb bs.length cb),(32,.slice ad p.ops.length c),(33,.int .i64 p.ops.length),(34,.int .i64 i)]∧St W w (Sl 5 1 adb bs.length cb (bc bs)::RoP W p ad c::L)) (p.ops.length) ?_ ?_
   · exact ⟨0,bs,adb,cb,⟨by simp,by simp,hb1,by omega,fun j o h=>absurd h (by omega)⟩,ha.keep [3,32,33,34],hs.sub⟩
   ·
    clear ha hs
    rintro μ a w ⟨i,bs,adb,cb,⟨rfl,hi,hb1,hb2,hin⟩,ha,hs⟩
    refine WS<|WR ?_
    refine S1 ha fun a ha=>?_
    refine LN<|TN<|WS ?_
    refine WI ha (fun hc1=>?_) (fun hc1=>?_)
    ·
     obtain ⟨o,ho⟩ : ∃ o,p.ops[i]?=some o:=⟨_,List.getElem?_eq_getElem (by omega)⟩
     obtain ⟨bo,oo,hade,hro⟩:=hs.roRd ad (by omega)
     rw [hade] at ha
     refine WK<|TN<|WS<|wp_block<|WS<|WR ?_
     refine SK (st_set ha rfl (ex_indexAddr ha Tryz.underlying31 Ty.t87 (by omega)) rfl fun a ha=>?_)
     refine SK (st_set ha rfl (ex_loadN ha Tryz.underlying87 rfl Ty.t87 (op_rd hro ho)) rfl fun a ha=>?_)
     refine SK (st_alloc ha rfl hs Ty.t87 rfl fun b5 a w ha hs ho=>?_)
     clear ho
     refine SK (st_storeAll ha rfl hs Ty.t87 (opR_one o) (by rfl) fun a w ha hs=>?_)
     refine LN<|TN<|WS<|WR ?_
     refine S1 ha fun a ha=>?_
     refine SL ha (hs.rd1 rfl) fun a ha=>?_
     refine S1 ha fun a ha=>?_
     refine SL ha (hs.rd1 rfl) fun a ha=>?_
     refine S1 ha fun a ha=>?_
     refine SL ha (hs.rd1 rfl) fun a ha=>?_
     refine S1 ha fun a ha=>?_
     refine SL ha (hs.rd1 rfl) fun a ha=>?_
     refine SK (st_set ha rfl (ex_buildA ha Tryz.underlying218 Ty.t218 Ty.t3 rfl rfl) rfl fun a ha=>?_)
     change Fr a 62 ((46,.agg (opR o).toArray)::_) at ha
     refine S1 ha fun a ha=>?_
     refine LN ?_
     rw [← hade] at ha
     refine TN<|wp_block ?_
     refine wp_loop_ghost (fun μ a w=>∃ (k : Nat) (bs : List UInt8) (adb : Option Addr) (cb : Nat),(μ=4 - k∧k≤4∧1≤bs.length∧bs.length≤p.title.size+30+40*i+10*k∧∀ j,j < k→i32P (fldI o j))∧Fr a 62 [(3,.slice adb bs.length cb),(32,.slice ad p.ops.length c),(33,.int .i64 p.ops.length),(34,.int .i64 i),(46,.agg (opR o).toArray),(47,.int .i64 k)]∧St W w (Sl 5 1 adb bs.length cb (bc bs)::RoP W p ad c::L)) (4) ?_ ?_
     · exact ⟨0,bs,adb,cb,⟨by simp,by simp,hb1,by omega,fun j h=>absurd h (by omega)⟩,ha.keep [3,32,33,34,46,47],hs.sub⟩
     ·
      clear ha hs
      rintro μ a w ⟨k,bs,adb,cb,⟨rfl,hk,hb1,hb2,hik⟩,ha,hs⟩
      refine WS<|WR ?_
      refine S1 ha fun a ha=>?_
      refine LN<|TN<|WS ?_
      refine WI ha (fun hc2=>?_) (fun hc2=>?_)
      ·
       refine WK<|TN<|WS<|wp_block<|WS<|WR ?_
       refine SK (st_set ha rfl (ex_index1 ha Tryz.underlying218 Tryz.underlying3 rfl Ty.t3 (by omega) (opR_at o (by omega))) rfl fun a ha=>?_)
       refine S1 ha fun a ha=>?_
       refine LN<|TN<|WS<|WS<|WR ?_
       iterate 3 (refine S1 ha fun a ha=>?_)
       refine ha.by (s:=52) (fun hg2 ha=>?_) (fun hg2 ha=>?_)
       ·
        iterate 2 (refine SO (s:=52) ha fun a ha=>?_)
        refine PT ha fun a ha=>?_
        refine LN<|TN<|WTr ha<|WS<|WR ?_
        refine S1 ha fun a ha=>?_
        refine LN<|TN<|wp_ret<|TR<|BR<|TR<|TR<|BR<|BR<|TR<|TR<|BR<|TR ?_
        refine ret1 ha rfl ?_
        refine ⟨none,0,0,rfl,⟨fun _ h=>?_,fun _=>rfl⟩,hs.sub⟩
        obtain ⟨_,_,_,h4⟩:=h
        have h5:=h4 o (List.mem_of_getElem? ho)
        have h6 : i32P (fldI o k):=by
          rcases (by omega : k=0∨k=1∨k=2∨k=3) with rfl | rfl | rfl | rfl
          · exact h5.1
          · exact h5.2.1
          · exact h5.2.2.1
          · exact h5.2.2.2
        simp only [i32P] at h6
        omega
       ·
        iterate 2 (refine S1g (s:=52) ha fun a ha=>?_)
        refine PF ha fun a ha=>?_
        refine LN<|TN ?_
        refine WI ha (fun hc3=>?_) (fun hc3=>?_)
        ·
         refine WS<|WR ?_
         refine S1 ha fun a ha=>?_
         refine LN<|TN<|wp_ret<|TR<|BR<|TR<|TR<|BR<|BR<|TR<|TR<|BR<|TR ?_
         refine ret1 ha rfl ?_
         refine ⟨none,0,0,rfl,⟨fun _ h=>?_,fun _=>rfl⟩,hs.sub⟩
         obtain ⟨_,_,_,h4⟩:=h
         have h5:=h4 o (List.mem_of_getElem? ho)
         have h6 : i32P (fldI o k):=by
           rcases (by omega : k=0∨k=1∨k=2∨k=3) with rfl | rfl | rfl | rfl
           · exact h5.1
           · exact h5.2.1
           · exact h5.2.2.1
           · exact h5.2.2.2
         simp only [i32P] at h6
         omega
        ·
         refine WK<|TN<|WR ?_
         iterate 2 (refine S1 ha fun a ha=>?_)
         refine SK (st_call ha rfl Ty.c146 rfl (put_bytes (N:=fldI o k) (hs.pick (Sl 5 1 adb bs.length cb (bc bs))) (by omega) (by omega) (by omega)) ?_); clear ha hs
         rintro e w ⟨adq,cq,rfl,hs⟩
         refine ⟨_,rfl,?_⟩
         intro a ha
         refine S1d ha fun a ha=>?_
         refine LN<|BN<|TN<|WR ?_
         refine SK (st_set ha rfl (ex_addI ha (by omega) (by omega)) rfl fun a ha=>?_)
         refine S1d ha fun a ha=>?_
         refine LN<|TN ?_
         have hp3:=putL_len 9 (zz (fldI o k)) (by rw [zz]; split <;> (simp; omega))
         refine ⟨4 - (k+1),by omega,k+1,bs++putL (zz (fldI o k)),adq,cq,⟨rfl,by omega,by rw [List.length_append]; omega,by rw [List.length_append]; omega,fun j hj=>?_⟩,ha.keep [3,32,33,34,46,47],hs.sub⟩
         rcases Nat.lt_or_ge j k with h | h
         · exact hik j h
         · obtain rfl : j=k:=by omega
           simp only [i32P]; omega
      ·
       refine wp_exit<|TE<|TE<|blk_e<|BN<|TN ?_
       obtain rfl : k=4:=by omega
       refine WR ?_
       refine SK (st_set ha rfl (ex_addI ha (by omega) (by omega)) rfl fun a ha=>?_)
       refine S1d ha fun a ha=>?_
       refine LN<|TN ?_
       refine ⟨p.ops.length - (i+1),by omega,i+1,bs,adb,cb,⟨rfl,by omega,hb1,by omega,fun j o' hj ho'=>?_⟩,ha.keep [3,32,33,34],hs.sub⟩
       rcases Nat.lt_or_ge j i with h | h
       · exact hin j o' h ho'
       · obtain rfl : j=i:=by omega
         rw [ho] at ho'; cases ho'
         exact ⟨hik 0 (by omega),hik 1 (by omega),hik 2 (by omega),hik 3 (by omega)⟩
    ·
     refine wp_exit<|TE<|TE<|blk_e<|TN<|WS<|WR ?_
     iterate 2 (refine S1 ha fun a ha=>?_)
     refine LN<|TN<|wp_ret ?_
     refine ret1 ha rfl ?_
     obtain ⟨bx,ox,hax,_⟩:=hs.slRd adb (by omega)
     refine ⟨adb,bs.length,cb,rfl,⟨fun h=>(by rw [hax] at h; cases h),fun h=>?_⟩,hs.sub⟩
     exact absurd ⟨hfo.1,hfo.2.1,hfo.2.2,fun o' ho'=>(by
       obtain ⟨j,hj⟩:=List.mem_iff_getElem?.1 ho'
       exact hin j o' (by have:=(List.getElem?_eq_some_iff.1 hj).1; omega) hj)⟩ h
theorem fault_spec {p : Pr} (hs : St W w (RoP W p ad c::L)) (hsz : p.title.size≤1000000000) (hol : p.ops.length≤1000000000) :
   Calls Tryz.prog 83 #[.agg (prV p ad c).toArray] w fun e w'=>∃ r : Int,e=.returned (.int .i64 r)∧(r = -1 ↔ prOk p)∧St W w' (RoP W p ad c::L):=by
 refine calls_enter Tryz.func83 rfl Tryz.ntmps83 (Nat.le_of_ble_eq_true rfl) ?_
 intro a ha
 replace ha : Fr a 24 [(0,_)]:=ha
 refine WS<|WR ?_
 refine SK (st_box ha rfl hs rfl fun b1 a w ha hs ho=>?_)
 clear ho
 change St W w (blk b1 33 (prV p ad c)::_) at hs
 refine S1 ha fun a ha=>?_
 refine LN<|TN<|WS<|WS<|WR ?_
 refine SK (st_set ha rfl (ex_loadN ha Tryz.underlying33 rfl Ty.t33 (hs.rdAll)) rfl fun a ha=>?_)
 refine SK (st_call ha rfl Ty.c123 rfl (encode_spec (hs.pick (RoP W p ad c)) hsz hol) ?_); clear ha hs
 rintro e w ⟨ade,ne,ce,rfl,hne,hs⟩
 refine ⟨_,rfl,?_⟩
 intro a ha
 refine SK (st_set ha rfl (ex_eqnilS ha Tryz.underlying22) rfl fun a ha=>?_)
 refine LN<|TN ?_
 refine WI ha (fun hc0=>?_) (fun hc0=>?_)
 ·
  refine WS<|WR ?_
  refine S1d ha fun a ha=>?_
  refine LN<|TN<|wp_ret<|TR ?_
  refine ret1 ha rfl ?_
  exact ⟨-2,rfl,⟨fun h=>absurd h (by decide),fun h=>absurd h.1 (hne.1 hc0)⟩,hs.sub⟩
 ·
  have hfo : formOk p:=Classical.byContradiction fun h=>by rw [hne.2 h] at hc0; cases hc0
  refine WK<|TN<|WS<|WS<|WR ?_
  refine S1 ha fun a ha=>?_
  refine SL ha (hs.rd1 rfl) fun a ha=>?_
  iterate 2 (refine S1 ha fun a ha=>?_)
  refine LN<|TN<|wp_block ?_
  refine wp_loop_ghost (fun μ a w=>∃ i : Nat,(μ=p.ops.length - i∧i≤p.ops.length∧∀ j o,j < i→p.ops[j]?=some o→okOp p.ops.length o)∧Fr a 24 [(1,.pointer (some ⟨b1,0,none⟩)),(9,.slice ad p.ops.length c),(10,.int .i64 p.ops.length),(11,.int .i64 i)]∧St W w (blk b1 33 (prV p ad c)::RoP W p ad c::L)) (p.ops.length) ?_ ?_
  · exact ⟨0,⟨by simp,by simp,fun j o h=>absurd h (by omega)⟩,ha.keep [1,9,10,11],hs.sub⟩
  ·
   clear ha hs
   rintro μ a w ⟨i,⟨rfl,hi,hin⟩,ha,hs⟩
   refine WS<|WR ?_
   refine S1 ha fun a ha=>?_
   refine LN<|TN<|WS ?_
   refine WI ha (fun hc1=>?_) (fun hc1=>?_)
   ·
    obtain ⟨o,ho⟩ : ∃ o,p.ops[i]?=some o:=⟨_,List.getElem?_eq_getElem (by omega)⟩
    obtain ⟨bo,oo,hade,hro⟩:=hs.roRd ad (by omega)
    rw [hade] at ha
    refine WK<|TN<|WS<|wp_block<|WS<|WR ?_
    refine S1 ha fun a ha=>?_
    refine SK (st_set ha rfl (ex_indexAddr ha Tryz.underlying31 Ty.t87 (by omega)) rfl fun a ha=>?_)
    refine SK (st_set ha rfl (ex_loadN ha Tryz.underlying87 rfl Ty.t87 (op_rd hro ho)) rfl fun a ha=>?_)
    refine SK (st_alloc ha rfl hs Ty.t87 rfl fun b4 a w ha hs ho=>?_)
    clear ho
    refine S1 ha fun a ha=>?_
    refine SK (st_storeAll ha rfl hs Ty.t87 (opR_one o) (by rfl) fun a w ha hs=>?_)
    refine LN<|TN<|WS<|WR ?_
    refine SK (st_set ha rfl (ex_loadN ha Tryz.underlying87 rfl Ty.t87 (hs.rdAll)) rfl fun a ha=>?_)
    refine S1 ha fun a ha=>?_
    refine SL ha (hs.rd1 rfl) fun a ha=>?_
    refine S1 ha fun a ha=>?_
    refine SK (st_call ha rfl Ty.c124 rfl (may_spec (o:=o) (m:=p.ops.length) hs) ?_); clear ha hs
    rintro e w ⟨r,rfl,hr,hs⟩
    refine ⟨_,rfl,?_⟩
    intro a ha
    refine S1 ha fun a ha=>?_
    refine LN<|TN ?_
    refine WI ha (fun hc2=>?_) (fun hc2=>?_)
    ·
     refine WS<|WR ?_
     iterate 2 (refine S1 ha fun a ha=>?_)
     refine LN<|TN<|wp_ret<|BR<|TR<|TR<|BR<|TR ?_
     refine ret1 ha rfl ?_
     refine ⟨i,rfl,⟨fun h=>absurd h (by omega),fun h=>?_⟩,hs.sub⟩
     rw [hr.2 (h.2 o (List.mem_of_getElem? ho))] at hc2; cases hc2
    ·
     have hrt : r=true:=by simpa using hc2
     refine WK<|BN<|TN<|WR ?_
     refine SK (st_set ha rfl (ex_addI ha (by omega) (by omega)) rfl fun a ha=>?_)
     refine S1d ha fun a ha=>?_
     refine LN<|TN ?_
     rw [← hade] at ha
     refine ⟨p.ops.length - (i+1),by omega,i+1,⟨rfl,by omega,fun j o' hj ho'=>?_⟩,ha.keep [1,9,10,11],hs.sub⟩
     rcases Nat.lt_or_ge j i with h | h
     · exact hin j o' h ho'
     · obtain rfl : j=i:=by omega
       rw [ho] at ho'; cases ho'
       exact hr.1 hrt
   ·
    refine wp_exit<|TE<|TE<|blk_e<|TN<|WS<|WR ?_
    refine S1 ha fun a ha=>?_
    refine LN<|TN<|wp_ret ?_
    refine ret1 ha rfl ?_
    refine ⟨-1,rfl,⟨fun _=>⟨hfo,fun o ho=>?_⟩,fun _=>rfl⟩,hs.sub⟩
    obtain ⟨j,hj⟩:=List.mem_iff_getElem?.1 ho
    exact hin j o (by have:=(List.getElem?_eq_some_iff.1 hj).1; omega) hj
theorem checkMay_spec {p : Pr} (hs : St W w (RoP W p ad c::L)) (hsz : p.title.size≤1000000000) (hol : p.ops.length≤1000000000) :
   Calls Tryz.prog 37 #[.agg (prV p ad c).toArray] w fun e w'=>∃ r : Bool,e=.returned (.bool r)∧(r=true ↔ prOk p)∧St W w' (RoP W p ad c::L):=by
 refine calls_enter Tryz.func37 rfl Tryz.ntmps37 (Nat.le_of_ble_eq_true rfl) ?_
 intro a ha
 replace ha : Fr a 6 [(0,_)]:=ha
 refine WS<|WR ?_
 refine SK (st_box ha rfl hs rfl fun b1 a w ha hs ho=>?_)
 clear ho
 change St W w (blk b1 33 (prV p ad c)::_) at hs
 refine S1 ha fun a ha=>?_
 refine LN<|TN<|WS<|WR ?_
 refine SK (st_set ha rfl (ex_loadN ha Tryz.underlying33 rfl Ty.t33 (hs.rdAll)) rfl fun a ha=>?_)
 refine SK (st_call ha rfl Ty.c83 rfl (fault_spec (hs.pick (RoP W p ad c)) hsz hol) ?_); clear ha hs
 rintro e w ⟨r,rfl,hr,hs⟩
 refine ⟨_,rfl,?_⟩
 intro a ha
 refine S1 ha fun a ha=>?_
 refine S1d ha fun a ha=>?_
 refine LN<|TN<|wp_ret ?_
 refine ret1 ha rfl ?_
 exact ⟨_,rfl,by rw [decide_eq_true_iff]; exact hr,hs.sub⟩
end
end Go.Proofs.YtagpkhbkdbaigaaGreat
