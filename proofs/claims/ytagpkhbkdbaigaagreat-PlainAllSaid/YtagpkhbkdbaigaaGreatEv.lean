/- What happened: event.Of, Raw. -/
import Derived.Test.YtagpkhbkdbaigaaGreatCoQ
import Derived.Test.YtagpkhbkdbaigaaGreatVm
namespace Go.Proofs.YtagpkhbkdbaigaaGreat
open Go.RowKit
set_option linter.unusedVariables false
set_option linter.unusedSimpArgs false
set_option maxRecDepth 10000
set_option synthInstance.maxSize 4000
set_option synthInstance.maxHeartbeats 400000
def isFace : TypeDesc→Bool | .interface _=>true | _=>false
section
variable {P : Program} {a : Act} {w : World} {n : Nat} {l : List (Nat × Value)} {v : Value}
theorem ex_assertT {x t xT dd dst ty ps af g} (ha : Fr a n l) (ht : P.underlying t=some dd) (hd : isFace dd=false) [e : Ev l x (.iface t v)] :
   (execOp a.eval ⟨dst,.typeAssert x xT t true,ty,ps,af,g⟩).run P w=.ok (.value (.tuple #[v,.bool true])) w:=by
 cases dd <;> first | (simp [isFace] at hd) | skip
 all_goals simp [execOp,e.ev a n ha,Instr.typeAssert,run_underlying ht]
theorem ex_assertF {x t t' xT dd dst z sz by' ty ps af g} (ha : Fr a n l) (ht : P.underlying t=some dd) (hd : isFace dd=false) (hi : TI P t z sz by') (hn : Nat.beq t' t=false) [e : Ev l x (.iface t' v)] :
   (execOp a.eval ⟨dst,.typeAssert x xT t true,ty,ps,af,g⟩).run P w=.ok (.value (.tuple #[z,.bool false])) w:=by
 have hne : ¬ t'=t:=fun h=>by rw [h,Nat.beq_refl] at hn; cases hn
 cases dd <;> first | (simp [isFace] at hd) | skip
 all_goals simp [execOp,e.ev a n ha,Instr.typeAssert,run_underlying ht,run_zero hi,hne]
end
abbrev Evt:=Nat × Nat × Nat
def evOk (e : Evt) : Prop:=e.1≤3∧1≤e.1∧e.2.1 < 8∧e.2.2≤1000∧(e.1=3∨e.2.2=0)
def evV (e : Evt) : Value:=if e.1=1 then .iface 212 (.agg #[.int .i64 e.2.1]) else if e.1=2 then .iface 213 (.agg #[.int .i64 e.2.1]) else .iface 215 (.agg #[.int .i64 e.2.1,.int .i64 e.2.2])
theorem evV_one (e : Evt) : (evV e).oneCell'=true:=by
 unfold evV
 split
 · rfl
 · split <;> rfl
instance {e : Evt} : Cells (evV e) [evV e]:=⟨by
 unfold evV
 split
 · rfl
 · split <;> rfl⟩
def rawC (e : Evt) : List Value:=[.int .i64 e.1,.int .i64 e.2.1,.int .i64 e.2.2]
theorem rawC_len (e : Evt) : (rawC e).length=3:=rfl
theorem rawC_one (e : Evt) : ∀ v∈rawC e,v.oneCell'=true:=by
 intro v hv
 simp [rawC] at hv
 rcases hv with rfl | rfl | rfl <;> rfl
section
variable {W w : World} {L L' R : List SP} {e : Evt}
theorem event_of (hs : St W w L) (h : evOk e) : Calls Tryz.prog 133 #[.agg (rawC e).toArray] w fun r w'=>r=.returned (.tuple #[.agg #[evV e],.bool true])∧St W w' L:=by
 obtain ⟨h1,h2,h3,h4,h5⟩:=h
 refine calls_enter Tryz.func133 rfl Tryz.ntmps133 (Nat.le_of_ble_eq_true rfl) ?_
 intro a ha
 replace ha : Fr a 59 [(0,_)]:=ha
 refine WS<|WR ?_
 refine SK (st_box ha rfl hs rfl fun b1 a w ha hs ho=>?_)
 clear ho
 change St W w (blk b1 144 (rawC e)::_) at hs
 refine SK (st_alloc ha rfl hs Ty.t184 rfl fun b2 a w ha hs ho=>?_)
 clear ho
 refine S1 ha fun a ha=>?_
 refine LN<|TN<|WS<|WS<|WR ?_
 refine S1 ha fun a ha=>?_
 refine SL ha (hs.rd1 rfl) fun a ha=>?_
 iterate 2 (refine S1 ha fun a ha=>?_)
 rw [decide_eq_false (by omega)] at ha
 refine S1g (s:=7) ha fun a ha=>?_
 refine SLg (s:=7) ha (hs.rd1 rfl) fun a ha=>?_
 refine S1g (s:=7) ha fun a ha=>?_
 refine PF ha fun a ha=>?_
 refine S1 ha fun a ha=>?_
 rw [decide_eq_false (by omega)] at ha
 refine S1g (s:=12) ha fun a ha=>?_
 refine SLg (s:=12) ha (hs.rd1 rfl) fun a ha=>?_
 refine S1g (s:=12) ha fun a ha=>?_
 refine PF ha fun a ha=>?_
 refine S1 ha fun a ha=>?_
 rw [decide_eq_false (by omega)] at ha
 refine S1g (s:=17) ha fun a ha=>?_
 refine SLg (s:=17) ha (hs.rd1 rfl) fun a ha=>?_
 refine S1g (s:=17) ha fun a ha=>?_
 refine PF ha fun a ha=>?_
 refine S1 ha fun a ha=>?_
 rw [decide_eq_false (by omega)] at ha
 refine S1g (s:=22) ha fun a ha=>?_
 refine SLg (s:=22) ha (hs.rd1 rfl) fun a ha=>?_
 iterate 2 (refine S1g (s:=22) ha fun a ha=>?_)
 refine ha.by (s:=26) (fun hg22 ha=>?_) (fun hg22 ha=>?_)
 ·
  refine S1g (s:=26) ha fun a ha=>?_
  refine SLg (s:=26) ha (hs.rd1 rfl) fun a ha=>?_
  refine S1g (s:=26) ha fun a ha=>?_
  refine PTg (s:=22) ha fun a ha=>?_
  refine PF ha fun a ha=>?_
  refine LN<|TN ?_
  rw [decide_eq_false (by omega)] at ha
  refine WFa ha<|WK<|TN<|WS<|WS<|WR ?_
  refine S1 ha fun a ha=>?_
  refine SL ha (hs.rd1 rfl) fun a ha=>?_
  refine LN<|TN<|wp_block<|WS<|WR ?_
  iterate 2 (refine S1 ha fun a ha=>?_)
  refine LN<|TN ?_
  refine WI ha (fun hc1=>?_) (fun hc1=>?_)
  ·
   refine WS<|WR ?_
   refine S1 ha fun a ha=>?_
   refine SL ha (hs.rd1 rfl) fun a ha=>?_
   refine SK (st_set ha rfl (ex_build ha Ty.b212 Ty.t212 rfl) rfl fun a ha=>?_)
   refine SK (st_set ha rfl (ex_makeI ha Tryz.underlying212 rfl) rfl fun a ha=>?_)
   refine SK (st_set ha rfl (ex_build ha Ty.b184 Ty.t184 rfl) rfl fun a ha=>?_)
   refine SK (st_storeAll ha rfl hs Ty.t184 (by simp [Value.oneCell']) (by rfl) fun a w ha hs=>?_)
   refine S1d ha fun a ha=>?_
   refine LN<|TN<|wp_ret<|BR<|TR ?_
   refine retC2 ha rfl (run_loadN Tryz.underlying184 rfl Ty.t184 (hs.rdAll)) ?_
   exact ⟨by rw [evV,if_pos (by omega)],hs.sub⟩
  ·
   refine WS<|WR ?_
   iterate 2 (refine S1 ha fun a ha=>?_)
   refine LN<|TN ?_
   refine WI ha (fun hc2=>?_) (fun hc2=>?_)
   ·
    refine WS<|WR ?_
    refine S1 ha fun a ha=>?_
    refine SL ha (hs.rd1 rfl) fun a ha=>?_
    refine SK (st_set ha rfl (ex_build ha Ty.b213 Ty.t213 rfl) rfl fun a ha=>?_)
    refine SK (st_set ha rfl (ex_makeI ha Tryz.underlying213 rfl) rfl fun a ha=>?_)
    refine SK (st_set ha rfl (ex_build ha Ty.b184 Ty.t184 rfl) rfl fun a ha=>?_)
    refine SK (st_storeAll ha rfl hs Ty.t184 (by simp [Value.oneCell']) (by rfl) fun a w ha hs=>?_)
    refine S1d ha fun a ha=>?_
    refine LN<|TN<|wp_ret<|BR<|TR ?_
    refine retC2 ha rfl (run_loadN Tryz.underlying184 rfl Ty.t184 (hs.rdAll)) ?_
    exact ⟨by rw [evV,if_neg (by omega),if_pos (by omega)],hs.sub⟩
   ·
    refine WS<|WR ?_
    iterate 2 (refine S1 ha fun a ha=>?_)
    refine LN<|TN ?_
    refine WI ha (fun hc3=>?_) (fun hc3=>?_)
    ·
     refine WS<|WR ?_
     refine S1 ha fun a ha=>?_
     refine SL ha (hs.rd1 rfl) fun a ha=>?_
     refine S1 ha fun a ha=>?_
     refine SL ha (hs.rd1 rfl) fun a ha=>?_
     refine SK (st_set ha rfl (ex_build ha Ty.b215 Ty.t215 rfl) rfl fun a ha=>?_)
     refine SK (st_set ha rfl (ex_makeI ha Tryz.underlying215 rfl) rfl fun a ha=>?_)
     refine SK (st_set ha rfl (ex_build ha Ty.b184 Ty.t184 rfl) rfl fun a ha=>?_)
     refine SK (st_storeAll ha rfl hs Ty.t184 (by simp [Value.oneCell']) (by rfl) fun a w ha hs=>?_)
     refine S1d ha fun a ha=>?_
     refine LN<|TN<|wp_ret<|BR<|TR ?_
     refine retC2 ha rfl (run_loadN Tryz.underlying184 rfl Ty.t184 (hs.rdAll)) ?_
     exact ⟨by rw [evV,if_neg (by omega),if_neg (by omega)],hs.sub⟩
    ·
     exfalso; omega
 ·
  iterate 3 (refine SO (s:=26) ha fun a ha=>?_)
  refine PFg (s:=22) ha fun a ha=>?_
  refine PF ha fun a ha=>?_
  refine LN<|TN<|WFa ha<|WK<|TN<|WS<|WS<|WR ?_
  refine S1 ha fun a ha=>?_
  refine SL ha (hs.rd1 rfl) fun a ha=>?_
  refine LN<|TN<|wp_block<|WS<|WR ?_
  iterate 2 (refine S1 ha fun a ha=>?_)
  refine LN<|TN ?_
  refine WI ha (fun hc1=>?_) (fun hc1=>?_)
  ·
   refine WS<|WR ?_
   refine S1 ha fun a ha=>?_
   refine SL ha (hs.rd1 rfl) fun a ha=>?_
   refine SK (st_set ha rfl (ex_build ha Ty.b212 Ty.t212 rfl) rfl fun a ha=>?_)
   refine SK (st_set ha rfl (ex_makeI ha Tryz.underlying212 rfl) rfl fun a ha=>?_)
   refine SK (st_set ha rfl (ex_build ha Ty.b184 Ty.t184 rfl) rfl fun a ha=>?_)
   refine SK (st_storeAll ha rfl hs Ty.t184 (by simp [Value.oneCell']) (by rfl) fun a w ha hs=>?_)
   refine S1d ha fun a ha=>?_
   refine LN<|TN<|wp_ret<|BR<|TR ?_
   refine retC2 ha rfl (run_loadN Tryz.underlying184 rfl Ty.t184 (hs.rdAll)) ?_
   exact ⟨by rw [evV,if_pos (by omega)],hs.sub⟩
  ·
   refine WS<|WR ?_
   iterate 2 (refine S1 ha fun a ha=>?_)
   refine LN<|TN ?_
   refine WI ha (fun hc2=>?_) (fun hc2=>?_)
   ·
    refine WS<|WR ?_
    refine S1 ha fun a ha=>?_
    refine SL ha (hs.rd1 rfl) fun a ha=>?_
    refine SK (st_set ha rfl (ex_build ha Ty.b213 Ty.t213 rfl) rfl fun a ha=>?_)
    refine SK (st_set ha rfl (ex_makeI ha Tryz.underlying213 rfl) rfl fun a ha=>?_)
    refine SK (st_set ha rfl (ex_build ha Ty.b184 Ty.t184 rfl) rfl fun a ha=>?_)
    refine SK (st_storeAll ha rfl hs Ty.t184 (by simp [Value.oneCell']) (by rfl) fun a w ha hs=>?_)
    refine S1d ha fun a ha=>?_
    refine LN<|TN<|wp_ret<|BR<|TR ?_
    refine retC2 ha rfl (run_loadN Tryz.underlying184 rfl Ty.t184 (hs.rdAll)) ?_
    exact ⟨by rw [evV,if_neg (by omega),if_pos (by omega)],hs.sub⟩
   ·
    refine WS<|WR ?_
    iterate 2 (refine S1 ha fun a ha=>?_)
    refine LN<|TN ?_
    refine WI ha (fun hc3=>?_) (fun hc3=>?_)
    ·
     refine WS<|WR ?_
     refine S1 ha fun a ha=>?_
     refine SL ha (hs.rd1 rfl) fun a ha=>?_
     refine S1 ha fun a ha=>?_
     refine SL ha (hs.rd1 rfl) fun a ha=>?_
     refine SK (st_set ha rfl (ex_build ha Ty.b215 Ty.t215 rfl) rfl fun a ha=>?_)
     refine SK (st_set ha rfl (ex_makeI ha Tryz.underlying215 rfl) rfl fun a ha=>?_)
     refine SK (st_set ha rfl (ex_build ha Ty.b184 Ty.t184 rfl) rfl fun a ha=>?_)
     refine SK (st_storeAll ha rfl hs Ty.t184 (by simp [Value.oneCell']) (by rfl) fun a w ha hs=>?_)
     refine S1d ha fun a ha=>?_
     refine LN<|TN<|wp_ret<|BR<|TR ?_
     refine retC2 ha rfl (run_loadN Tryz.underlying184 rfl Ty.t184 (hs.rdAll)) ?_
     exact ⟨by rw [evV,if_neg (by omega),if_neg (by omega)],hs.sub⟩
    ·
     exfalso; omega
theorem event_raw1 (hs : St W w L) (h : evOk e) (hk : e.1=1) : Calls Tryz.prog 119 #[.agg #[evV e]] w fun r w'=>r=.returned (.agg (rawC e).toArray)∧St W w' L:=by
 have he : evV e=.iface 212 (.agg #[.int .i64 e.2.1]):=by rw [evV,if_pos hk]
 have hz : e.2.2=0:=by have:=h.2.2.2.2; omega
 rw [he]
 refine calls_enter Tryz.func119 rfl Tryz.ntmps119 (Nat.le_of_ble_eq_true rfl) ?_
 intro a ha
 replace ha : Fr a 29 [(0,_)]:=ha
 refine WS<|WR ?_
 refine SK (st_box ha rfl hs rfl fun b1 a w ha hs ho=>?_)
 clear ho
 refine SK (st_alloc ha rfl hs Ty.t144 rfl fun b2 a w ha hs ho=>?_)
 clear ho
 refine LN<|TN<|WS<|WS<|WR ?_
 refine S1 ha fun a ha=>?_
 refine SL ha (hs.rd1 rfl) fun a ha=>?_
 refine LN<|TN<|wp_block<|WS<|WR ?_
 refine SK (st_set ha rfl (ex_assertT ha Tryz.underlying212 rfl) rfl fun a ha=>?_)
 iterate 2 (refine S1 ha fun a ha=>?_)
 refine LN<|TN<|WTr ha<|WS<|WR ?_
 refine SK (st_alloc ha rfl hs Ty.t212 rfl fun b3 a w ha hs ho=>?_)
 clear ho
 skip
 refine SK (st_storeAll ha rfl hs Ty.t212 (by simp [Value.oneCell']) (by rfl) fun a w ha hs=>?_)
 refine LN<|TN<|WS<|WR ?_
 refine S1 ha fun a ha=>?_
 refine SL ha (hs.rd1 rfl) fun a ha=>?_
 refine SK (st_set ha rfl (ex_build ha Ty.b144 Ty.t144 rfl) rfl fun a ha=>?_)
 refine SK (st_storeAll ha rfl hs Ty.t144 (by simp [Value.oneCell']) (by rfl) fun a w ha hs=>?_)
 refine LN<|TN<|wp_ret<|BR<|TR ?_
 refine retC1 ha rfl (run_loadN Tryz.underlying144 rfl Ty.t144 (hs.rdAll)) ?_
 exact ⟨by rw [rawC,hk,hz]; rfl,hs.sub⟩
theorem event_raw2 (hs : St W w L) (h : evOk e) (hk : e.1=2) : Calls Tryz.prog 119 #[.agg #[evV e]] w fun r w'=>r=.returned (.agg (rawC e).toArray)∧St W w' L:=by
 have he : evV e=.iface 213 (.agg #[.int .i64 e.2.1]):=by rw [evV,if_neg (by omega),if_pos hk]
 have hz : e.2.2=0:=by have:=h.2.2.2.2; omega
 rw [he]
 refine calls_enter Tryz.func119 rfl Tryz.ntmps119 (Nat.le_of_ble_eq_true rfl) ?_
 intro a ha
 replace ha : Fr a 29 [(0,_)]:=ha
 refine WS<|WR ?_
 refine SK (st_box ha rfl hs rfl fun b1 a w ha hs ho=>?_)
 clear ho
 refine SK (st_alloc ha rfl hs Ty.t144 rfl fun b2 a w ha hs ho=>?_)
 clear ho
 refine LN<|TN<|WS<|WS<|WR ?_
 refine S1 ha fun a ha=>?_
 refine SL ha (hs.rd1 rfl) fun a ha=>?_
 refine LN<|TN<|wp_block<|WS<|WR ?_
 refine SK (st_set ha rfl (ex_assertF ha Tryz.underlying212 rfl Ty.t212 rfl) rfl fun a ha=>?_)
 iterate 2 (refine S1 ha fun a ha=>?_)
 refine LN<|TN<|WFa ha<|WS<|WR ?_
 refine SK (st_set ha rfl (ex_assertT ha Tryz.underlying213 rfl) rfl fun a ha=>?_)
 iterate 2 (refine S1 ha fun a ha=>?_)
 refine LN<|TN<|WTr ha<|WS<|WR ?_
 refine SK (st_alloc ha rfl hs Ty.t213 rfl fun b4 a w ha hs ho=>?_)
 clear ho
 refine SK (st_storeAll ha rfl hs Ty.t213 (by simp [Value.oneCell']) (by rfl) fun a w ha hs=>?_)
 refine LN<|TN<|WS<|WR ?_
 refine S1 ha fun a ha=>?_
 refine SL ha (hs.rd1 rfl) fun a ha=>?_
 refine SK (st_set ha rfl (ex_build ha Ty.b144 Ty.t144 rfl) rfl fun a ha=>?_)
 refine SK (st_storeAll ha rfl hs Ty.t144 (by simp [Value.oneCell']) (by rfl) fun a w ha hs=>?_)
 refine LN<|TN<|wp_ret<|BR<|TR ?_
 refine retC1 ha rfl (run_loadN Tryz.underlying144 rfl Ty.t144 (hs.rdAll)) ?_
 exact ⟨by rw [rawC,hk,hz]; rfl,hs.sub⟩
theorem event_raw3 (hs : St W w L) (h : evOk e) (hk : e.1=3) : Calls Tryz.prog 119 #[.agg #[evV e]] w fun r w'=>r=.returned (.agg (rawC e).toArray)∧St W w' L:=by
 have he : evV e=.iface 215 (.agg #[.int .i64 e.2.1,.int .i64 e.2.2]):=by rw [evV,if_neg (by omega),if_neg (by omega)]
 rw [he]
 refine calls_enter Tryz.func119 rfl Tryz.ntmps119 (Nat.le_of_ble_eq_true rfl) ?_
 intro a ha
 replace ha : Fr a 29 [(0,_)]:=ha
 refine WS<|WR ?_
 refine SK (st_box ha rfl hs rfl fun b1 a w ha hs ho=>?_)
 clear ho
 refine SK (st_alloc ha rfl hs Ty.t144 rfl fun b2 a w ha hs ho=>?_)
 clear ho
 refine LN<|TN<|WS<|WS<|WR ?_
 refine S1 ha fun a ha=>?_
 refine SL ha (hs.rd1 rfl) fun a ha=>?_
 refine LN<|TN<|wp_block<|WS<|WR ?_
 refine SK (st_set ha rfl (ex_assertF ha Tryz.underlying212 rfl Ty.t212 rfl) rfl fun a ha=>?_)
 iterate 2 (refine S1 ha fun a ha=>?_)
 refine LN<|TN<|WFa ha<|WS<|WR ?_
 refine SK (st_set ha rfl (ex_assertF ha Tryz.underlying213 rfl Ty.t213 rfl) rfl fun a ha=>?_)
 iterate 2 (refine S1 ha fun a ha=>?_)
 refine LN<|TN<|WFa ha<|WS<|WR ?_
 refine SK (st_set ha rfl (ex_assertT ha Tryz.underlying215 rfl) rfl fun a ha=>?_)
 iterate 2 (refine S1 ha fun a ha=>?_)
 refine LN<|TN<|WTr ha<|WS<|WR ?_
 refine SK (st_alloc ha rfl hs Ty.t215 rfl fun b5 a w ha hs ho=>?_)
 clear ho
 refine SK (st_storeAll ha rfl hs Ty.t215 (by simp [Value.oneCell']) (by rfl) fun a w ha hs=>?_)
 refine LN<|TN<|WS<|WR ?_
 refine S1 ha fun a ha=>?_
 refine SL ha (hs.rd1 rfl) fun a ha=>?_
 refine S1 ha fun a ha=>?_
 refine SL ha (hs.rd1 rfl) fun a ha=>?_
 refine SK (st_set ha rfl (ex_build ha Ty.b144 Ty.t144 rfl) rfl fun a ha=>?_)
 refine SK (st_storeAll ha rfl hs Ty.t144 (by simp [Value.oneCell']) (by rfl) fun a w ha hs=>?_)
 refine LN<|TN<|wp_ret<|BR<|TR ?_
 refine retC1 ha rfl (run_loadN Tryz.underlying144 rfl Ty.t144 (hs.rdAll)) ?_
 exact ⟨by rw [rawC,hk]; rfl,hs.sub⟩
theorem event_raw (hs : St W w L) (h : evOk e) : Calls Tryz.prog 119 #[.agg #[evV e]] w fun r w'=>r=.returned (.agg (rawC e).toArray)∧St W w' L:=by
 have h1:=h.1
 have h2:=h.2.1
 by_cases k1 : e.1=1
 · exact event_raw1 hs h k1
 · by_cases k2 : e.1=2
   · exact event_raw2 hs h k2
   · exact event_raw3 hs h (by omega)
end
end Go.Proofs.YtagpkhbkdbaigaaGreat
