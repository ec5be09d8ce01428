/- quintainlaw21.Mails, Raws; quintainref21.EqMails, EqRaws; quintainref12.EqRaw. -/
import Derived.Test.YtagpkhbkdbaigaaGreatBeg
namespace Go.Proofs.YtagpkhbkdbaigaaGreat
open Go.RowKit
set_option linter.unusedVariables false
set_option linter.unusedSimpArgs false
set_option maxRecDepth 10000
set_option synthInstance.maxSize 4000
set_option synthInstance.maxHeartbeats 400000
section
variable {W w : World} {L L' R : List SP} {n c c' m i : Nat} {ad ad' : Option Addr} {l : List Ml} {ev : List (Nat × Nat × Nat)} {e : Evt}
theorem mails_spec (hs : St W w (OwnMl 172 ad n c l::L)) (hn : n≤1000) : Calls Tryz.prog 71 #[.slice ad n c] w fun r w'=>∃ ad' c',r=.returned (.slice ad' n c')∧St W w' (OwnMl 176 ad' n c' l::L):=by
 obtain ⟨xs,hxm,hxl,hs⟩:=OwnMl.open hs
 have hxs : xs.length=n:=by rw [← hxl,← hxm,List.length_map]
 subst hxs
 refine calls_enter Tryz.func71 rfl Tryz.ntmps71 (Nat.le_of_ble_eq_true rfl) ?_
 intro a ha
 replace ha : Fr a 31 [(0,_)]:=ha
 refine WS<|WR ?_
 refine S1 ha fun a ha=>?_
 refine LN<|TN<|WS<|WR ?_
 refine S1 ha fun a ha=>?_
 refine LN<|TN<|WS<|WS<|WR ?_
 refine S1 ha fun a ha=>?_
 refine LN ?_
 replace hs:=hs.sl0 176 3 none
 refine TN<|wp_block ?_
 refine wp_loop_ghost (fun μ a w=>∃ (i : Nat) (ado : Option Addr) (co : Nat),(μ=xs.length - i∧i≤xs.length)∧Fr a 31 [(0,.slice ad xs.length c),(3,.slice ado i co),(4,.int .i64 i)]∧St W w (Sl 176 3 ado i co (rows mlC (xs.take i))::Sl 172 3 ad xs.length c (rows mlC xs)::All mlo xs::L)) (xs.length) ?_ ?_
 · exact ⟨0,none,0,⟨rfl,by omega⟩,ha.keep [0,3,4],(show St W w (Sl 176 3 none 0 0 (rows mlC (xs.take 0))::_) from hs).sub⟩
 ·
  clear ha hs
  rintro μ a w ⟨i,ado,co,⟨rfl,hi⟩,ha,hs⟩
  refine WS<|WS<|WR ?_
  iterate 4 (refine S1 ha fun a ha=>?_)
  refine LN<|TN ?_
  refine WI ha (fun hc0=>?_) (fun hc0=>?_)
  ·
   have hil : i < xs.length:=by omega
   refine WK<|TN<|WS<|wp_block ?_
   obtain ⟨bi,oi,rfl,hri⟩:=(hs.drew.pick (Sl 172 3 ad xs.length c (rows mlC xs))).slRd ad (by omega)
   have hrp:=rows_part mlC_len hri (List.getElem?_eq_getElem hil)
   generalize hxi : xs[i]=x at hrp
   refine DW (m:=20) (Old w.drew) [10,15] [0,1,2,3,4,6,7,8,9,11,12,13,14,5,10,15,16,17,18,19] Ty.mixed (pk_blk (pk_then (pk_then (pk_blk (pk_then pk_body))))) (fun hpk=>?_)
   replace hs:=hs.drew
   have hC:=Old.refl w.drew
   generalize w.drew=w at hs hC hpk hrp ⊢
   iterate 3 (refine DP hpk ha rfl fun a ha=>?_)
   refine DQ hpk ha rfl rfl (fun w=>ex_indexAddr ha Tryz.underlying65 Ty.t172 (by omega)) fun a ha=>?_
   iterate 3 (refine DP hpk ha rfl fun a ha=>?_)
   refine DQ hpk ha rfl rfl (fun w=>ex_indexAddr ha Tryz.underlying65 Ty.t172 (by omega)) fun a ha=>?_
   iterate 3 (refine DP hpk ha rfl fun a ha=>?_)
   refine DQ hpk ha rfl rfl (fun w=>ex_indexAddr ha Tryz.underlying65 Ty.t172 (by omega)) fun a ha=>?_
   refine DP hpk ha rfl fun a ha=>?_
   refine DL hpk ha rfl (fun w hc=>hc.cell (hrp 0 (.int .i64 x.2.2.1) rfl)) hC fun a ha=>?_
   refine DL hpk ha rfl (fun w hc=>hc.cell (hrp 1 (.int .i64 x.2.2.2.1) rfl)) hC fun a ha=>?_
   refine D1 rfl (st_set ha rfl (ex_load1 ha Tryz.underlying22 rfl (hrp 2 (.slice x.1 x.2.2.2.2.length x.2.1) rfl)) rfl fun a ha=>?_)
   refine ⟨fun _=>hC,?_⟩
   refine DQ hpk ha rfl rfl (fun w=>ex_build ha Ty.b176 Ty.t176 rfl) fun a ha=>?_
   refine D1 rfl (st_buildSlice ha rfl hs Tryz.underlying119 Ty.t176 rfl rfl rfl rfl (by decide) (by decide) fun b28 a w ha hs ho=>?_)
   (try replace hC:=hC.trans ho); clear ho
   refine ⟨fun h=>absurd h (by decide),?_⟩
   refine D1 rfl (st_append ha rfl hs Tryz.underlying119 Ty.t176 rfl rfl hs.rdAll rfl (by simp [Value.oneCell']) (by decide) (by decide) (by omega) fun ad29 c29 a w ha hs=>?_)
   refine ⟨fun h=>absurd h (by decide),?_⟩
   rw [show rows mlC (xs.take i)++_=rows mlC (xs.take (i+1)) from by rw [← List.take_append_getElem hil,rows_app,hxi]; rfl] at hs
   replace ha:=ha.del 3
   refine DP hpk ha rfl fun a ha=>?_
   refine DD<|BN<|TN<|WR ?_
   refine S1 ha fun a ha=>?_
   refine SK (st_set ha rfl (ex_addI ha (by omega) (by omega)) rfl fun a ha=>?_)
   refine S1d ha fun a ha=>?_
   refine LN<|TN ?_
   exact ⟨xs.length - (i+1),by omega,i+1,ad29,c29,⟨rfl,by omega⟩,ha.keep [0,3,4],hs.sub⟩
  ·
   refine wp_exit<|TE<|TE<|blk_e<|TN<|WS<|WR ?_
   iterate 2 (refine S1 ha fun a ha=>?_)
   refine LN<|TN<|wp_ret ?_
   refine ret1 ha rfl ?_
   obtain rfl : i=xs.length:=by omega
   rw [List.take_length] at hs
   exact ⟨ado,co,rfl,OwnMl.close (hs.sub (M:=Sl 176 3 ado xs.length co (rows mlC xs)::All mlo xs::L)) hxm hxl⟩
theorem raws_spec (hs : St W w (Sl 184 1 ad ev.length c (ev.map evV)::L)) (hn : ev.length≤1000) (ho : ∀ e∈ev,evOk e) : Calls Tryz.prog 77 #[.slice ad ev.length c] w fun r w'=>∃ ad' c',r=.returned (.slice ad' ev.length c')∧St W w' (Sl 144 3 ad' ev.length c' (rows rawC ev)::L):=by
 refine calls_enter Tryz.func77 rfl Tryz.ntmps77 (Nat.le_of_ble_eq_true rfl) ?_
 intro a ha
 replace ha : Fr a 20 [(0,_)]:=ha
 refine WS<|WR ?_
 refine S1 ha fun a ha=>?_
 refine LN<|TN<|WS<|WR ?_
 refine S1 ha fun a ha=>?_
 refine LN<|TN<|WS<|WS<|WR ?_
 refine S1 ha fun a ha=>?_
 refine LN ?_
 replace hs:=hs.sl0 144 3 none
 refine TN<|wp_block ?_
 refine wp_loop_ghost (fun μ a w=>∃ (i : Nat) (ado : Option Addr) (co : Nat),(μ=ev.length - i∧i≤ev.length)∧Fr a 20 [(0,.slice ad ev.length c),(3,.slice ado i co),(4,.int .i64 i)]∧St W w (Sl 144 3 ado i co (rows rawC (ev.take i))::Sl 184 1 ad ev.length c (ev.map evV)::L)) (ev.length) ?_ ?_
 · exact ⟨0,none,0,⟨rfl,by omega⟩,ha.keep [0,3,4],(show St W w (Sl 144 3 none 0 0 (rows rawC (ev.take 0))::_) from hs).sub⟩
 ·
  clear ha hs
  rintro μ a w ⟨i,ado,co,⟨rfl,hi⟩,ha,hs⟩
  refine WS<|WS<|WR ?_
  iterate 4 (refine S1 ha fun a ha=>?_)
  refine LN<|TN ?_
  refine WI ha (fun hc0=>?_) (fun hc0=>?_)
  ·
   have hil : i < ev.length:=by omega
   obtain ⟨bi,oi,rfl,hri⟩:=(hs.pick (Sl 184 1 ad ev.length c (ev.map evV))).slRd ad (by omega)
   have hrp:=hri i (evV ev[i]) (by rw [List.getElem?_map,List.getElem?_eq_getElem hil]; rfl)
   have hoe:=ho _ (List.getElem_mem hil)
   generalize hxi : ev[i]=x at hrp hoe
   have hre : Rd w bi (oi+i) [evV x]:=by
     intro k v hk
     cases k with
     | zero=>simp at hk; subst hk; exact hrp
     | succ k=>simp at hk
   refine WK<|TN<|WS<|wp_block<|WR ?_
   iterate 3 (refine S1 ha fun a ha=>?_)
   refine SK (st_set ha rfl (ex_indexAddr ha Tryz.underlying67 Ty.t184 (by omega)) rfl fun a ha=>?_)
   rw [Nat.mul_one] at ha
   refine SK (st_set ha rfl (ex_loadN ha Tryz.underlying184 rfl Ty.t184 (hre)) rfl fun a ha=>?_)
   refine SK (st_call ha rfl Ty.c119 rfl (event_raw hs hoe) ?_); clear ha hs
   rintro e w ⟨rfl,hs⟩
   refine ⟨_,rfl,?_⟩
   intro a ha
   refine SK (st_buildSlice ha rfl hs Tryz.underlying125 Ty.t144 rfl rfl rfl rfl (by decide) (by decide) fun b17 a w ha hs ho=>?_)
   clear ho
   refine SK (st_append ha rfl hs Tryz.underlying125 Ty.t144 rfl rfl hs.rdAll rfl (fun v hv=>rawC_one x v (by simpa using hv)) (by decide) (by decide) (by omega) fun ad18 c18 a w ha hs=>?_)
   rw [show rows rawC (ev.take i)++_=rows rawC (ev.take (i+1)) from by rw [← List.take_append_getElem hil,rows_app,hxi]; rfl] at hs
   refine S1d ha fun a ha=>?_
   refine LN<|BN<|TN<|WR ?_
   refine S1 ha fun a ha=>?_
   refine SK (st_set ha rfl (ex_addI ha (by omega) (by omega)) rfl fun a ha=>?_)
   refine S1d ha fun a ha=>?_
   refine LN<|TN ?_
   exact ⟨ev.length - (i+1),by omega,i+1,ad18,c18,⟨rfl,by omega⟩,ha.keep [0,3,4],hs.sub⟩
  ·
   refine wp_exit<|TE<|TE<|blk_e<|TN<|WS<|WR ?_
   iterate 2 (refine S1 ha fun a ha=>?_)
   refine LN<|TN<|wp_ret ?_
   refine ret1 ha rfl ?_
   obtain rfl : i=ev.length:=by omega
   rw [List.take_length] at hs
   exact ⟨ado,co,rfl,hs.sub⟩
theorem eqMails_spec (hs : St W w (OwnMl 176 ad n c l::OwnMl 176 ad' n c' l::L)) (hn : n≤1000) : Calls Tryz.prog 70 #[.slice ad n c,.slice ad' n c'] w fun r w'=>r=.returned (.bool true)∧St W w' L:=by
 obtain ⟨xs,hxm,hxl,hs⟩:=OwnMl.open hs
 obtain ⟨ys,hym,hyl,hs⟩:=OwnMl.open (hs.pick (OwnMl 176 ad' n c' l))
 have hxs : xs.length=n:=by rw [← hxl,← hxm,List.length_map]
 have hys : ys.length=n:=by rw [← hyl,← hym,List.length_map]
 refine calls_enter Tryz.func70 rfl Tryz.ntmps70 (Nat.le_of_ble_eq_true rfl) ?_
 intro a ha
 replace ha : Fr a 56 [(0,_),(1,_)]:=ha
 refine WS<|WR ?_
 refine S1 ha fun a ha=>?_
 refine LN<|TN<|WS<|WS<|WR ?_
 iterate 5 (refine S1 ha fun a ha=>?_)
 refine LN<|TN ?_
 rw [decide_eq_false (by omega)] at ha
 refine WFa ha<|WK<|TN<|WS<|WS<|WR ?_
 refine S1 ha fun a ha=>?_
 refine LN<|TN<|wp_block ?_
 refine wp_loop_ghost (fun μ a w=>∃ (i : Nat),(μ=n - i∧i≤n)∧Fr a 56 [(0,.slice ad n c),(1,.slice ad' n c'),(5,.int .i64 i)]∧St W w (Sl 176 3 ad' n c' (rows mlC ys)::All mlo ys::Sl 176 3 ad n c (rows mlC xs)::All mlo xs::L)) (n) ?_ ?_
 · exact ⟨0,⟨rfl,by omega⟩,ha.keep [0,1,5],hs.sub⟩
 ·
  clear ha hs
  rintro μ a w ⟨i,⟨rfl,hi⟩,ha,hs⟩
  refine WS<|WS<|WR ?_
  iterate 4 (refine S1 ha fun a ha=>?_)
  refine LN<|TN ?_
  refine WI ha (fun hc1=>?_) (fun hc1=>?_)
  ·
   have hil : i < xs.length:=by omega
   have hjl : i < ys.length:=by omega
   obtain ⟨m,hm⟩ : ∃ m,m=xs[i].2.2:=⟨_,rfl⟩
   obtain ⟨xa,xc,hx⟩ : ∃ a c,xs[i]=(a,c,m):=⟨xs[i].1,xs[i].2.1,by rw [hm]⟩
   obtain ⟨ya,yc,hy⟩ : ∃ a c,ys[i]=(a,c,m):=⟨ys[i].1,ys[i].2.1,by
     have h1 : (xs.map (·.2.2))[i]?=(ys.map (·.2.2))[i]?:=by rw [hxm,hym]
     rw [List.getElem?_map,List.getElem?_map,List.getElem?_eq_getElem hil,List.getElem?_eq_getElem hjl] at h1
     have h2 : xs[i].2.2=ys[i].2.2:=by simpa using h1
     rw [hm,h2]⟩
   refine WK<|TN<|WS<|wp_block<|WS ?_
   have hbx : RdB w.drew xa m.2.2.length m.2.2:=by
     have h1:=(hs.drew.pick (All mlo xs)).allOut hil
     rw [hx] at h1
     exact St.rdB (L:=mlo (xa,xc,m)::_) h1 _ _ (k:=(PickSl.head : PickSl (Sl 5 1 xa m.2.2.length xc (bc m.2.2)::_) xa _ _ _ _ _ _)) rfl rfl
   have hby : RdB w.drew ya m.2.2.length m.2.2:=by
     have h1:=(hs.drew.pick (All mlo ys)).allOut hjl
     rw [hy] at h1
     exact St.rdB (L:=mlo (ya,yc,m)::_) h1 _ _ (k:=(PickSl.head : PickSl (Sl 5 1 ya m.2.2.length yc (bc m.2.2)::_) ya _ _ _ _ _ _)) rfl rfl
   obtain ⟨bx,ox,rfl,hrx⟩:=(hs.drew.pick (Sl 176 3 ad n c (rows mlC xs))).slRd ad (by omega)
   obtain ⟨bY,oY,rfl,hry⟩:=(hs.drew.pick (Sl 176 3 ad' n c' (rows mlC ys))).slRd ad' (by omega)
   replace hrx:=rows_part mlC_len hrx (List.getElem?_eq_getElem hil)
   replace hry:=rows_part mlC_len hry (List.getElem?_eq_getElem hjl)
   rw [hx] at hrx
   rw [hy] at hry
   refine DW (m:=39) (fun w'=>(Rd w' bx (ox+i*3) (mlC (xa,xc,m))∧Rd w' bY (oY+i*3) (mlC (ya,yc,m)))∧RdB w' xa m.2.2.length m.2.2∧RdB w' ya m.2.2.length m.2.2) [9,21,35,36] [0,1,2,3,5,6,7,8,4,9,10,11,12,13,14,15,17,18,19,20,16,21,22,23,24,25,26,27,28,31,32,33,34,29,30,35,36,37,38] Ty.mixed (pk_then (pk_blk (pk_then (pk_then (pk_blk (pk_then pk_body)))))) (fun hpk=>?_)
   replace hs:=hs.drew
   generalize w.drew=w at hs hpk hrx hry hbx hby ⊢
   have hC : (Rd w bx (ox+i*3) (mlC (xa,xc,m))∧Rd w bY (oY+i*3) (mlC (ya,yc,m)))∧RdB w xa m.2.2.length m.2.2∧RdB w ya m.2.2.length m.2.2:=⟨⟨hrx,hry⟩,hbx,hby⟩
   iterate 2 (refine DP hpk ha rfl fun a ha=>?_)
   refine DQ hpk ha rfl rfl (fun w=>ex_indexAddr ha Tryz.underlying119 Ty.t176 (by omega)) fun a ha=>?_
   iterate 3 (refine DP hpk ha rfl fun a ha=>?_)
   refine DQ hpk ha rfl rfl (fun w=>ex_indexAddr ha Tryz.underlying119 Ty.t176 (by omega)) fun a ha=>?_
   refine DP hpk ha rfl fun a ha=>?_
   refine DL hpk ha rfl (fun w hc=>hc.1.1 0 (.int .i64 m.1) rfl) hC fun a ha=>?_
   refine D1 rfl (st_set ha rfl (ex_load1 ha Tryz.underlying3 rfl (hC.1.2 0 (.int .i64 m.1) rfl)) rfl fun a ha=>?_)
   replace hC : (fun w'=>(Rd w' bx (ox+i*3) (mlC (xa,xc,m))∧Rd w' bY (oY+i*3) (mlC (ya,yc,m)))∧RdB w' xa m.2.2.length m.2.2∧RdB w' ya m.2.2.length m.2.2) w:=hC
   refine ⟨fun _=>hC,?_⟩
   iterate 2 (refine DP hpk ha rfl fun a ha=>?_)
   rw [decide_eq_false (by omega)] at ha
   iterate 2 (refine DPg (s:=28) hpk ha rfl fun a ha=>?_)
   refine DQ hpk ha rfl (wgT ha rfl (s:=28)) (fun w=>ex_indexAddr ha Tryz.underlying119 Ty.t176 (by omega)) fun a ha=>?_
   iterate 3 (refine DPg (s:=28) hpk ha rfl fun a ha=>?_)
   refine DQ hpk ha rfl (wgT ha rfl (s:=28)) (fun w=>ex_indexAddr ha Tryz.underlying119 Ty.t176 (by omega)) fun a ha=>?_
   refine DPg (s:=28) hpk ha rfl fun a ha=>?_
   refine DH hpk ha rfl (wgT ha rfl (s:=28)) (fun w hc=>ex_load1 ha Tryz.underlying3 rfl (hc.1.1 1 (.int .i64 m.2.1) rfl)) hC fun a ha=>?_
   refine D1 rfl (st_set ha (wgT ha rfl (s:=28)) (ex_load1 ha Tryz.underlying3 rfl (hC.1.2 1 (.int .i64 m.2.1) rfl)) rfl fun a ha=>?_)
   replace hC : (fun w'=>(Rd w' bx (ox+i*3) (mlC (xa,xc,m))∧Rd w' bY (oY+i*3) (mlC (ya,yc,m)))∧RdB w' xa m.2.2.length m.2.2∧RdB w' ya m.2.2.length m.2.2) w:=hC
   refine ⟨fun _=>hC,?_⟩
   refine DPg (s:=28) hpk ha rfl fun a ha=>?_
   refine DF hpk ha rfl fun a ha=>?_
   refine DP hpk ha rfl fun a ha=>?_
   rw [decide_eq_false (by omega)] at ha
   iterate 2 (refine DPg (s:=41) hpk ha rfl fun a ha=>?_)
   refine DQ hpk ha rfl (wgT ha rfl (s:=41)) (fun w=>ex_indexAddr ha Tryz.underlying119 Ty.t176 (by omega)) fun a ha=>?_
   iterate 3 (refine DPg (s:=41) hpk ha rfl fun a ha=>?_)
   refine DQ hpk ha rfl (wgT ha rfl (s:=41)) (fun w=>ex_indexAddr ha Tryz.underlying119 Ty.t176 (by omega)) fun a ha=>?_
   refine DPg (s:=41) hpk ha rfl fun a ha=>?_
   refine DH hpk ha rfl (wgT ha rfl (s:=41)) (fun w hc=>ex_load1 ha Tryz.underlying22 rfl (hc.1.1 2 (.slice xa m.2.2.length xc) rfl)) hC fun a ha=>?_
   refine DH hpk ha rfl (wgT ha rfl (s:=41)) (fun w hc=>ex_toString ha Tryz.underlying22 Tryz.underlying5 Tryz.underlying9 (hc.2.1)) hC fun a ha=>?_
   refine D1 rfl (st_set ha (wgT ha rfl (s:=41)) (ex_load1 ha Tryz.underlying22 rfl (hC.1.2 2 (.slice ya m.2.2.length yc) rfl)) rfl fun a ha=>?_)
   replace hC : (fun w'=>(Rd w' bx (ox+i*3) (mlC (xa,xc,m))∧Rd w' bY (oY+i*3) (mlC (ya,yc,m)))∧RdB w' xa m.2.2.length m.2.2∧RdB w' ya m.2.2.length m.2.2) w:=hC
   refine ⟨fun _=>hC,?_⟩
   refine D1 rfl (st_set ha (wgT ha rfl (s:=41)) (ex_toString ha Tryz.underlying22 Tryz.underlying5 Tryz.underlying9 (hC.2.2)) rfl fun a ha=>?_)
   replace hC : (fun w'=>(Rd w' bx (ox+i*3) (mlC (xa,xc,m))∧Rd w' bY (oY+i*3) (mlC (ya,yc,m)))∧RdB w' xa m.2.2.length m.2.2∧RdB w' ya m.2.2.length m.2.2) w:=hC
   refine ⟨fun _=>hC,?_⟩
   refine DQ hpk ha rfl (wgT ha rfl (s:=41)) (fun w=>ex_neqS ha) fun a ha=>?_
   rw [str_beq,beq_self_eq_true,Bool.not_true] at ha
   refine DF hpk ha rfl fun a ha=>?_
   refine DD<|TN<|WFa ha<|WK<|BN<|TN<|WR ?_
   refine S1 ha fun a ha=>?_
   refine SK (st_set ha rfl (ex_addI ha (by omega) (by omega)) rfl fun a ha=>?_)
   refine S1d ha fun a ha=>?_
   refine LN<|TN ?_
   exact ⟨n - (i+1),by omega,i+1,⟨rfl,by omega⟩,ha.keep [0,1,5],hs.sub⟩
  ·
   refine wp_exit<|TE<|TE<|blk_e<|TN<|WS<|WR ?_
   refine S1 ha fun a ha=>?_
   refine LN<|TN<|wp_ret ?_
   refine ret1 ha rfl ?_
   exact ⟨rfl,hs.sub⟩
theorem eqRaw_spec (hs : St W w L) : Calls Tryz.prog 118 #[.agg (rawC e).toArray,.agg (rawC e).toArray] w fun r w'=>r=.returned (.bool true)∧St W w' L:=by
 refine calls_enter Tryz.func118 rfl Tryz.ntmps118 (Nat.le_of_ble_eq_true rfl) ?_
 intro a ha
 replace ha : Fr a 24 [(0,_),(1,_)]:=ha
 refine WS<|WR ?_
 refine SK (st_box ha rfl hs rfl fun b2 a w ha hs ho=>?_)
 clear ho
 change St W w (blk b2 144 [.int .i64 e.1,.int .i64 e.2.1,.int .i64 e.2.2]::_) at hs
 refine SK (st_box ha rfl hs rfl fun b3 a w ha hs ho=>?_)
 clear ho
 change St W w (blk b3 144 [.int .i64 e.1,.int .i64 e.2.1,.int .i64 e.2.2]::_) at hs
 refine S1 ha fun a ha=>?_
 refine LN<|TN<|WS<|WR ?_
 refine S1 ha fun a ha=>?_
 refine SL ha (hs.rd1 (b:=b2) rfl) fun a ha=>?_
 refine S1 ha fun a ha=>?_
 refine SL ha (hs.rd1 (b:=b3) rfl) fun a ha=>?_
 iterate 2 (refine S1 ha fun a ha=>?_)
 rw [decide_eq_true (by omega)] at ha
 refine S1g (s:=10) ha fun a ha=>?_
 refine SLg (s:=10) ha (hs.rd1 (b:=b2) rfl) fun a ha=>?_
 refine S1g (s:=10) ha fun a ha=>?_
 refine SLg (s:=10) ha (hs.rd1 (b:=b3) rfl) fun a ha=>?_
 refine S1g (s:=10) ha fun a ha=>?_
 refine PT ha fun a ha=>?_
 refine S1 ha fun a ha=>?_
 rw [decide_eq_true (by omega)] at ha
 refine S1g (s:=17) ha fun a ha=>?_
 refine SLg (s:=17) ha (hs.rd1 (b:=b2) rfl) fun a ha=>?_
 refine S1g (s:=17) ha fun a ha=>?_
 refine SLg (s:=17) ha (hs.rd1 (b:=b3) rfl) fun a ha=>?_
 refine S1g (s:=17) ha fun a ha=>?_
 refine PT ha fun a ha=>?_
 refine S1d ha fun a ha=>?_
 refine LN<|TN<|wp_ret ?_
 refine ret1 ha rfl ?_
 exact ⟨by simp,hs.sub⟩
theorem eqRaws_spec (hs : St W w (Sl 144 3 ad ev.length c (rows rawC ev)::Sl 144 3 ad' ev.length c' (rows rawC ev)::L)) (hn : ev.length≤1000) : Calls Tryz.prog 76 #[.slice ad ev.length c,.slice ad' ev.length c'] w fun r w'=>r=.returned (.bool true)∧St W w' L:=by
 refine calls_enter Tryz.func76 rfl Tryz.ntmps76 (Nat.le_of_ble_eq_true rfl) ?_
 intro a ha
 replace ha : Fr a 27 [(0,_),(1,_)]:=ha
 refine WS<|WR ?_
 refine S1 ha fun a ha=>?_
 refine LN<|TN<|WS<|WS<|WR ?_
 iterate 5 (refine S1 ha fun a ha=>?_)
 refine LN<|TN ?_
 rw [decide_eq_false (by omega)] at ha
 refine WFa ha<|WK<|TN<|WS<|WS<|WR ?_
 refine S1 ha fun a ha=>?_
 refine LN<|TN<|wp_block ?_
 refine wp_loop_ghost (fun μ a w=>∃ (i : Nat),(μ=ev.length - i∧i≤ev.length)∧Fr a 27 [(0,.slice ad ev.length c),(1,.slice ad' ev.length c'),(5,.int .i64 i)]∧St W w (Sl 144 3 ad ev.length c (rows rawC ev)::Sl 144 3 ad' ev.length c' (rows rawC ev)::L)) (ev.length) ?_ ?_
 · exact ⟨0,⟨rfl,by omega⟩,ha.keep [0,1,5],hs⟩
 ·
  clear ha hs
  rintro μ a w ⟨i,⟨rfl,hi⟩,ha,hs⟩
  refine WS<|WS<|WR ?_
  iterate 4 (refine S1 ha fun a ha=>?_)
  refine LN<|TN ?_
  refine WI ha (fun hc1=>?_) (fun hc1=>?_)
  ·
   have hil : i < ev.length:=by omega
   refine WK<|TN<|WS<|wp_block<|WS ?_
   obtain ⟨bx,ox,rfl,hrx⟩:=hs.drew.slRd ad (by omega)
   obtain ⟨bY,oY,rfl,hry⟩:=hs.drew.tail.slRd ad' (by omega)
   replace hrx:=rows_part rawC_len hrx (List.getElem?_eq_getElem hil)
   replace hry:=rows_part rawC_len hry (List.getElem?_eq_getElem hil)
   generalize ev[i]=x at hrx hry
   refine DW (m:=10) (fun w'=>Rd w' bx (ox+i*3) (rawC x)∧Rd w' bY (oY+i*3) (rawC x)) [7] [0,1,2,4,5,6,3,7,8,9] Ty.mixed (pk_then (pk_blk (pk_then (pk_then (pk_blk (pk_then pk_body)))))) (fun hpk=>?_)
   replace hs:=hs.drew
   generalize w.drew=w at hs hpk hrx hry ⊢
   have hC : Rd w bx (ox+i*3) (rawC x)∧Rd w bY (oY+i*3) (rawC x):=⟨hrx,hry⟩
   iterate 2 (refine DP hpk ha rfl fun a ha=>?_)
   refine DQ hpk ha rfl rfl (fun w=>ex_indexAddr ha Tryz.underlying125 Ty.t144 (by omega)) fun a ha=>?_
   iterate 2 (refine DP hpk ha rfl fun a ha=>?_)
   refine DQ hpk ha rfl rfl (fun w=>ex_indexAddr ha Tryz.underlying125 Ty.t144 (by omega)) fun a ha=>?_
   refine DH hpk ha rfl rfl (fun w hc=>ex_loadN ha Tryz.underlying144 rfl Ty.t144 (hc.1)) hC fun a ha=>?_
   refine D1 rfl (st_set ha rfl (ex_loadN ha Tryz.underlying144 rfl Ty.t144 (hC.2)) rfl fun a ha=>?_)
   replace hC : (fun w'=>Rd w' bx (ox+i*3) (rawC x)∧Rd w' bY (oY+i*3) (rawC x)) w:=hC
   refine ⟨fun _=>hC,?_⟩
   refine D1 rfl (st_call ha rfl Ty.c118 rfl (eqRaw_spec hs) ?_); clear ha hs
   rintro e w ⟨rfl,hs⟩
   refine ⟨_,rfl,?_⟩
   intro a ha
   refine ⟨fun h=>absurd h (by decide),?_⟩
   refine DP hpk ha rfl fun a ha=>?_
   refine DD<|TN<|WFa ha<|WK<|BN<|TN<|WR ?_
   refine S1 ha fun a ha=>?_
   refine SK (st_set ha rfl (ex_addI ha (by omega) (by omega)) rfl fun a ha=>?_)
   refine S1d ha fun a ha=>?_
   refine LN<|TN ?_
   exact ⟨ev.length - (i+1),by omega,i+1,⟨rfl,by omega⟩,ha.keep [0,1,5],hs⟩
  ·
   refine wp_exit<|TE<|TE<|blk_e<|TN<|WS<|WR ?_
   refine S1 ha fun a ha=>?_
   refine LN<|TN<|wp_ret ?_
   refine ret1 ha rfl ?_
   exact ⟨rfl,hs.tail.tail⟩
end
end Go.Proofs.YtagpkhbkdbaigaaGreat
