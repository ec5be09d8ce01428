/- PlainAll. -/
import Derived.Test.YtagpkhbkdbaigaaGreatArgO
namespace Go.Proofs.YtagpkhbkdbaigaaGreat
open Go.RowKit
set_option linter.unusedVariables false
set_option linter.unusedSimpArgs false
set_option maxRecDepth 10000
set_option synthInstance.maxSize 4000
set_option synthInstance.maxHeartbeats 400000
section
variable {W w : World} {L L' R : List SP} {n c i cP cT : Nat} {ad adP adT : Option Addr} {p : Pr} {s : Pl} {tb : List UInt8} {cf : Cf} {B : PlB}
theorem plain_play (hpr : prOk p) (hsz : p.title.size≤1000000000) (hgs : mayGs B.gs) : PlayS W 25 ⟨B.pb,0,none⟩ 14 15 28 29 30 17 23 31 p B.gs (fun _ s=>PlainS W B p s) where
 mP:=fun ad w=>by kernel_rfl
 cP:=Ty.c14
 mR:=fun ad w=>by kernel_rfl
 cR:=Ty.c15
 mT:=fun ad w=>by kernel_rfl
 cT:=Ty.c28
 mQ:=fun ad w=>by kernel_rfl
 cQ:=Ty.c29
 mE:=fun ad w=>by kernel_rfl
 cE:=Ty.c30
 mC:=fun ad w=>by kernel_rfl
 cC:=Ty.c17
 mD:=fun ad w=>by kernel_rfl
 cD:=Ty.c23
 mX:=fun ad w=>by kernel_rfl
 cX:=Ty.c31
 press:=fun w L i s x _ hw hs=>plain_press hs hw hpr hsz
 recv:=fun w L i s bs a c _ hw hb hc hp hs=>plain_receive hs hw hpr hsz hb hc hp
 tick:=fun w L i s _ hw hn hs=>plain_tick hs hw hn
 quit:=fun w L i s _ hw hs=>plain_quit hs hw
 events:=fun w L i s _ hw hs=>plain_events hs
 conf:=fun w L i s _ hw hs=>plain_confirmed hs hw
 disp:=fun w L i s _ hw hs=>plain_display hs hw hpr hsz hgs
 closed:=fun w L i s _ hw hs=>plain_closed hs
theorem refP_newY (hm : mayCf cf) (hs : St W w (RoP W p adP cP::L)) (hn : tb.length=n) (hpr : prOk p) (hsz : p.title.size≤1000000000) :
   Calls Tryz.prog 32 #[.agg (cfC cf).toArray,.agg (prV p adP cP).toArray,.slice adT n cT] w fun r w'=>∃ B : RgB,r=.returned (.pointer (some ⟨B.pb,0,none⟩))∧(B.gs=⟨cf.guess,cf.order,tb⟩∧B.adT=adT)∧St W w' (RefG W B p (newP p cf)::L):=by
 subst hn
 obtain ⟨n,me,delay,window,hcf⟩:=mayCf_nat hm
 generalize cf.guess=guess at hcf ⊢
 generalize cf.order=order at hcf ⊢
 rw [hcf] at hm ⊢
 exact refP_new hs hm hpr hsz
end
theorem St.oldRd {W w : World} {L : List SP} (hs : St W w L) {b off : Nat} {vs : List Value} (hb : b < W.heap.size) (h : Rd W b off vs) : Rd w b off vs :=
 fun j v hj=>(hs.old hb).trans (h j v hj)
theorem newP_now (p : Pr) {cf : Cf} (h : mayCf cf) : (newP p cf).k.now=0:=by
 rw [newP,(playP_same (newP_ok (p:=p) h)).2.2.2.2.2.1]; rfl
set_option maxHeartbeats 8000000 in
theorem plainAll_walk (cf0 : Cf) (pr1 : Pr) (ado1 : Option Addr) (co1 : Nat) (a2 : Option Addr) (len2 cap2 : Nat) (z2 : List Int) (a3 : Option Addr) (len3 cap3 : Nat) (W : World) (w1 : ArgProg W pr1 ado1 co1) (w2 : ArgInts .u8 W a2 len2 cap2 z2) (w3 : ArgOps W a3 len3) :
   Calls Tryz.prog 9 #[.agg (cfC cf0).toArray,.agg (prV pr1 ado1 co1).toArray,.slice a2 len2 cap2,.slice a3 len3 cap3] W fun e w'=>e=.returned (.bool true)∧Below W.heap.size W w':=by
 have hs:=St.start W
 obtain ⟨T0,hT0,hrT0⟩:=w2.bytesB
 have hcap:=capLe w2
 obtain ⟨hl3,hops⟩:=w3
 obtain ⟨hz1,hz2⟩:=cutP_ok (K:=64) (by decide) pr1
 by_cases hma : mayAll cf0 (cutP 64 pr1) (T0.take 30)
 ·
   refine calls_enter Tryz.func9 rfl Tryz.ntmps9 (Nat.le_of_ble_eq_true rfl) ?_
   intro a ha
   replace ha : Fr a 79 [(0,_),(1,_),(2,_),(3,_)]:=ha
   refine WS<|WR ?_
   refine SK (st_box ha rfl hs rfl fun b4 a w ha hs ho=>?_)
   clear ho
   change St W w (blk b4 30 (cfC cf0)::_) at hs
   refine SK (st_box ha rfl hs rfl fun b5 a w ha hs ho=>?_)
   clear ho
   change St W w (blk b5 33 (prV pr1 ado1 co1)::_) at hs
   refine S1 ha fun a ha=>?_
   refine LN<|TN<|WS<|WR ?_
   refine SK (st_call ha rfl Ty.c10 rfl (begun22 hs) ?_); clear ha hs
   rintro e w ⟨rfl,hs⟩
   refine ⟨_,rfl,?_⟩
   intro a ha
   refine S1 ha fun a ha=>?_
   refine LN<|TN<|WS<|WS<|WR ?_
   iterate 2 (refine S1 ha fun a ha=>?_)
   refine LN<|TN<|WFa ha<|WK<|TN<|WS<|WR ?_
   refine SK (st_set ha rfl (ex_loadN ha Tryz.underlying33 rfl Ty.t33 (hs.rdAll (b:=b5))) rfl fun a ha=>?_)
   refine SK (st_call ha rfl Ty.c20 rfl (cut5_spec (K:=64) (w1.ro hs)) ?_); clear ha hs
   rintro e w ⟨rfl,hs⟩
   refine ⟨_,rfl,?_⟩
   intro a ha
   refine S1 ha fun a ha=>?_
   refine SK (st_call ha rfl Ty.c11 rfl (shortN (K:=30) hs hrT0 hcap) ?_); clear ha hs
   rintro e w ⟨aT,cT,rfl,hrT,hcT,hs⟩
   refine ⟨_,rfl,?_⟩
   intro a ha
   refine SK (st_storeAll ha rfl hs Ty.t33 (prV_one _ _ _) (by rfl) fun a w ha hs=>?_)
   refine S1d ha fun a ha=>?_
   refine LN ?_
   have hTl : (T0.take 30).length≤30:=by rw [List.length_take]; omega
   generalize T0.take 30=T at ha hrT hcT hTl hma
   generalize cutP 64 pr1=p at hs ha hz1 hz2 hma
   refine TN<|WS<|WR ?_
   refine SK (st_set ha rfl (ex_loadN ha Tryz.underlying30 rfl Ty.t30 (hs.rdAll (b:=b4))) rfl fun a ha=>?_)
   refine SK (st_set ha rfl (ex_loadN ha Tryz.underlying33 rfl Ty.t33 (hs.rdAll (b:=b5))) rfl fun a ha=>?_)
   refine S1 ha fun a ha=>?_
   refine SK (st_call ha rfl Ty.c12 rfl (plain_newY hma (hs.pick (RoP W p ado1 co1)) rfl hz1 hz2 (by omega) (fun w' h=>hrT.old h)) ?_); clear ha hs
   rintro e w ⟨B,rfl,hgs,hs⟩
   refine ⟨_,rfl,?_⟩
   intro a ha
   have hwf0:=WF'.new (p:=p) hma.1
   have hnow:=newP_now p hma.1
   have hgm : mayGs B.gs:=by rw [hgs]; exact hma.2.2
   have hpr : prOk p:=hma.2.1
   iterate 5 (refine S1 ha fun a ha=>?_)
   refine LN<|TN<|WS<|WR ?_
   refine SK (st_set ha rfl (ex_loadN ha Tryz.underlying30 rfl Ty.t30 (hs.rdAll (b:=b4))) rfl fun a ha=>?_)
   refine SK (st_set ha rfl (ex_loadN ha Tryz.underlying33 rfl Ty.t33 (hs.rdAll (b:=b5))) rfl fun a ha=>?_)
   refine S1 ha fun a ha=>?_
   refine SK (st_call ha rfl Ty.c21 rfl (refMayAll (cf:=cf0) (tb:=T) (hs.pick (RoP W p ado1 co1)) hz1 hz2 rfl) ?_); clear ha hs
   rintro e w ⟨rr,rfl,hrr,hs⟩
   refine ⟨_,rfl,?_⟩
   intro a ha
   rw [hrr.2 hma] at ha
   refine S1 ha fun a ha=>?_
   refine LN<|TN<|WS<|WS<|WR ?_
   iterate 3 (refine S1 ha fun a ha=>?_)
   refine SK (st_set ha rfl (ex_neqB ha Tryz.underlying4) rfl fun a ha=>?_)
   refine LN<|TN<|WFa ha<|WK<|TN<|WS<|WS<|WR ?_
   iterate 2 (refine S1 ha fun a ha=>?_)
   refine LN<|TN<|WFa ha<|WK<|TN<|WS<|WR ?_
   refine SK (st_set ha rfl (ex_loadN ha Tryz.underlying30 rfl Ty.t30 (hs.rdAll (b:=b4))) rfl fun a ha=>?_)
   refine SK (st_set ha rfl (ex_loadN ha Tryz.underlying33 rfl Ty.t33 (hs.rdAll (b:=b5))) rfl fun a ha=>?_)
   refine S1 ha fun a ha=>?_
   refine SK (st_call ha rfl Ty.c32 rfl (refP_newY hma.1 (hs.pick (RoP W p ado1 co1)) (tb:=T) rfl hpr hz1) ?_); clear ha hs
   rintro e w ⟨C,rfl,⟨hcg,hcT2⟩,hs⟩
   refine ⟨_,rfl,?_⟩
   intro a ha
   have hbg : C.gs=B.gs:=by rw [hcg,hgs]
   have hgc : mayGs C.gs:=by rw [hbg]; exact hgm
   have hTr : RdB W C.adT C.gs.table.length C.gs.table:=by rw [hcg,hcT2]; exact hrT
   generalize newP p cf0=s0 at hs hwf0 hnow
   refine S1 ha fun a ha=>?_
   refine LN<|TN<|WS<|WS<|WR ?_
   refine S1 ha fun a ha=>?_
   refine LN<|TN<|wp_block ?_
   refine wp_loop_ghost (fun μ a w=>∃ (i : Nat) (s : Pl),(μ=50 - i∧i≤50∧WF' p s∧s.k.now≤i)∧Fr a 79 [(3,.slice a3 len3 cap3),(10,.pointer (some ⟨B.pb,0,none⟩)),(13,.pointer (some ⟨C.pb,0,none⟩)),(14,.int .i64 i)]∧St W w (PlainS W B p s::RefG W C p s::[])) (50) ?_ ?_
   · exact ⟨0,s0,⟨rfl,by omega,hwf0,by omega⟩,ha.keep [3,10,13,14],hs.sub⟩
   ·
    clear ha hs
    rintro μ a w ⟨i,s,⟨rfl,hi,hwf,hnw⟩,ha,hs⟩
    refine WS<|WS<|WR ?_
    iterate 5 (refine S1 ha fun a ha=>?_)
    refine ha.by (s:=53) (fun hg4 ha=>?_) (fun hg4 ha=>?_)
    ·
     iterate 2 (refine S1g (s:=53) ha fun a ha=>?_)
     refine PT ha fun a ha=>?_
     refine LN<|TN ?_
     refine WI ha (fun hc3=>?_) (fun hc3=>?_)
     ·
      obtain ⟨bo,oo,rfl,hbo,hro⟩:=hops.resolve_left (by omega)
      obtain ⟨o,ho1,ho2,ho3,ho4,ho5,ho6⟩:=hro i (by omega)
      have hrd : Rd w bo (oo+i*13) o.cells:=hs.oldRd hbo ho1
      rw [OpX.cells] at hrd
      refine WK<|TN<|WS<|wp_block<|WS<|WR ?_
      refine S1 ha fun a ha=>?_
      refine SK (st_set ha rfl (ex_makeI ha Tryz.underlying25 rfl) rfl fun a ha=>?_)
      iterate 3 (refine S1 ha fun a ha=>?_)
      refine SK (st_set ha rfl (ex_indexAddr ha Tryz.underlying69 Ty.t74 (by omega)) rfl fun a ha=>?_)
      refine SK (st_set ha rfl (ex_loadN ha Tryz.underlying74 rfl Ty.t74 (hrd)) rfl fun a ha=>?_)
      refine SK (st_call ha rfl Ty.c33 rfl (do_spec (J:=fun _ s=>PlainS W B p s) (i:=i) (plain_play hpr hz1 hgm) (by omega) hs hwf hpr hz1 (by omega) ho2 ho3 ho4 ho5 ho6) ?_); clear ha hs
      rintro e w ⟨rfl,s',hwf',hnw',hs⟩
      refine ⟨_,rfl,?_⟩
      intro a ha
      iterate 2 (refine S1 ha fun a ha=>?_)
      refine S1g (s:=68) ha fun a ha=>?_
      refine SK (st_set ha (wgT ha rfl (s:=68)) (ex_makeI ha Tryz.underlying25 rfl) rfl fun a ha=>?_)
      refine S1g (s:=68) ha fun a ha=>?_
      refine SK (st_call ha (wgT ha rfl (s:=68)) Ty.c34 rfl (shows_spec (J:=fun _ s=>PlainS W B p s) (i:=i) (plain_play hpr hz1 hgm) (by omega) hs hwf' hpr hz1 hgc hbg hTr) ?_); clear ha hs
      rintro e w ⟨rfl,hs⟩
      refine ⟨_,rfl,?_⟩
      intro a ha
      refine S1g (s:=68) ha fun a ha=>?_
      refine PF ha fun a ha=>?_
      refine LN<|TN<|WFa ha<|WK<|BN<|TN<|WR ?_
      refine S1 ha fun a ha=>?_
      refine SK (st_set ha rfl (ex_addI ha (by omega) (by omega)) rfl fun a ha=>?_)
      refine S1d ha fun a ha=>?_
      refine LN<|TN ?_
      exact ⟨50 - (i+1),by omega,i+1,s',⟨rfl,by omega,hwf',by omega⟩,ha.keep [3,10,13,14],hs⟩
     ·
      refine wp_exit<|TE<|TE<|blk_e<|TN<|WS<|WR ?_
      refine S1 ha fun a ha=>?_
      refine SK (st_set ha rfl (ex_makeI ha Tryz.underlying25 rfl) rfl fun a ha=>?_)
      refine S1 ha fun a ha=>?_
      refine SK (st_call ha rfl Ty.c34 rfl (shows_spec (J:=fun _ s=>PlainS W B p s) (i:=i) (plain_play hpr hz1 hgm) (by omega) hs hwf hpr hz1 hgc hbg hTr) ?_); clear ha hs
      rintro e w ⟨rfl,hs⟩
      refine ⟨_,rfl,?_⟩
      intro a ha
      refine S1 ha fun a ha=>?_
      refine LN<|TN<|wp_ret ?_
      refine ret1 ha rfl ?_
      exact ⟨rfl,hs.below⟩
    ·
     iterate 2 (refine SO (s:=53) ha fun a ha=>?_)
     refine PF ha fun a ha=>?_
     refine LN<|TN<|WFa ha<|wp_exit<|TE<|TE<|blk_e<|TN<|WS<|WR ?_
     refine S1 ha fun a ha=>?_
     refine SK (st_set ha rfl (ex_makeI ha Tryz.underlying25 rfl) rfl fun a ha=>?_)
     refine S1 ha fun a ha=>?_
     refine SK (st_call ha rfl Ty.c34 rfl (shows_spec (J:=fun _ s=>PlainS W B p s) (i:=i) (plain_play hpr hz1 hgm) (by omega) hs hwf hpr hz1 hgc hbg hTr) ?_); clear ha hs
     rintro e w ⟨rfl,hs⟩
     refine ⟨_,rfl,?_⟩
     intro a ha
     refine S1 ha fun a ha=>?_
     refine LN<|TN<|wp_ret ?_
     refine ret1 ha rfl ?_
     exact ⟨rfl,hs.below⟩
 ·
   refine calls_enter Tryz.func9 rfl Tryz.ntmps9 (Nat.le_of_ble_eq_true rfl) ?_
   intro a ha
   replace ha : Fr a 79 [(0,_),(1,_),(2,_),(3,_)]:=ha
   refine WS<|WR ?_
   refine SK (st_box ha rfl hs rfl fun b4 a w ha hs ho=>?_)
   clear ho
   change St W w (blk b4 30 (cfC cf0)::_) at hs
   refine SK (st_box ha rfl hs rfl fun b5 a w ha hs ho=>?_)
   clear ho
   change St W w (blk b5 33 (prV pr1 ado1 co1)::_) at hs
   refine S1 ha fun a ha=>?_
   refine LN<|TN<|WS<|WR ?_
   refine SK (st_call ha rfl Ty.c10 rfl (begun22 hs) ?_); clear ha hs
   rintro e w ⟨rfl,hs⟩
   refine ⟨_,rfl,?_⟩
   intro a ha
   refine S1 ha fun a ha=>?_
   refine LN<|TN<|WS<|WS<|WR ?_
   iterate 2 (refine S1 ha fun a ha=>?_)
   refine LN<|TN<|WFa ha<|WK<|TN<|WS<|WR ?_
   refine SK (st_set ha rfl (ex_loadN ha Tryz.underlying33 rfl Ty.t33 (hs.rdAll (b:=b5))) rfl fun a ha=>?_)
   refine SK (st_call ha rfl Ty.c20 rfl (cut5_spec (K:=64) (w1.ro hs)) ?_); clear ha hs
   rintro e w ⟨rfl,hs⟩
   refine ⟨_,rfl,?_⟩
   intro a ha
   refine S1 ha fun a ha=>?_
   refine SK (st_call ha rfl Ty.c11 rfl (shortN (K:=30) hs hrT0 hcap) ?_); clear ha hs
   rintro e w ⟨aT,cT,rfl,hrT,hcT,hs⟩
   refine ⟨_,rfl,?_⟩
   intro a ha
   refine SK (st_storeAll ha rfl hs Ty.t33 (prV_one _ _ _) (by rfl) fun a w ha hs=>?_)
   refine S1d ha fun a ha=>?_
   refine LN ?_
   have hTl : (T0.take 30).length≤30:=by rw [List.length_take]; omega
   generalize T0.take 30=T at ha hrT hcT hTl hma
   generalize cutP 64 pr1=p at hs ha hz1 hz2 hma
   refine TN<|WS<|WR ?_
   refine SK (st_set ha rfl (ex_loadN ha Tryz.underlying30 rfl Ty.t30 (hs.rdAll (b:=b4))) rfl fun a ha=>?_)
   refine SK (st_set ha rfl (ex_loadN ha Tryz.underlying33 rfl Ty.t33 (hs.rdAll (b:=b5))) rfl fun a ha=>?_)
   refine S1 ha fun a ha=>?_
   refine SK (st_call ha rfl Ty.c12 rfl (plain_newN hma (hs.pick (RoP W p ado1 co1)) rfl hz1 hz2 (by omega) (fun w' h=>hrT.old h)) ?_); clear ha hs
   rintro e w ⟨rfl,hs⟩
   refine ⟨_,rfl,?_⟩
   intro a ha
   iterate 5 (refine S1 ha fun a ha=>?_)
   refine LN<|TN<|WS<|WR ?_
   refine SK (st_set ha rfl (ex_loadN ha Tryz.underlying30 rfl Ty.t30 (hs.rdAll (b:=b4))) rfl fun a ha=>?_)
   refine SK (st_set ha rfl (ex_loadN ha Tryz.underlying33 rfl Ty.t33 (hs.rdAll (b:=b5))) rfl fun a ha=>?_)
   refine S1 ha fun a ha=>?_
   refine SK (st_call ha rfl Ty.c21 rfl (refMayAll (cf:=cf0) (tb:=T) (hs.pick (RoP W p ado1 co1)) hz1 hz2 rfl) ?_); clear ha hs
   rintro e w ⟨rr,rfl,hrr,hs⟩
   refine ⟨_,rfl,?_⟩
   intro a ha
   rw [show rr=false from Bool.eq_false_iff.2 fun h=>hma (hrr.1 h)] at ha
   refine S1 ha fun a ha=>?_
   refine LN<|TN<|WS<|WS<|WR ?_
   iterate 3 (refine S1 ha fun a ha=>?_)
   refine SK (st_set ha rfl (ex_neqB ha Tryz.underlying4) rfl fun a ha=>?_)
   refine LN<|TN<|WFa ha<|WK<|TN<|WS<|WS<|WR ?_
   iterate 2 (refine S1 ha fun a ha=>?_)
   refine LN<|TN<|WTr ha<|WS<|WR ?_
   iterate 3 (refine S1 ha fun a ha=>?_)
   iterate 2 (refine S1g (s:=41) ha fun a ha=>?_)
   refine PT ha fun a ha=>?_
   refine S1d ha fun a ha=>?_
   refine LN<|TN<|wp_ret<|TR ?_
   refine ret1 ha rfl ?_
   exact ⟨rfl,hs.below⟩
end Go.Proofs.YtagpkhbkdbaigaaGreat
