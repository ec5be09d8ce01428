/- quintainlaw22.Prog, begun; quintainlaw1.Short. -/
import Derived.Test.YtagpkhbkdbaigaaGreatPlainS
import Derived.Test.YtagpkhbkdbaigaaGreatArg
import Derived.Test.YtagpkhbkdbaigaaGreatRefP
import Derived.Test.YtagpkhbkdbaigaaGreatCoQ
import Derived.Test.YtagpkhbkdbaigaaGreatRefS
import Derived.Test.YtagpkhbkdbaigaaGreatRefA
namespace Go.Proofs.YtagpkhbkdbaigaaGreat
open Go.RowKit
set_option linter.unusedVariables false
set_option linter.unusedSimpArgs false
set_option maxRecDepth 10000
set_option synthInstance.maxSize 4000
set_option synthInstance.maxHeartbeats 400000
def sumP : Pr:=⟨⟨#[115,117,109]⟩,[⟨1,30,1,0⟩,⟨11,1,0,0⟩,⟨5,2,2,31⟩,⟨3,2,2,1⟩,⟨3,0,0,30⟩,⟨1,29,8,0⟩,⟨7,28,0,29⟩,⟨10,28,9,0⟩,⟨9,1,0,0⟩,⟨1,0,0,0⟩,⟨15,31,0,0⟩,⟨13,31,2,0⟩]⟩
theorem dec_oneAt {s : ByteArray} {i b : Nat} (hb : byteN s i=b) (h : b < 128) : Utf8.decode s i=(b,1):=by
 simp only [byteN] at hb
 simp [Utf8.decode,hb,h]
theorem sumP_runes : runesAt sumP.title 0=[(115,1),(117,1),(109,1)]:=by
 have h1 : sumP.title.size=3:=rfl
 have h2 : Utf8.decode sumP.title 0=(115,1):=dec_oneAt (b:=115) rfl (by decide)
 have h3 : Utf8.decode sumP.title 1=(117,1):=dec_oneAt (b:=117) rfl (by decide)
 have h4 : Utf8.decode sumP.title 2=(109,1):=dec_oneAt (b:=109) rfl (by decide)
 have r3 : runesAt sumP.title 3=[]:=runesAt_out (by omega)
 have r2 : runesAt sumP.title 2=[(109,1)]:=by rw [runesAt_in (by omega),adv,if_pos (by omega),h4]; exact congrArg _ r3
 have r1 : runesAt sumP.title 1=[(117,1),(109,1)]:=by rw [runesAt_in (by omega),adv,if_pos (by omega),h3]; exact congrArg _ r2
 rw [runesAt_in (by omega),adv,if_pos (by omega),h2]; exact congrArg _ r1
theorem sumP_ok : prOk sumP:=by
 refine ⟨⟨?_,by decide,by decide,?_⟩,?_⟩
 · rw [tOk,sumP_runes]; decide
 · intro o ho
   simp [sumP] at ho
   rcases ho with rfl | rfl | rfl | rfl | rfl | rfl | rfl | rfl | rfl | rfl | rfl | rfl <;> simp [i32O,i32P]
 · intro o ho
   simp [sumP] at ho
   rcases ho with rfl | rfl | rfl | rfl | rfl | rfl | rfl | rfl | rfl | rfl | rfl | rfl <;> simp [okOp,cellP,sumP]
section
variable {W w : World} {L L' R : List SP} {n c m cP cT : Nat} {ad adP adT : Option Addr} {p : Pr} {bs tb : List UInt8}
theorem prog22 (hs : St W w L) : Calls Tryz.prog 13 #[] w fun e w'=>∃ ad,e=.returned (.agg (prV sumP ad 12).toArray)∧St W w' (RoP W sumP ad 12::L):=by
 refine calls_enter Tryz.func13 rfl Tryz.ntmps13 (Nat.le_of_ble_eq_true rfl) ?_
 intro a ha
 replace ha : Fr a 15 []:=ha
 refine WS<|WR ?_
 refine SK (st_alloc ha rfl hs Ty.t33 rfl fun b0 a w ha hs ho=>?_)
 clear ho
 refine LN<|TN<|WS<|WR ?_
 iterate 12 (refine SK (st_set ha rfl (ex_build ha Ty.b87 Ty.t87 rfl) rfl fun a ha=>?_))
 refine SK (st_buildSlice ha rfl hs Tryz.underlying31 Ty.t87 rfl rfl rfl rfl (by decide) (by decide) fun b13 a w ha hs ho=>?_)
 clear ho
 refine SK (st_set ha rfl (ex_build ha Ty.b33 Ty.t33 rfl) rfl fun a ha=>?_)
 refine SK (st_storeAll ha rfl hs Ty.t33 (by simp [Value.oneCell']) (by rfl) fun a w ha hs=>?_)
 refine LN<|TN<|wp_ret ?_
 refine retC1 ha rfl (run_loadN Tryz.underlying33 rfl Ty.t33 (hs.rdAll)) ?_
 refine ⟨some ⟨b13,0,none⟩,rfl,?_⟩
 have h1 : St W w (blk b13 87 ([]++rows opR sumP.ops++[])::_):=hs.bring b13
 have h2:=St.slShut (n:=12) (c:=12) (sz:=4) h1 rfl (Nat.le_refl _) (Nat.zero_le _)
 have h3 : St W w (RoP W sumP (some ⟨b13,0,none⟩) 12::_):=h2.roSl
 exact h3.sub
set_option maxHeartbeats 2000000 in
theorem begun22 (hs : St W w L) : Calls Tryz.prog 10 #[] w fun e w'=>e=.returned (.bool true)∧St W w' L:=by
 have hm0 : mayCf ⟨(2 : Nat),(0 : Nat),0,(0 : Nat),(4 : Nat),1,0,0,0,3⟩:=by decide
 refine calls_enter Tryz.func10 rfl Tryz.ntmps10 (Nat.le_of_ble_eq_true rfl) ?_
 intro a ha
 replace ha : Fr a 89 []:=ha
 refine WS<|WR ?_
 refine S1 ha fun a ha=>?_
 refine LN<|TN<|WS<|WR ?_
 refine SK (st_set ha rfl (ex_build ha Ty.b30 Ty.t30 rfl) rfl fun a ha=>?_)
 refine SK (st_call ha rfl Ty.c13 rfl (prog22 hs) ?_); clear ha hs
 rintro e w ⟨adP,rfl,hs⟩
 refine ⟨_,rfl,?_⟩
 intro a ha
 refine SK (st_call ha rfl Ty.c12 rfl (plain_new (tb:=[]) (n:=2) (me:=0) (id:=0) (delay:=0) (window:=4) (guess:=1) (order:=0) (branches:=0) (workers:=0) (room:=3) hs hm0 sumP_ok (by decide) (by decide) (by decide) (by decide) (fun w' h=>RdB.nil)) ?_); clear ha hs
 rintro e w ⟨B,rfl,hgs,hs⟩
 refine ⟨_,rfl,?_⟩
 intro a ha
 have t0 : Two sumP 4 0 [[],[]] (newP sumP _):=Two.new (id:=0) hm0 rfl
 generalize newP sumP _=s0 at hs t0
 have hgm : mayGs B.gs:=by rw [hgs]; decide
 iterate 5 (refine S1 ha fun a ha=>?_)
 refine LN<|TN<|WS<|WS<|WR ?_
 iterate 3 (refine S1 ha fun a ha=>?_)
 iterate 2 (refine S1g (s:=19) ha fun a ha=>?_)
 refine PF ha fun a ha=>?_
 refine S1 ha fun a ha=>?_
 refine S1g (s:=23) ha fun a ha=>?_
 refine SK (st_call ha (wgT ha rfl (s:=23)) Ty.c25 rfl (plain_core hs) ?_); clear ha hs
 rintro e w ⟨rfl,hs⟩
 refine ⟨_,rfl,?_⟩
 intro a ha
 refine S1g (s:=23) ha fun a ha=>?_
 refine PF ha fun a ha=>?_
 refine LN<|TN<|WFa ha<|WK<|TN<|WS<|WR ?_
 refine S1 ha fun a ha=>?_
 refine SK (st_call ha rfl Ty.c14 rfl (plain_press (x:=7) hs t0.wf sumP_ok (by decide)) ?_); clear ha hs
 rintro e w ⟨rfl,hs⟩
 refine ⟨_,rfl,?_⟩
 intro a ha
 obtain ⟨e1,t1⟩:=t0.press 7 (by decide) (by decide)
 rw [e1] at ha
 generalize (pressP sumP 7 s0).2=s1 at hs t1
 replace t1 : Two sumP 4 0 [[7],[]] s1:=t1
 have hd1 : (dispG sumP B.gs s1).2=1:=by
   rw [dispG,if_neg (by rw [t1.head,t1.front]; decide)]
   exact t1.head
 have hc1 : (confP s1).2=0:=by rw [t1.conf]; rfl
 refine S1 ha fun a ha=>?_
 refine LN<|TN<|WS<|WR ?_
 refine S1 ha fun a ha=>?_
 refine SK (st_call ha rfl Ty.c23 rfl (plain_display hs t1.wf sumP_ok (by decide) hgm) ?_); clear ha hs
 rintro e w ⟨adD,cD,rfl,hs⟩
 refine ⟨_,rfl,?_⟩
 intro a ha
 rw [hd1] at ha
 replace hs:=hs.tail
 iterate 5 (refine S1 ha fun a ha=>?_)
 refine LN<|TN<|WS<|WR ?_
 refine S1 ha fun a ha=>?_
 refine SK (st_call ha rfl Ty.c17 rfl (plain_confirmed hs t1.wf) ?_); clear ha hs
 rintro e w ⟨adC,cC,rfl,hs⟩
 refine ⟨_,rfl,?_⟩
 intro a ha
 rw [hc1] at ha
 replace hs:=hs.tail
 iterate 5 (refine S1 ha fun a ha=>?_)
 refine LN<|TN<|WS<|WR ?_
 refine S1 ha fun a ha=>?_
 refine SK (st_buildSlice ha rfl hs Tryz.underlying22 Ty.t5 rfl rfl rfl rfl (by decide) (by decide) fun b41 a w ha hs ho=>?_)
 clear ho
 refine SK (st_set ha rfl (ex_build ha Ty.b40 Ty.t40 rfl) rfl fun a ha=>?_)
 refine SK (st_call ha rfl Ty.c16 rfl (refPacket_spec (p:=⟨1,1,0,0,0,0,0,0,[3]⟩) (ad:=some ⟨b41,0,none⟩) (c:=1) hs (by decide) (fun w' h=>⟨rfl,fun e=>(by cases e),fun x hx _=>⟨b41,0,by cases hx; rfl,h.rdAll (b:=b41)⟩⟩)) ?_); clear ha hs
 rintro e w ⟨adE,cE,rfl,hs⟩
 refine ⟨_,rfl,?_⟩
 intro a ha
 refine SK (st_call ha rfl Ty.c15 rfl (plain_receive (bs:=encO ⟨1,1,0,0,0,0,0,0,[3]⟩) (hs.pick (PlainS W B sumP s1)) t1.wf sumP_ok (by decide) (by have:=encO_len ⟨1,1,0,0,0,0,0,0,[3]⟩; omega) (hs.sl adE).2 (fun w' hw=>(hw.pick (Sl 5 1 adE (encO ⟨1,1,0,0,0,0,0,0,[3]⟩).length cE (bc (encO ⟨1,1,0,0,0,0,0,0,[3]⟩)))).rdB adE _ rfl rfl)) ?_); clear ha hs
 rintro e w ⟨rfl,hs⟩
 refine ⟨_,rfl,?_⟩
 intro a ha
 obtain ⟨e2,t2⟩:=t1.recv (f:=0) (bs:=[3]) (by decide) (by decide)
 replace e2 : (recvP sumP (encO ⟨1,1,0,0,0,0,0,0,[3]⟩) s1).1=0:=e2
 replace t2 : Two sumP 4 0 [[7],[3]] (recvP sumP (encO ⟨1,1,0,0,0,0,0,0,[3]⟩) s1).2:=t2
 rw [e2] at ha
 generalize (recvP sumP (encO ⟨1,1,0,0,0,0,0,0,[3]⟩) s1).2=s2 at hs t2
 have hc2 : (confP s2).2=1:=by rw [t2.conf]; rfl
 obtain ⟨ht1,ht2⟩:=t2.tick
 refine S1 ha fun a ha=>?_
 refine LN<|TN<|WS<|WR ?_
 refine S1 ha fun a ha=>?_
 refine SK (st_call ha rfl Ty.c17 rfl (plain_confirmed hs t2.wf) ?_); clear ha hs
 rintro e w ⟨adC2,cC2,rfl,hs⟩
 refine ⟨_,rfl,?_⟩
 intro a ha
 rw [hc2] at ha
 replace hs:=hs.tail
 iterate 5 (refine S1 ha fun a ha=>?_)
 refine LN<|TN<|WS<|WR ?_
 iterate 3 (refine S1 ha fun a ha=>?_)
 iterate 3 (refine S1g (s:=52) ha fun a ha=>?_)
 refine PT ha fun a ha=>?_
 refine S1 ha fun a ha=>?_
 iterate 2 (refine S1g (s:=57) ha fun a ha=>?_)
 refine PT ha fun a ha=>?_
 refine S1 ha fun a ha=>?_
 iterate 3 (refine S1g (s:=61) ha fun a ha=>?_)
 refine PT ha fun a ha=>?_
 refine S1 ha fun a ha=>?_
 iterate 2 (refine S1g (s:=66) ha fun a ha=>?_)
 refine PT ha fun a ha=>?_
 refine S1 ha fun a ha=>?_
 iterate 2 (refine S1g (s:=70) ha fun a ha=>?_)
 refine PT ha fun a ha=>?_
 refine S1 ha fun a ha=>?_
 iterate 2 (refine S1g (s:=74) ha fun a ha=>?_)
 refine PT ha fun a ha=>?_
 refine S1 ha fun a ha=>?_
 refine S1g (s:=78) ha fun a ha=>?_
 refine SK (st_call ha (wgT ha rfl (s:=78)) Ty.c28 rfl (plain_tick hs t2.wf (by rw [t2.now]; decide)) ?_); clear ha hs
 rintro e w ⟨adT,cT,rfl,hs⟩
 refine ⟨_,rfl,?_⟩
 intro a ha
 rw [ht1] at ha
 iterate 2 (refine S1g (s:=78) ha fun a ha=>?_)
 refine PT ha fun a ha=>?_
 refine S1 ha fun a ha=>?_
 refine S1g (s:=84) ha fun a ha=>?_
 refine SK (st_call ha (wgT ha rfl (s:=84)) Ty.c31 rfl (plain_closed (hs.pick (PlainS W B sumP ⟨(tickK s2.k).2,s2.g⟩))) ?_); clear ha hs
 rintro e w ⟨rfl,hs⟩
 refine ⟨_,rfl,?_⟩
 intro a ha
 rw [ht2] at ha
 refine S1g (s:=84) ha fun a ha=>?_
 refine PT ha fun a ha=>?_
 refine S1d ha fun a ha=>?_
 refine LN<|TN<|wp_ret ?_
 refine ret1 ha rfl ?_
 exact ⟨rfl,hs.sub⟩
end
end Go.Proofs.YtagpkhbkdbaigaaGreat
/- What a law does with a plain player of two. -/
namespace Go.Proofs.YtagpkhbkdbaigaaGreat
open Go.RowKit
set_option linter.unusedVariables false
set_option linter.unusedSimpArgs false
set_option maxRecDepth 10000
set_option synthInstance.maxSize 4000
set_option synthInstance.maxHeartbeats 400000
section
variable {P : Program} {ops : Array Oper} {a : Act} {w : World} {n : Nat} {l : List (Nat × Value)}
theorem ex_neqS {x y i j t u dst ty ps af g} (ha : Fr a n l) [e : Ev l x (.string i)] [f : Ev l y (.string j)] :
   (execOp a.eval ⟨dst,.binOp .neq t x y u,ty,ps,af,g⟩).run P w=.ok (.value (.bool (!(i.data.toList == j.data.toList)))) w:=by
 simp [execOp,e.ev a n ha,f.ev a n ha,eqGuard,binOp,Op.stringOp,ByteArray.toList_eq]
end
section
variable {W w : World} {L L' R : List SP} {n c m cP cT win me K f : Nat} {ad adP adT : Option Addr} {p : Pr} {bs tb : List UInt8} {B : PlB} {s : Pl} {ls : List (List UInt8)} {x : UInt8}
theorem shortN (hs : St W w L) (hr : RdB W ad n bs) (hnc : n≤c) : Calls Tryz.prog 11 #[.slice ad n c,.int .i64 (K : Nat)] w fun e w'=>∃ ad' c',e=.returned (.slice ad' (bs.take K).length c')∧RdB W ad' (bs.take K).length (bs.take K)∧(bs.take K).length≤c'∧St W w' L:=by
 have hl:=hr.1
 refine calls_enter Tryz.func11 rfl Tryz.ntmps11 (Nat.le_of_ble_eq_true rfl) ?_
 intro a ha
 replace ha : Fr a 13 [(0,_),(1,_)]:=ha
 refine WS<|WR ?_
 refine S1 ha fun a ha=>?_
 refine LN<|TN<|WS<|WS<|WR ?_
 iterate 4 (refine S1 ha fun a ha=>?_)
 refine LN<|TN ?_
 refine WI ha (fun hc0=>?_) (fun hc0=>?_)
 ·
  refine WS<|WR ?_
  iterate 2 (refine S1 ha fun a ha=>?_)
  refine SK (st_set ha rfl (ex_sliceH ha Tryz.underlying22 Ty.t5 (by omega)) rfl fun a ha=>?_)
  refine S1d ha fun a ha=>?_
  refine LN<|TN<|wp_ret<|TR ?_
  refine ret1 ha rfl ?_
  have h2 : (bs.take K).length=K:=by rw [List.length_take]; omega
  refine ⟨ad,c,by rw [h2,cutAd_zero,Nat.sub_zero,Nat.sub_zero],by rw [h2]; exact hr.cutH (by omega),by omega,hs⟩
 ·
  refine WK<|TN<|WS<|WR ?_
  refine S1 ha fun a ha=>?_
  refine S1d ha fun a ha=>?_
  refine LN<|TN<|wp_ret ?_
  refine ret1 ha rfl ?_
  have h2 : bs.take K=bs:=List.take_of_length_le (by omega)
  rw [h2]
  exact ⟨ad,c,by rw [hl],by rw [hl]; exact hr,by omega,hs⟩
theorem refFold_len {fr : Int} {g : Nat→Int} {adO : Option Addr} {cO : Nat} {P : List (List UInt8)} {zs : List BBx} (hs : St W w (RoP W p adO cO::L)) (hm : P.length=m) (hpr : prOk p) (hsz : p.title.size≤1000000000) (hg : gOk g) (hP : P.length≤65536∧∀ b∈P,b.length≤1099511627776) (hz : zs.map (·.2.2)=P) (hf : -1099511627776≤fr∧fr≤1099511627776) (hp : ∀ w',St W w' L→RdX w' adP zs) :
   Calls Tryz.prog 19 #[.agg (prV p adO cO).toArray,.agg (ints .i32 32 g).toArray,.int .i64 fr,.slice adP m cP] w fun e w'=>e=.returned (.agg (ints .i32 32 (foldI p fr g P)).toArray)∧gOk (foldI p fr g P)∧St W w' (RoP W p adO cO::L):=by
 subst hm; exact refFold_spec hs hpr hsz hg hP hz hf hp
end
theorem _root_.Go.Proofs.YtagpkhbkdbaigaaGreat.capLe {k : IntKind} {w : World} {a : Option Addr} {len cap : Nat} {zs : List Int} (h : ArgInts k w a len cap zs) : len≤cap:=by
 rcases h with ⟨_,rfl,rfl,_⟩ | ⟨x,_,hl,_⟩
 · exact Nat.le_refl _
 · exact hl
end Go.Proofs.YtagpkhbkdbaigaaGreat
