/- Frames over cells of their own: vm.Step, fold.From. -/
import Derived.Test.YtagpkhbkdbaigaaGreatVm
import Derived.Test.YtagpkhbkdbaigaaGreatArgP
import Derived.Test.YtagpkhbkdbaigaaGreatBB
import Derived.Test.YtagpkhbkdbaigaaGreatCoQ
namespace Go.Proofs.YtagpkhbkdbaigaaGreat
open Go.RowKit
set_option linter.unusedVariables false
set_option linter.unusedSimpArgs false
set_option maxRecDepth 10000
set_option synthInstance.maxSize 4000
set_option synthInstance.maxHeartbeats 400000
section
variable {W w : World} {L L' R : List SP} {n c m cO cP q : Nat} {ad adO adP : Option Addr} {b : List UInt8} {g : Nat→Int} {p : Pr} {fr : Int} {bad : Bool}
def Jv (q : Nat) (g : Nat→Int) (bad : Bool) : SP:=fun h=>(gOk g∧bad=false)∧blk q 190 (ints .i32 32 g) h
theorem Jv.open (hs : St W w (Jv q g bad::L)) : (gOk g∧bad=false)∧St W w (blk q 190 (ints .i32 32 g)::L):=by
 obtain ⟨_,h1,h2⟩:=hs.exi (ι:=Unit) (p:=fun _=>gOk g∧bad=false) (B:=fun _=>blk q 190 (ints .i32 32 g)) (fun h ⟨h1,h2⟩=>⟨(),h1,h2⟩)
 exact ⟨h1,h2⟩
theorem Jv.close (hs : St W w (blk q 190 (ints .i32 32 g)::L)) (h1 : gOk g) : St W w (Jv q g false::L) :=
 St.shut (M:=[_]) hs (fun _ ⟨_,_,_,a,b,x,_⟩=>⟨⟨h1,rfl⟩,a _ _ x⟩)
theorem vcells_get {c : Nat} (hc : c < 32) (hs : St W w (Jv q g bad::L)) : Calls Tryz.prog 199 (List.toArray [.pointer (some ⟨q,0,none⟩),.int .i64 c]) w fun e w'=>e=.returned (.int .i32 (g c))∧St W w' (Jv q g bad::L):=by
 have hj:=Jv.open hs
 clear hs
 obtain ⟨⟨h1,rfl⟩,hs⟩:=hj
 refine calls_enter Tryz.func199 rfl Tryz.ntmps199 (Nat.le_of_ble_eq_true rfl) ?_
 intro a ha
 replace ha : Fr a 11 [(0,_),(1,_)]:=ha
 refine WS<|WR ?_
 refine S1 ha fun a ha=>?_
 refine LN<|TN<|WS<|WR ?_
 iterate 4 (refine S1 ha fun a ha=>?_)
 refine SK (st_set ha rfl (ex_indexAddrA ha Tryz.underlying83 Ty.t21 hc) rfl fun a ha=>?_)
 rw [Nat.zero_add,Nat.mul_one] at ha
 refine SL ha (hs.rd1 (ints_get _ hc)) fun a ha=>?_
 refine S1d ha fun a ha=>?_
 refine LN<|TN<|wp_ret ?_
 refine ret1 ha rfl ?_
 exact ⟨rfl,Jv.close hs h1⟩
theorem vcells_set {c : Nat} {v : Int} (hc : c < 32) (hv : i32P v) (hs : St W w (Jv q g bad::L)) : Calls Tryz.prog 200 (List.toArray [.pointer (some ⟨q,0,none⟩),.int .i64 c,.int .i32 v]) w fun e w' =>
   ∃ (g' : Nat→Int) (bad' : Bool),e=.returned (.tuple #[])∧((bad'=true∧g'=g)∨(bad'=false∧bad=false∧g'=upd g c v))∧St W w' (Jv q g' bad'::L):=by
 have hj:=Jv.open hs
 clear hs
 obtain ⟨⟨h1,rfl⟩,hs⟩:=hj
 refine calls_enter Tryz.func200 rfl Tryz.ntmps200 (Nat.le_of_ble_eq_true rfl) ?_
 intro a ha
 replace ha : Fr a 12 [(0,_),(1,_),(2,_)]:=ha
 refine WR ?_
 iterate 5 (refine S1 ha fun a ha=>?_)
 refine SK (st_set ha rfl (ex_indexAddrA ha Tryz.underlying83 Ty.t21 hc) rfl fun a ha=>?_)
 rw [Nat.zero_add,Nat.mul_one] at ha
 refine SK (st_store ha rfl hs Ty.t21 rfl (by rw [ints_len]; exact hc) fun a w ha hs=>?_)
 rw [ints_set] at hs
 refine LN ?_
 refine end0 ha rfl ?_
 exact ⟨upd g c v,false,rfl,.inr ⟨rfl,rfl,rfl⟩,Jv.close hs (upd_ok h1 hv)⟩
theorem vcells_mem : MemS W 188 ⟨q,0,none⟩ 199 200 (Jv q) where
 mG:=fun ad w=>by kernel_rfl
 cG:=Ty.c199
 mS:=fun ad w=>by kernel_rfl
 cS:=Ty.c200
 ok:=fun w L g bad h=>(Jv.open h).1.1
 get:=fun w L g bad c hc h=>vcells_get hc h
 set:=fun w L g bad c v hc hv h=>vcells_set hc hv h
theorem vm_step (hs : St W w (RoP W p adO cO::L)) (hpr : prOk p) (hsz : p.title.size≤1000000000) (hg : gOk g) (hb : b.length≤1099511627776) (hp : ∀ w',St W w' L→RdB w' adP b.length b) :
   Calls Tryz.prog 85 #[.agg (prV p adO cO).toArray,.agg (ints .i32 32 g).toArray,.int .i64 fr,.slice adP b.length cP] w fun e w'=>e=.returned (.agg (ints .i32 32 (frameI p fr b g)).toArray)∧St W w' (RoP W p adO cO::L):=by
 refine calls_enter Tryz.func85 rfl Tryz.ntmps85 (Nat.le_of_ble_eq_true rfl) ?_
 intro a ha
 replace ha : Fr a 23 [(0,_),(1,_),(2,_),(3,_)]:=ha
 refine WS<|WR ?_
 refine SK (st_box ha rfl hs rfl fun b4 a w ha hs ho=>?_)
 clear ho
 change St W w (blk b4 33 (prV p adO cO)::_) at hs
 refine SK (st_box ha rfl hs rfl fun b5 a w ha hs ho=>?_)
 clear ho
 refine SK (st_alloc ha rfl hs Ty.t83 rfl fun b8 a w ha hs ho=>?_)
 clear ho
 change St W w (blk b8 83 (ints .i32 32 (fun _=>0))::_) at hs
 refine LN<|TN<|WS<|WR ?_
 refine SK (st_set ha rfl (ex_loadN ha Tryz.underlying83 rfl Ty.t83 (hs.rdAll (b:=b5))) rfl fun a ha=>?_)
 refine SK (st_set ha rfl (ex_build ha Ty.b190 Ty.t190 (cs:=ints .i32 32 g) rfl) rfl fun a ha=>?_)
 refine SK (st_box ha rfl hs rfl fun b12 a w ha hs ho=>?_)
 clear ho
 refine S1 ha fun a ha=>?_
 refine LN<|TN<|WS<|WR ?_
 refine SK (st_set ha rfl (ex_loadN ha Tryz.underlying33 rfl Ty.t33 (hs.rdAll (b:=b4))) rfl fun a ha=>?_)
 refine S1 ha fun a ha=>?_
 refine SK (st_set ha rfl (ex_makeI ha Tryz.underlying188 rfl) rfl fun a ha=>?_)
 iterate 2 (refine S1 ha fun a ha=>?_)
 replace hs:=Jv.close (hs.bring b12) hg
 refine SK (st_call ha rfl Ty.c126 rfl (run_spec (M:=vcells_mem (q:=b12)) (L:=blk b8 83 (ints .i32 32 (fun _=>0))::L) (hs.sub (M:=Jv b12 g false::RoP W p adO cO::blk b8 83 (ints .i32 32 (fun _=>0))::L)) hpr hsz hb (fun w' hw=>hp w' hw.tail)) ?_); clear ha hs
 rintro e w ⟨g',bad',nn,rfl,hgb,hs⟩
 refine ⟨_,rfl,?_⟩
 intro a ha
 refine LN<|TN<|WS ?_
 have hj:=Jv.open hs
 clear hs
 obtain ⟨⟨hg',rfl⟩,hs⟩:=hj
 obtain ⟨_,rfl⟩:=hgb rfl
 refine WR ?_
 iterate 3 (refine S1 ha fun a ha=>?_)
 refine SK (st_set ha rfl (ex_loadN ha Tryz.underlying83 rfl Ty.t83 (hs.rdAll (b:=b12))) rfl fun a ha=>?_)
 refine SK (st_storeAll ha rfl hs Ty.t83 ints_one (by simp only [ints_len]) fun a w ha hs=>?_)
 refine LN<|TN<|wp_ret ?_
 refine retC1 ha rfl (run_loadN Tryz.underlying83 rfl Ty.t83 (hs.rdAll (b:=b8))) ?_
 exact ⟨rfl,hs.sub⟩
theorem fold_from {P : List (List UInt8)} {zs : List BBx} (hs : St W w (RoP W p adO cO::L)) (hpr : prOk p) (hsz : p.title.size≤1000000000) (hg : gOk g) (hP : P.length≤65536∧∀ b∈P,b.length≤1099511627776) (hf : -1099511627776≤fr∧fr≤1099511627776) (hz : zs.map (·.2.2)=P) (hp : ∀ w',St W w' L→RdX w' adP zs) :
   Calls Tryz.prog 55 #[.agg (prV p adO cO).toArray,.agg (ints .i32 32 g).toArray,.int .i64 fr,.slice adP P.length cP] w fun e w'=>e=.returned (.agg (ints .i32 32 (foldI p fr g P)).toArray)∧St W w' (RoP W p adO cO::L):=by
 have hzl : zs.length=P.length:=by rw [← hz,List.length_map]
 have hPl:=hP.1
 refine calls_enter Tryz.func55 rfl Tryz.ntmps55 (Nat.le_of_ble_eq_true rfl) ?_
 intro a ha
 replace ha : Fr a 27 [(0,_),(1,_),(2,_),(3,_)]:=ha
 refine WS<|WR ?_
 refine SK (st_box ha rfl hs rfl fun b4 a w ha hs ho=>?_)
 clear ho
 change St W w (blk b4 33 (prV p adO cO)::_) at hs
 refine SK (st_box ha rfl hs rfl fun b5 a w ha hs ho=>?_)
 clear ho
 refine SK (st_alloc ha rfl hs Ty.t83 rfl fun b8 a w ha hs ho=>?_)
 clear ho
 change St W w (blk b8 83 (ints .i32 32 (fun _=>0))::_) at hs
 refine LN<|TN<|WS<|WS<|WR ?_
 iterate 3 (refine S1 ha fun a ha=>?_)
 refine LN<|TN<|wp_block ?_
 refine wp_loop_ghost (fun μ a w=>∃ (i : Nat) (g' : Nat→Int),(μ=P.length - i∧i≤P.length∧gOk g'∧foldI p fr g P=foldI p (fr+i) g' (P.drop i))∧Fr a 27 [(2,.int .i64 fr),(4,.pointer (some ⟨b4,0,none⟩)),(5,.pointer (some ⟨b5,0,none⟩)),(8,.pointer (some ⟨b8,0,none⟩)),(11,.slice adP P.length cP),(12,.int .i64 P.length),(13,.int .i64 i)]∧St W w (blk b5 83 (ints .i32 32 g')::blk b4 33 (prV p adO cO)::blk b8 83 (ints .i32 32 (fun _=>0))::RoP W p adO cO::L)) (P.length) ?_ ?_
 · exact ⟨0,g,⟨by simp,by simp,hg,by simp⟩,ha.keep [2,4,5,8,11,12,13],hs.sub⟩
 ·
  clear ha hs
  rintro μ a w ⟨i,g',⟨rfl,hi,hgo,hfo⟩,ha,hs⟩
  refine WS<|WR ?_
  refine S1 ha fun a ha=>?_
  refine LN<|TN<|WS ?_
  refine WI ha (fun hc0=>?_) (fun hc0=>?_)
  ·
   obtain ⟨z,hzi⟩ : ∃ z,zs[i]?=some z:=⟨_,List.getElem?_eq_getElem (by omega)⟩
   have hbs : P[i]?=some z.2.2:=by rw [← hz,List.getElem?_map,hzi]; rfl
   obtain ⟨bp,op,rfl,hrd⟩:=(hp _ (hs.sub (M:=L))).1 (by omega)
   have hcb:=hrd i (bbv z) (by rw [List.getElem?_map,hzi]; rfl)
   have hbm:=hP.2 _ (List.mem_of_getElem? hbs)
   have hfo2 : foldI p fr g P=foldI p (fr+(i+1 : Nat)) (frameI p (fr+i) z.2.2 g') (P.drop (i+1)):=by
     rw [hfo,List.drop_eq_getElem_cons (by omega),foldI]
     have : P[i]'(by omega)=z.2.2:=by rw [List.getElem?_eq_getElem (by omega)] at hbs; exact Option.some.inj hbs
     rw [this]
     congr 1
     omega
   refine WK<|TN<|WS<|wp_block<|WS<|WR ?_
   refine S1 ha fun a ha=>?_
   refine SK (st_set ha rfl (ex_indexAddr ha Tryz.underlying41 Ty.t22 (by omega)) rfl fun a ha=>?_)
   rw [Nat.mul_one] at ha
   refine SL ha (hcb) fun a ha=>?_
   rw [bbv] at ha
   iterate 2 (refine S1 ha fun a ha=>?_)
   refine LN<|TN<|WR ?_
   refine SK (st_set ha rfl (ex_loadN ha Tryz.underlying33 rfl Ty.t33 (hs.rdAll (b:=b4))) rfl fun a ha=>?_)
   refine SK (st_set ha rfl (ex_loadN ha Tryz.underlying83 rfl Ty.t83 (hs.rdAll (b:=b5))) rfl fun a ha=>?_)
   iterate 2 (refine S1 ha fun a ha=>?_)
   refine SK (st_set ha rfl (ex_addI ha (by omega) (by omega)) rfl fun a ha=>?_)
   refine S1 ha fun a ha=>?_
   refine SK (st_call ha rfl Ty.c85 rfl (vm_step (hs.pick (RoP W p adO cO)) hpr hsz hgo hbm (fun w' hw=>(hp w' hw.sub).2 z (List.mem_of_getElem? hzi))) ?_); clear ha hs
   rintro e w ⟨rfl,hs⟩
   refine ⟨_,rfl,?_⟩
   intro a ha
   refine SK (st_storeAll ha rfl hs Ty.t83 ints_one (by simp only [ints_len]) fun a w ha hs=>?_)
   refine LN<|BN<|TN<|WR ?_
   refine SK (st_set ha rfl (ex_addI ha (by omega) (by omega)) rfl fun a ha=>?_)
   refine S1d ha fun a ha=>?_
   refine LN<|TN ?_
   exact ⟨P.length - (i+1),by omega,i+1,_,⟨rfl,by omega,frameI_ok hpr hgo,hfo2⟩,ha.keep [2,4,5,8,11,12,13],hs.sub⟩
  ·
   refine wp_exit<|TE<|TE<|blk_e<|TN<|WS ?_
   obtain rfl : i=P.length:=by omega
   rw [List.drop_length,foldI] at hfo
   refine WR ?_
   refine SK (st_set ha rfl (ex_loadN ha Tryz.underlying83 rfl Ty.t83 (hs.rdAll (b:=b5))) rfl fun a ha=>?_)
   refine SK (st_storeAll ha rfl hs Ty.t83 ints_one (by simp only [ints_len]) fun a w ha hs=>?_)
   refine LN<|TN<|wp_ret ?_
   refine retC1 ha rfl (run_loadN Tryz.underlying83 rfl Ty.t83 (hs.rdAll (b:=b8))) ?_
   exact ⟨by rw [hfo],hs.sub⟩
end
end Go.Proofs.YtagpkhbkdbaigaaGreat
