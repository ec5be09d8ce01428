/- What may run, further. -/
import Derived.Test.YteoldcfapaiobaaGreatA08WkP
import Derived.Test.YteoldcfapaiobaaGreatA04Ty
import Derived.Test.YteoldcfapaiobaaGreatA06Snap2
namespace Go.Proofs.YteoldcfapaiobaaGreat
open Go.RowKit
set_option linter.unusedVariables false
set_option linter.unusedSimpArgs false
set_option maxRecDepth 10000
set_option synthInstance.maxSize 4000
set_option synthInstance.maxHeartbeats 400000
section
section
variable {W w:World}{L:List SP}{c:Nat}{ad:Option Addr}
theorem okOp_0 {o:OpR}{m:Int}(h:o.code=0):okOp m o↔(o.a=0∧o.b=0∧o.c=0):=by
 simp only[okOp,cellP]
 exact⟨λh=>by omega,λh2=>.inl ⟨h,h2⟩⟩
theorem okOp_1 {o:OpR}{m:Int}(h:o.code=1):okOp m o↔(cellP o.a∧o.c=0):=by
 simp only[okOp,cellP]
 exact⟨λh=>by omega,λh2=>.inr (.inl ⟨h,h2⟩)⟩
theorem okOp_9 {o:OpR}{m:Int}(h:o.code=9):okOp m o↔(0≤o.a∧o.a≤m∧o.b=0∧o.c=0):=by
 simp only[okOp,cellP]
 exact⟨λh=>by omega,λh2=>.inr (.inr (.inl ⟨h,h2⟩))⟩
theorem okOp_15 {o:OpR}{m:Int}(h:o.code=15):okOp m o↔(cellP o.a∧o.b=0∧o.c=0):=by
 simp only[okOp,cellP]
 exact⟨λh=>by omega,λh2=>.inr (.inr (.inr (.inl ⟨h,h2⟩)))⟩
theorem okOp_10 {o:OpR}{m:Int}(h:o.code=10):okOp m o↔(cellP o.a∧0≤o.b∧o.b≤m∧o.c=0):=by
 simp only[okOp,cellP]
 exact⟨λh=>by omega,λh2=>.inr (.inr (.inr (.inr (.inl ⟨h,h2⟩))))⟩
theorem okOp_2 {o:OpR}{m:Int}(h:o.code=2∨(11≤o.code∧o.code≤14)):okOp m o↔(cellP o.a∧cellP o.b∧o.c=0):=by
 simp only[okOp,cellP]
 exact⟨λh=>by omega,λh2=>.inr (.inr (.inr (.inr (.inr (.inl ⟨h,h2⟩)))))⟩
theorem okOp_3 {o:OpR}{m:Int}(h:3≤o.code∧o.code≤8):okOp m o↔(cellP o.a∧cellP o.b∧cellP o.c):=by
 simp only[okOp,cellP]
 exact⟨λh=>by omega,λh2=>.inr (.inr (.inr (.inr (.inr (.inr ⟨h.1,h.2,h2⟩)))))⟩
theorem okOp_tk {o:OpR}{m:Int}(h:okOp m o):0≤tkI o.code∧(tkI o.code<3→o.c=0)∧(tkI o.code<2→o.b=0)∧(tkI o.code<1→o.a=0):=by
 have hk:=tkI_cases o.code
 simp only[okOp,cellP]at h
 omega
theorem may_spec {o:OpR}{m:Nat}(hs:St W w L):Calls Tryz.prog 170 #[.agg (opR o).toArray,.int .i64 m] w λe w'=>∃ r:Bool,e=.returned (.bool r)∧(r=true↔okOp m o)∧St W w' L:=by
 have hk:=tkI_cases o.code
 have hfin:∀ (r:Bool) (P:Prop) (w':World),St W w' L→(r=true↔P)→(P↔okOp m o)→∃ r':Bool,Ending.returned (Value.bool r)=.returned (.bool r')∧(r'=true↔okOp m o)∧St W w' L:=λr P w' h e1 e2=>⟨r,rfl,e1.trans e2,h⟩
 refine EN Tryz.func170 Tryz.ntmps170 rfl rfl λa ha=>?_
 refine BX 1 ha hs λb2 a w ha hs=>?_
 change St W w (blk b2 114 (opR o)::_) at hs
 refine BX 0 ha hs λb3 a w ha hs=>?_
 refine CL 7 ha hs (takes_spec hs) λa w ha hs=>?_
 refine RN 1 ha hs λa ha=>?_
 refine wp_seq_cut (M:=λa w=>(0≤tkI o.code∧(tkI o.code<3→o.c=0)∧(tkI o.code<2→o.b=0)∧(tkI o.code<1→o.a=0))∧Fr a 76 [(2,pt b2),(3,pt b3),(5,.func (.func 200) #[] (List.toArray [pt b3]))]∧St W w (blk b3 3 [.int .i64 m]::blk b2 114 (opR o)::L)) ?_ ?_
 ·
  refine BY 4 ha hs (λhg2 a ha=>?_) λhg2 a ha=>?_
  ·
   refine RT 29 ha hs ?_
   exact hfin false False _ hs.sub (by simp) ⟨λh=>h.elim,λh=>by have h5:=okOp_tk h;omega⟩
  refine BY 3 ha hs (λhg5 a ha=>?_) λhg5 a ha=>?_
  ·
   refine BY 6 ha hs (λhg11 a ha=>?_) λhg11 a ha=>?_
   ·
    refine RT 20 ha hs ?_
    exact hfin false False _ hs.sub (by simp) ⟨λh=>h.elim,λh=>by have h5:=okOp_tk h;omega⟩
   refine BY 3 ha hs (λhg14 a ha=>?_) λhg14 a ha=>?_
   ·
    refine BY 6 ha hs (λhg20 a ha=>?_) λhg20 a ha=>?_
    ·
     refine RT 11 ha hs ?_
     exact hfin false False _ hs.sub (by simp) ⟨λh=>h.elim,λh=>by have h5:=okOp_tk h;omega⟩
    refine BY 3 ha hs (λhg23 a ha=>?_) λhg23 a ha=>?_
    ·
     refine IF 5 ha hs (λhc0 a ha=>?_) λhc0 a ha=>?_
     ·
      refine RT 2 ha hs ?_
      exact hfin false False _ hs.sub (by simp) ⟨λh=>h.elim,λh=>by have h5:=okOp_tk h;omega⟩
     refine RN 0 ha hs λa ha=>?_
     exact⟨by omega,ha.keep [2,3,5],hs.sub⟩
    refine RN 6 ha hs λa ha=>?_
    exact⟨by omega,ha.keep [2,3,5],hs.sub⟩
   refine BY 9 ha hs (λhg23 a ha=>?_) λhg23 a ha=>?_
   ·
    refine IF 5 ha hs (λhc0 a ha=>?_) λhc0 a ha=>?_
    ·
     refine RT 2 ha hs ?_
     exact hfin false False _ hs.sub (by simp) ⟨λh=>h.elim,λh=>by have h5:=okOp_tk h;omega⟩
    refine RN 0 ha hs λa ha=>?_
    exact⟨by omega,ha.keep [2,3,5],hs.sub⟩
   refine RN 6 ha hs λa ha=>?_
   exact⟨by omega,ha.keep [2,3,5],hs.sub⟩
  refine BY 9 ha hs (λhg14 a ha=>?_) λhg14 a ha=>?_
  ·
   refine BY 6 ha hs (λhg20 a ha=>?_) λhg20 a ha=>?_
   ·
    refine RT 11 ha hs ?_
    exact hfin false False _ hs.sub (by simp) ⟨λh=>h.elim,λh=>by have h5:=okOp_tk h;omega⟩
   refine BY 3 ha hs (λhg23 a ha=>?_) λhg23 a ha=>?_
   ·
    refine IF 5 ha hs (λhc0 a ha=>?_) λhc0 a ha=>?_
    ·
     refine RT 2 ha hs ?_
     exact hfin false False _ hs.sub (by simp) ⟨λh=>h.elim,λh=>by have h5:=okOp_tk h;omega⟩
    refine RN 0 ha hs λa ha=>?_
    exact⟨by omega,ha.keep [2,3,5],hs.sub⟩
   refine RN 6 ha hs λa ha=>?_
   exact⟨by omega,ha.keep [2,3,5],hs.sub⟩
  refine BY 9 ha hs (λhg23 a ha=>?_) λhg23 a ha=>?_
  ·
   refine IF 5 ha hs (λhc0 a ha=>?_) λhc0 a ha=>?_
   ·
    refine RT 2 ha hs ?_
    exact hfin false False _ hs.sub (by simp) ⟨λh=>h.elim,λh=>by have h5:=okOp_tk h;omega⟩
   refine RN 0 ha hs λa ha=>?_
   exact⟨by omega,ha.keep [2,3,5],hs.sub⟩
  refine RN 6 ha hs λa ha=>?_
  exact⟨by omega,ha.keep [2,3,5],hs.sub⟩
 clear ha;(try clear hs)
 rintro a w ⟨htk,ha,hs⟩
 refine IF 7 ha hs (λhc1 a ha=>?_) λhc1 a ha=>?_
 ·
  refine RT 2 ha hs ?_
  exact hfin true True _ hs.sub (by simp) ⟨λ_=>(okOp_0 hc1).2 (by omega),λ_=>trivial⟩
 refine IF 3 ha hs (λhc2 a ha=>?_) λhc2 a ha=>?_
 ·
  refine RN 3 ha hs λa ha=>?_
  refine st_buildSlice ha rfl hs Tryz.underlying53 Ty.t3 rfl rfl rfl rfl (by decide) (by decide) λb48 a w ha hs ho=>?_
  clear ho
  refine CL1 0 ha hs (cell_spec (zs:=[o.a]) hs (by simp)) λr a w ha ⟨hr,hs⟩=>?_
  refine RT 1 ha hs ?_
  exact hfin r _ _ hs.sub hr (by rw[okOp_1 hc2];simp only[CellsIn,List.forall_mem_cons,List.not_mem_nil,false_imp_iff,implies_true,and_true];exact⟨λh=>⟨h,by omega⟩,λh=>h.1⟩)
 refine IF 3 ha hs (λhc3 a ha=>?_) λhc3 a ha=>?_
 ·
  refine CL 4 ha hs (to_spec (hs.bring b3)) λa w ha hs=>?_
  refine RT 1 ha hs ?_
  exact hfin _ _ _ hs.sub decide_eq_true_iff (by rw[okOp_9 hc3];omega)
 refine IF 3 ha hs (λhc4 a ha=>?_) λhc4 a ha=>?_
 ·
  refine RN 3 ha hs λa ha=>?_
  refine st_buildSlice ha rfl hs Tryz.underlying53 Ty.t3 rfl rfl rfl rfl (by decide) (by decide) λb60 a w ha hs ho=>?_
  clear ho
  refine CL1 0 ha hs (cell_spec (zs:=[o.a]) hs (by simp)) λr a w ha ⟨hr,hs⟩=>?_
  simp only[CellsIn,List.forall_mem_cons,List.not_mem_nil,false_imp_iff,implies_true,and_true]at hr
  refine BY 1 ha hs (λhg4 a ha=>?_) λhg4 a ha=>?_
  ·
   refine CL 3 ha hs (to_spec (hs.bring b3)) λa w ha hs=>?_
   refine RT 2 ha hs ?_
   exact hfin _ _ _ hs.sub decide_eq_true_iff (by rw[okOp_10 hc4];exact⟨λh=>⟨hr.1 hg4,h.1,h.2,by omega⟩,λh=>⟨h.2.1,h.2.2.1⟩⟩)
  refine RT 6 ha hs ?_
  exact hfin _ False _ hs.sub (by simp) (by rw[okOp_10 hc4];exact⟨λh=>h.elim,λh=>by rw[hr.2 h.1]at hg4;cases hg4⟩)
 refine RN 7 ha hs λa ha=>?_
 refine st_buildSlice ha rfl hs Tryz.underlying53 Ty.t3 rfl rfl rfl rfl (by decide) (by decide) λb74 a w ha hs ho=>?_
 clear ho
 refine CL1 0 ha hs (cell_spec (zs:=[o.a,o.b,o.c]) hs (by simp)) λr a w ha ⟨hr,hs⟩=>?_
 refine RT 1 ha hs ?_
 refine hfin r _ _ hs.sub hr ?_
 simp only[CellsIn,List.forall_mem_cons,List.not_mem_nil,false_imp_iff,implies_true,and_true]
 have h00:cellP 0:=⟨by decide,by decide⟩
 rcases hk with hk | ⟨hk,hk2⟩ | ⟨hk,hk2⟩ | hk | hk
 · omega
 · have hcd:o.code=15:=by omega
   have hb0:o.b=0:=by omega
   have hc00:o.c=0:=by omega
   rw[okOp_15 hcd,hb0,hc00]
   exact⟨λh=>⟨h.1,rfl,rfl⟩,λh=>⟨h.1,h00,h00⟩⟩
 · have hc00:o.c=0:=by omega
   rw[okOp_2 (by omega),hc00]
   exact⟨λh=>⟨h.1,h.2.1,rfl⟩,λh=>⟨h.1,h.2.1,h00⟩⟩
 · rw[okOp_3 ⟨hk.1,hk.2.1⟩]
 · omega
abbrev prV (p:Pr)(ad:Option Addr)(c:Nat):List Value:=[.string p.title,.slice ad p.ops.length c]
abbrev RoP (W:World)(p:Pr)(ad:Option Addr)(c:Nat):SP:=Ro W 114 4 ad p.ops.length c (rows opR p.ops)
def fldI (o:OpR)(k:Nat):Int:=[o.code,o.a,o.b,o.c].getD k 0
theorem opR_at (o:OpR){k:Nat}(h:k<4):(opR o)[k]?=some (.int .i64 (fldI o k)):=by
 rcases (by omega:k=0∨k=1∨k=2∨k=3) with rfl | rfl | rfl | rfl <;> rfl
set_option maxHeartbeats 4000000 in
theorem encode_spec {p:Pr}(hs:St W w (RoP W p ad c::L))(hsz:p.title.size≤1000000000)(hol:p.ops.length≤1000000000) :
   Calls Tryz.prog 169 #[.agg (prV p ad c).toArray] w λe w'=>∃ ad' n' c',e=.returned (.slice ad' n' c')∧(ad'.isNone=true↔¬ formOk p)∧St W w' (RoP W p ad c::L):=by
 refine EN Tryz.func169 Tryz.ntmps169 rfl rfl λa ha=>?_
 refine BX 1 ha hs λb1 a w ha hs=>?_
 change St W w (blk b1 45 (prV p ad c)::_) at hs
 refine RN 1 ha hs λa ha=>?_
 refine wp_seq_cut (M:=λa w=>(tOk p.title=true∧1≤p.ops.length∧p.ops.length≤64)∧Fr a 62 [(1,pt b1)]∧St W w (blk b1 45 (prV p ad c)::RoP W p ad c::L)) ?_ ?_
 ·
  refine CL 3 ha hs (title_spec hs (by omega)) λa w ha hs=>?_
  refine BY 2 ha hs (λht a ha=>?_) λht a ha=>?_
  ·
   refine RT 14 ha hs ?_
   exact⟨none,0,0,rfl,⟨λ_ h=>(by
     obtain⟨h1,h2,h3,_⟩:=h
     first
       | (rw[h1]at ht;cases ht;done)
       | omega),λ_=>rfl⟩,hs.sub⟩
  refine BY 6 ha hs (λhg10 a ha=>?_) λhg10 a ha=>?_
  ·
   refine RT 8 ha hs ?_
   exact⟨none,0,0,rfl,⟨λ_ h=>(by
     obtain⟨h1,h2,h3,_⟩:=h
     first
       | (rw[h1]at ht;cases ht;done)
       | omega),λ_=>rfl⟩,hs.sub⟩
  refine IF 5 ha hs (λhc0 a ha=>?_) λhc0 a ha=>?_
  ·
   refine RT 2 ha hs ?_
   exact⟨none,0,0,rfl,⟨λ_ h=>(by
     obtain⟨h1,h2,h3,_⟩:=h
     first
       | (rw[h1]at ht;cases ht;done)
       | omega),λ_=>rfl⟩,hs.sub⟩
  refine RN 0 ha hs λa ha=>?_
  exact⟨⟨ht,by omega,by omega⟩,ha.keep [1],hs.sub⟩
 clear ha;(try clear hs)
 rintro a w ⟨hfo,ha,hs⟩
 refine wp_seq_cut (M:=λa w=>∃ (bs:List UInt8) (adb:Option Addr) (cb:Nat),(1≤bs.length∧bs.length≤p.title.size+30)∧Fr a 62 [(1,pt b1),(3,.slice adb bs.length cb)]∧St W w (Sl 5 1 adb bs.length cb (bc bs)::blk b1 45 (prV p ad c)::RoP W p ad c::L)) ?_ ?_
 ·
  refine DWC 0 (λw0 w'=>w'.cell? ⟨b1,1,none⟩=some (.slice ad p.ops.length c)∧w'.cell? ⟨b1,0,none⟩=some (.string p.title)) [2,4,5] [0,3,3001,3004,3005,1002,1006,7] ha hs λa w ha hs hH=>?_
  have hc1:w.cell? ⟨b1,1,none⟩=some (.slice ad p.ops.length c):=hs.rd1 rfl
  have hc0':w.cell? ⟨b1,0,none⟩=some (.string p.title):=hs.rd1 rfl
  have hC:=And.intro hc1 hc0'
  refine RH 2 ha hs hH hC λa ha=>?_
  refine QH ha (λw hc=>ld1 ha (hc.2)) hC λa ha=>?_
  refine QH ha (λw hc=>ld1 ha (hc.1)) hC λa ha=>?_
  refine RH 1 ha hs hH hC λa ha=>?_
  refine CL2 0 ha hs (bytes_spec hs (by omega)) λadp cp a w ha hs=>?_
  replace hC:=hH.at w (And.intro (hs.rd1 rfl) (hs.rd1 rfl))
  have hp2:=putL_len 9 (zz p.title.size) (by rw[zz];split <;> (simp;omega))
  have hss:p.title.data.toList.length=p.title.size:=rfl
  refine RH 0 ha hs hH hC λa ha=>?_
  refine CL2 0 ha hs (put_bytes (N:=p.ops.length) (hs.pick (Sl 5 1 adp (putL (zz p.title.size)++p.title.data.toList).length cp (bc (putL (zz p.title.size)++p.title.data.toList)))) (by omega) (by omega) (by rw[List.length_append];omega)) λadq cq a w ha hs=>?_
  refine RN 1 ha hs λa ha=>?_
  have hp3:=putL_len 9 (zz p.ops.length) (by rw[zz];split <;> (simp;omega))
  have hp4:=putL_pos (zz p.ops.length)
  exact⟨_,adq,cq,⟨by rw[List.length_append];omega,by rw[List.length_append,List.length_append];omega⟩,ha.keep [1,3],hs.sub⟩
 clear ha;(try clear hs)
 rintro a w ⟨bs,adb,cb,⟨hb1,hb2⟩,ha,hs⟩
 refine RN 6 ha hs λa ha=>?_
 refine wp_loop_ghost (λμ a w=>∃ (i:Nat) (bs:List UInt8) (adb:Option Addr) (cb:Nat),(μ=p.ops.length-i∧i≤p.ops.length∧1≤bs.length∧bs.length≤p.title.size+30+40*i∧∀ j o,j<i→p.ops[j]?=some o→i32O o)∧Fr a 62 [(3,.slice adb bs.length cb),(32,.slice ad p.ops.length c),(33,.int .i64 p.ops.length),(34,.int .i64 i)]∧St W w (Sl 5 1 adb bs.length cb (bc bs)::RoP W p ad c::L)) (p.ops.length) (⟨0,bs,adb,cb,⟨by simp,by simp,hb1,by omega,λj o h=>absurd h (by omega)⟩,ha.keep [3,32,33,34],hs.sub⟩) ?_
 clear ha hs
 rintro μ a w ⟨i,bs,adb,cb,⟨rfl,hi,hb1,hb2,hin⟩,ha,hs⟩
 refine IF 3 ha hs (λhc1 a ha=>?_) λhc1 a ha=>?_
 ·
  obtain⟨o,ho⟩:∃ o,p.ops[i]?=some o:=⟨_,List.getElem?_eq_getElem (by omega)⟩
  obtain⟨bo,oo,hade,hro⟩:=hs.roRd ad (by omega)
  rw[hade]at ha
  refine RN 3 ha hs λa ha=>?_
  refine SS ha (ex_loadN ha Tryz.underlying114 rfl Ty.t114 (op_rd hro ho)) λa ha=>?_
  refine AL 0 ha hs λb5 a w ha hs=>?_
  refine SA 0 ha hs λa w ha hs=>?_
  refine RN 9 ha hs λa ha=>?_
  refine SS ha (ex_buildA ha Tryz.underlying230 Ty.t230 Ty.t3 rfl rfl) λa ha=>?_
  change Fr a 62 ((46,.agg (opR o).toArray)::_) at ha
  refine RN 1 ha hs λa ha=>?_
  rw[← hade]at ha
  refine wp_loop_ghost (λμ a w=>∃ (k:Nat) (bs:List UInt8) (adb:Option Addr) (cb:Nat),(μ=4-k∧k≤4∧1≤bs.length∧bs.length≤p.title.size+30+40*i+10*k∧∀ j,j<k→i32P (fldI o j))∧Fr a 62 [(3,.slice adb bs.length cb),(32,.slice ad p.ops.length c),(33,.int .i64 p.ops.length),(34,.int .i64 i),(46,.agg (opR o).toArray),(47,.int .i64 k)]∧St W w (Sl 5 1 adb bs.length cb (bc bs)::RoP W p ad c::L)) (4) (⟨0,bs,adb,cb,⟨by simp,by simp,hb1,by omega,λj h=>absurd h (by omega)⟩,ha.keep [3,32,33,34,46,47],hs.sub⟩) ?_
  clear ha hs
  rintro μ a w ⟨k,bs,adb,cb,⟨rfl,hk,hb1,hb2,hik⟩,ha,hs⟩
  refine IF 3 ha hs (λhc2 a ha=>?_) λhc2 a ha=>?_
  ·
   refine RN 2 ha hs λa ha=>?_
   refine SS ha (ex_index1 ha Tryz.underlying230 Tryz.underlying3 rfl Ty.t3 (by omega) (opR_at o (by omega))) λa ha=>?_
   refine BY 6 ha hs (λhg2 a ha=>?_) λhg2 a ha=>?_
   ·
    refine RT 6 ha hs ?_
    refine⟨none,0,0,rfl,⟨λ_ h=>?_,λ_=>rfl⟩,hs.sub⟩
    obtain⟨_,_,_,h4⟩:=h
    have h5:=h4 o (List.mem_of_getElem? ho)
    have h6:i32P (fldI o k):=by
      rcases (by omega:k=0∨k=1∨k=2∨k=3) with rfl | rfl | rfl | rfl
      · exact h5.1
      · exact h5.2.1
      · exact h5.2.2.1
      · exact h5.2.2.2
    simp only[i32P]at h6
    omega
   refine IF 3 ha hs (λhc3 a ha=>?_) λhc3 a ha=>?_
   ·
    refine RT 2 ha hs ?_
    refine⟨none,0,0,rfl,⟨λ_ h=>?_,λ_=>rfl⟩,hs.sub⟩
    obtain⟨_,_,_,h4⟩:=h
    have h5:=h4 o (List.mem_of_getElem? ho)
    have h6:i32P (fldI o k):=by
      rcases (by omega:k=0∨k=1∨k=2∨k=3) with rfl | rfl | rfl | rfl
      · exact h5.1
      · exact h5.2.1
      · exact h5.2.2.1
      · exact h5.2.2.2
    simp only[i32P]at h6
    omega
   refine CL2 2 ha hs (put_bytes (N:=fldI o k) (hs.pick (Sl 5 1 adb bs.length cb (bc bs))) (by omega) (by omega) (by omega)) λadq cq a w ha hs=>?_
   refine RN 3 ha hs λa ha=>?_
   have hp3:=putL_len 9 (zz (fldI o k)) (by rw[zz];split <;> (simp;omega))
   refine⟨4-(k+1),by omega,k+1,bs++putL (zz (fldI o k)),adq,cq,⟨rfl,by omega,by rw[List.length_append];omega,by rw[List.length_append];omega,λj hj=>?_⟩,ha.keep [3,32,33,34,46,47],hs.sub⟩
   rcases Nat.lt_or_ge j k with h | h
   · exact hik j h
   · obtain rfl:j=k:=by omega
     simp only[i32P];omega
  refine RN 0 ha hs λa ha=>?_
  obtain rfl:k=4:=by omega
  refine RN 2 ha hs λa ha=>?_
  refine⟨p.ops.length-(i+1),by omega,i+1,bs,adb,cb,⟨rfl,by omega,hb1,by omega,λj o' hj ho'=>?_⟩,ha.keep [3,32,33,34],hs.sub⟩
  rcases Nat.lt_or_ge j i with h | h
  · exact hin j o' h ho'
  · obtain rfl:j=i:=by omega
    rw[ho]at ho';cases ho'
    exact⟨hik 0 (by omega),hik 1 (by omega),hik 2 (by omega),hik 3 (by omega)⟩
 refine RT 3 ha hs ?_
 obtain⟨bx,ox,hax,_⟩:=hs.slRd adb (by omega)
 refine⟨adb,bs.length,cb,rfl,⟨λh=>(by rw[hax]at h;cases h),λh=>?_⟩,hs.sub⟩
 exact absurd ⟨hfo.1,hfo.2.1,hfo.2.2,λo' ho'=>(by
   obtain⟨j,hj⟩:=List.mem_iff_getElem?.1 ho'
   exact hin j o' (by have:=(List.getElem?_eq_some_iff.1 hj).1;omega) hj)⟩ h
theorem fault_spec {p:Pr}(hs:St W w (RoP W p ad c::L))(hsz:p.title.size≤1000000000)(hol:p.ops.length≤1000000000) :
   Calls Tryz.prog 132 #[.agg (prV p ad c).toArray] w λe w'=>∃ r:Int,e=.returned (.int .i64 r)∧(r = -1↔prOk p)∧St W w' (RoP W p ad c::L):=by
 refine EN Tryz.func132 Tryz.ntmps132 rfl rfl λa ha=>?_
 refine BX 1 ha hs λb1 a w ha hs=>?_
 change St W w (blk b1 45 (prV p ad c)::_) at hs
 refine CL3 4 ha hs (encode_spec (hs.pick (RoP W p ad c)) hsz hol) λade ne ce a w ha ⟨hne,hs⟩=>?_
 refine IF 1 ha hs (λhc0 a ha=>?_) λhc0 a ha=>?_
 ·
  refine RT 2 ha hs ?_
  exact⟨-2,rfl,⟨λh=>absurd h (by decide),λh=>absurd h.1 (hne.1 hc0)⟩,hs.sub⟩
 have hfo:formOk p:=Classical.byContradiction λh=>by rw[hne.2 h]at hc0;cases hc0
 refine RN 6 ha hs λa ha=>?_
 refine wp_loop_ghost (λμ a w=>∃ i:Nat,(μ=p.ops.length-i∧i≤p.ops.length∧∀ j o,j<i→p.ops[j]?=some o→okOp p.ops.length o)∧Fr a 24 [(1,pt b1),(9,.slice ad p.ops.length c),(10,.int .i64 p.ops.length),(11,.int .i64 i)]∧St W w (blk b1 45 (prV p ad c)::RoP W p ad c::L)) (p.ops.length) (⟨0,⟨by simp,by simp,λj o h=>absurd h (by omega)⟩,ha.keep [1,9,10,11],hs.sub⟩) ?_
 clear ha hs
 rintro μ a w ⟨i,⟨rfl,hi,hin⟩,ha,hs⟩
 refine IF 3 ha hs (λhc1 a ha=>?_) λhc1 a ha=>?_
 ·
  obtain⟨o,ho⟩:∃ o,p.ops[i]?=some o:=⟨_,List.getElem?_eq_getElem (by omega)⟩
  obtain⟨bo,oo,hade,hro⟩:=hs.roRd ad (by omega)
  rw[hade]at ha
  refine RN 4 ha hs λa ha=>?_
  refine SS ha (ex_loadN ha Tryz.underlying114 rfl Ty.t114 (op_rd hro ho)) λa ha=>?_
  refine AL 0 ha hs λb4 a w ha hs=>?_
  refine SA 1 ha hs λa w ha hs=>?_
  refine CL1 5 ha hs (may_spec (o:=o) (m:=p.ops.length) hs) λr a w ha ⟨hr,hs⟩=>?_
  refine IF 1 ha hs (λhc2 a ha=>?_) λhc2 a ha=>?_
  ·
   refine RT 3 ha hs ?_
   refine⟨i,rfl,⟨λh=>absurd h (by omega),λh=>?_⟩,hs.sub⟩
   rw[hr.2 (h.2 o (List.mem_of_getElem? ho))]at hc2;cases hc2
  have hrt:r=true:=by simpa using hc2
  refine RN 2 ha hs λa ha=>?_
  rw[← hade]at ha
  refine⟨p.ops.length-(i+1),by omega,i+1,⟨rfl,by omega,λj o' hj ho'=>?_⟩,ha.keep [1,9,10,11],hs.sub⟩
  rcases Nat.lt_or_ge j i with h | h
  · exact hin j o' h ho'
  · obtain rfl:j=i:=by omega
    rw[ho]at ho';cases ho'
    exact hr.1 hrt
 refine RT 2 ha hs ?_
 refine⟨-1,rfl,⟨λ_=>⟨hfo,λo ho=>?_⟩,λ_=>rfl⟩,hs.sub⟩
 obtain⟨j,hj⟩:=List.mem_iff_getElem?.1 ho
 exact hin j o (by have:=(List.getElem?_eq_some_iff.1 hj).1;omega) hj
theorem checkMay_spec {p:Pr}(hs:St W w (RoP W p ad c::L))(hsz:p.title.size≤1000000000)(hol:p.ops.length≤1000000000) :
   Calls Tryz.prog 97 #[.agg (prV p ad c).toArray] w λe w'=>∃ r:Bool,e=.returned (.bool r)∧(r=true↔prOk p)∧St W w' (RoP W p ad c::L):=by
 refine EN Tryz.func97 Tryz.ntmps97 rfl rfl λa ha=>?_
 refine BX 1 ha hs λb1 a w ha hs=>?_
 change St W w (blk b1 45 (prV p ad c)::_) at hs
 refine CL1 3 ha hs (fault_spec (hs.pick (RoP W p ad c)) hsz hol) λr a w ha ⟨hr,hs⟩=>?_
 refine RT 2 ha hs ?_
 exact⟨_,rfl,by rw[decide_eq_true_iff];exact hr,hs.sub⟩
end
end
section
section
variable {W w:World}{L:List SP}
theorem wmod_spec {x:Int}(hs:St W w L)(hx:i32P x):Calls Tryz.prog 229 #[.int .i32 x,.int .i64 32] w λe w'=>e=.returned (.int .i64 (mod32 x))∧St W w' L:=by
 have h1:=Int.tmod_lt_of_pos x (b:=32) (by decide)
 have h2:=Int.lt_tmod_of_pos x (b:=32) (by decide)
 have hm:(mod32 x:Int)=x%32:=by
   have h1:=Int.emod_nonneg x (show (32:Int)≠0 by decide)
   show (((x%32).toNat:Nat):Int)=_
   omega
 have ht:x.tmod 32=if 0≤x then x%32 else -((-x)%32):=by
   split
   · exact Int.tmod_eq_emod_of_nonneg (by omega)
   · rw[← Int.neg_neg (x.tmod 32),← Int.neg_tmod,Int.tmod_eq_emod_of_nonneg (by omega)]
 simp only[i32P]at hx
 refine EN Tryz.func229 Tryz.ntmps229 rfl rfl λa ha=>?_
 refine RN 6 ha hs λa ha=>?_
 replace ha:=ha.isF 7
 refine SX 3 ha hs (by rw[wrap_in (by omega) (by omega)]) λa ha=>?_
 refine IF 7 ha hs (λhc1 a ha=>?_) λhc1 a ha=>?_
 ·
  refine RN 4 ha hs λa ha=>?_
  rw[show x.tmod 32+32=(mod32 x:Int) from by rw[hm,ht];split <;> omega]at ha
  refine RT 3 ha hs ?_
  exact⟨rfl,hs⟩
 refine RT 3 ha hs ?_
 exact⟨by rw[hm,show x.tmod 32=x%32 from by rw[ht] at *;split at*<;> omega],hs⟩
theorem wadd_spec {x y:Int}(hs:St W w L):Calls Tryz.prog 244 #[.int .i32 x,.int .i32 y] w λe w'=>e=.returned (.int .i32 (w32 (x+y)))∧St W w' L:=by
 refine EN Tryz.func244 Tryz.ntmps244 rfl rfl λa ha=>?_
 refine RT 7 ha hs ?_
 exact⟨rfl,hs⟩
theorem wsub_spec {x y:Int}(hs:St W w L):Calls Tryz.prog 245 #[.int .i32 x,.int .i32 y] w λe w'=>e=.returned (.int .i32 (w32 (x-y)))∧St W w' L:=by
 refine EN Tryz.func245 Tryz.ntmps245 rfl rfl λa ha=>?_
 refine RT 7 ha hs ?_
 exact⟨rfl,hs⟩
theorem wmul_spec {x y:Int}(hs:St W w L):Calls Tryz.prog 246 #[.int .i32 x,.int .i32 y] w λe w'=>e=.returned (.int .i32 (w32 (x*y)))∧St W w' L:=by
 refine EN Tryz.func246 Tryz.ntmps246 rfl rfl λa ha=>?_
 refine RT 7 ha hs ?_
 exact⟨rfl,hs⟩
theorem wdiv_spec {x y:Int}(hs:St W w L):Calls Tryz.prog 247 #[.int .i32 x,.int .i32 y] w λe w'=>e=.returned (.int .i32 (if y=0 then 0 else w32 (x.tdiv y)))∧St W w' L:=by
 refine EN Tryz.func247 Tryz.ntmps247 rfl rfl λa ha=>?_
 refine IF 8 ha hs (λhc0 a ha=>?_) λhc0 a ha=>?_
 ·
  refine RT 2 ha hs ?_
  exact⟨by rw[if_pos (by omega)],hs⟩
 refine IF 3 ha hs (λhc1 a ha=>?_) λhc1 a ha=>?_
 ·
  refine RT 4 ha hs ?_
  exact⟨by rw[if_neg (by omega),show y = -1 from by omega,Int.tdiv_neg,Int.tdiv_one,show (0:Int)-x = -x from by omega];rfl,hs⟩
 refine RN 3 ha hs λa ha=>?_
 refine SS ha (ex_quoW ha (by omega)) λa ha=>?_
 refine RT 1 ha hs ?_
 exact⟨by rw[if_neg (by omega)];rfl,hs⟩
theorem flag_spec {z:Bool}(hs:St W w L):Calls Tryz.prog 248 #[.bool z] w λe w'=>e=.returned (.int .i32 (if z=true then 1 else 0))∧St W w' L:=by
 refine EN Tryz.func248 Tryz.ntmps248 rfl rfl λa ha=>?_
 refine IF 5 ha hs (λhc0 a ha=>?_) λhc0 a ha=>?_
 ·
  refine RT 2 ha hs ?_
  exact⟨by rw[if_pos hc0],hs⟩
 refine RT 2 ha hs ?_
 exact⟨by rw[if_neg (by rw[hc0];decide)],hs⟩
theorem sum_spec {k x y:Int}(hs:St W w L):Calls Tryz.prog 242 #[.int .i64 k,.int .i32 x,.int .i32 y] w λe w'=>e=.returned (.int .i32 (sumI k x y))∧St W w' L:=by
 refine EN Tryz.func242 Tryz.ntmps242 rfl rfl λa ha=>?_
 refine IF 8 ha hs (λhc0 a ha=>?_) λhc0 a ha=>?_
 ·
  refine CL 3 ha hs (wadd_spec hs) λa w ha hs=>?_
  refine RT 1 ha hs ?_
  exact⟨by simp[sumI,hc0],hs⟩
 refine IF 3 ha hs (λhc1 a ha=>?_) λhc1 a ha=>?_
 ·
  refine CL 3 ha hs (wsub_spec hs) λa w ha hs=>?_
  refine RT 1 ha hs ?_
  exact⟨by simp[sumI,hc1],hs⟩
 refine IF 3 ha hs (λhc2 a ha=>?_) λhc2 a ha=>?_
 ·
  refine CL 3 ha hs (wmul_spec hs) λa w ha hs=>?_
  refine RT 1 ha hs ?_
  exact⟨by simp[sumI,hc2],hs⟩
 refine IF 3 ha hs (λhc3 a ha=>?_) λhc3 a ha=>?_
 ·
  refine CL 3 ha hs (wdiv_spec hs) λa w ha hs=>?_
  refine RT 1 ha hs ?_
  exact⟨by simp[sumI,hc3],hs⟩
 refine IF 3 ha hs (λhc4 a ha=>?_) λhc4 a ha=>?_
 ·
  refine CL 4 ha hs (flag_spec hs) λa w ha hs=>?_
  refine RT 1 ha hs ?_
  exact⟨by simp[sumI,hc4],hs⟩
 refine CL 4 ha hs (flag_spec hs) λa w ha hs=>?_
 refine RT 1 ha hs ?_
 exact⟨by simp[sumI,hc0,hc1,hc2,hc3,hc4],hs⟩
theorem at_spec {s:ByteArray}{n:Int}(hs:St W w L)(hsz:s.size≤1099511627776)(hn:i32P n):Calls Tryz.prog 241 #[.string s,.int .i64 n] w λe w'=>e=.returned (.int .i32 (runeI s n))∧St W w' L:=by
 simp only[i32P]at hn
 refine EN Tryz.func241 Tryz.ntmps241 rfl rfl λa ha=>?_
 refine RN 5 ha hs λa ha=>?_
 refine st_range ha rfl hs Tryz.underlying9 rfl λb8 a w ha hs ho=>?_
 clear ho
 refine RN 0 ha hs λa ha=>?_
 refine wp_loop_ghost (λμ a w=>∃ (pos:Nat) (dn:List (Nat×Nat)),(μ=s.size-pos∧pos≤s.size∧runesAt s 0=dn++runesAt s pos∧dn.length≤pos∧(n<0∨(dn.length:Int)≤n))∧Fr a 17 [(0,.string s),(1,.int .i64 (n-dn.length)),(8,pt b8)]∧St W w (pts b8 (.stringIter s pos)::L)) (s.size) (⟨0,[],⟨by simp,by simp,by simp,by simp,by simp;omega⟩,by rw[show n-(([]:List (Nat×Nat)).length:Int)=n from by simp];exact ha.keep [0,1,8],hs⟩) ?_
 clear ha hs
 rintro μ a w ⟨pos,dn,⟨rfl,hpos,hdn,hdl,hnn⟩,ha,hs⟩
 refine RN 1 ha hs λa ha=>?_
 refine st_next ha rfl hs rfl λa w ha hs=>?_
 refine RN 0 ha hs λa ha=>?_
 refine SS ha (ex_extract ha (nx0 s pos)) λa ha=>?_
 refine IF 1 ha hs (λhc0 a ha=>?_) λhc0 a ha=>?_
 ·
  have hra:=runesAt_in hc0
  have hal:=adv_le hpos
  have had:adv s pos=pos+(Utf8.decode s pos).2:=by rw[adv,if_pos hc0]
  have hwp:=decode_pos s pos
  refine RN 1 ha hs λa ha=>?_
  refine SS ha (ex_extract ha (nx2 hc0)) λa ha=>?_
  refine IF 5 ha hs (λhc1 a ha=>?_) λhc1 a ha=>?_
  ·
   refine RT 3 ha hs ?_
   refine⟨?_,hs.sub⟩
   have hnl:n.toNat=dn.length:=by omega
   rw[runeI,if_pos (by omega),hdn,hra,hnl,List.getElem?_append_right (Nat.le_refl _),Nat.sub_self];rfl
  refine RN 3 ha hs λa ha=>?_
  exact⟨s.size-adv s pos,by omega,adv s pos,dn++[Utf8.decode s pos],⟨rfl,hal,by rw[hdn,hra,List.append_assoc];rfl,by rw[List.length_append];simp;omega,by rw[List.length_append];simp;omega⟩,by rw[show n-((dn++[Utf8.decode s pos]).length:Int)=n-(dn.length:Int)-1 from by rw[List.length_append];simp;omega];exact ha.keep [0,1,8],hs.sub⟩
 refine RT 2 ha hs ?_
 refine⟨?_,hs.sub⟩
 have hro:=runesAt_out (s:=s) (pos:=pos) hc0
 rw[hro,List.append_nil]at hdn
 rw[runeI]
 split
 · rw[hdn,List.getElem?_eq_none (by omega)];rfl
 · rfl
structure MemS (W:World)(t:TypeId)(ad:Addr)(fg fs:FuncId)(J:(Nat→Int)→Bool→SP):Prop where
 mG : MethodT Tryz.prog t "Get" fg
 cG:callable Tryz.prog fg=true
 mS : MethodT Tryz.prog t "Set" fs
 cS:callable Tryz.prog fs=true
 ok:∀ (w:World) (L:List SP) (g:Nat→Int) (bad:Bool),St W w (J g bad::L)→gOk g
 get:∀ (w:World) (L:List SP) (g:Nat→Int) (bad:Bool) (c:Nat),c<32→St W w (J g bad::L)→Calls Tryz.prog fg (List.toArray [.pointer (some ad),.int .i64 c]) w λe w'=>e=.returned (.int .i32 (g c))∧St W w' (J g bad::L)
 set:∀ (w:World) (L:List SP) (g:Nat→Int) (bad:Bool) (c:Nat) (v:Int),c<32→i32P v→St W w (J g bad::L)→Calls Tryz.prog fs (List.toArray [.pointer (some ad),.int .i64 c,.int .i32 v]) w λe w' =>
   ∃ (g':Nat→Int) (bad':Bool),e=.returned (.tuple #[])∧((bad'=true∧g'=g)∨(bad'=false∧bad=false∧g'=upd g c v))∧St W w' (J g' bad'::L)
abbrev runC (p:Pr)(adO:Option Addr)(cO:Nat)(t:TypeId)(ad:Addr)(fr:Int)(adP:Option Addr)(nP cP:Nat)(at':Nat):List Value :=
 [.string p.title,.slice adO p.ops.length cO,.iface t (.pointer (some ad)),.int .i64 fr,.slice adP nP cP,.int .i64 at']
variable {t:TypeId}{ad:Addr}{fg fs br at' cO cP:Nat}{J:(Nat→Int)→Bool→SP}{p:Pr}{adO adP:Option Addr}{fr:Int}{b:List UInt8}{g:Nat→Int}{bad:Bool}{o:OpR}
theorem in_spec {x:Int}(hs:St W w (blk br 336 (runC p adO cO t ad fr adP b.length cP at')::L))(hx:i32P x)(hb:b.length≤1099511627776)(hp:∀ w',St W w' L→RdB w' adP b.length b) :
   Calls Tryz.prog 240 #[pt br,.int .i32 x] w λe w'=>e=.returned (.int .i32 (pressI b x))∧St W w' (blk br 336 (runC p adO cO t ad fr adP b.length cP at')::L):=by
 simp only[i32P]at hx
 refine EN Tryz.func240 Tryz.ntmps240 rfl rfl λa ha=>?_
 refine BY 7 ha hs (λhg2 a ha=>?_) λhg2 a ha=>?_
 ·
  refine RT 12 ha hs ?_
  exact⟨by rw[pressI,if_neg (by omega)],hs⟩
 refine SX 1 ha hs (by rw[wrap_in (by omega) (by omega)]) λa ha=>?_
 refine IF 7 ha hs (λhc0 a ha=>?_) λhc0 a ha=>?_
 ·
  refine RT 2 ha hs ?_
  exact⟨by rw[pressI,if_neg (by omega)],hs⟩
 refine RN 1 ha hs λa ha=>?_
 obtain⟨k,hk⟩:∃ k:Nat,x=(k:Int):=⟨x.toNat,by omega⟩
 obtain⟨_,_,hpr⟩:=hp _ hs.tail
 have hkb:k<b.length:=by omega
 obtain⟨bp,op,hade,hrd⟩:∃ bp op,adP=some ⟨bp,op,none⟩∧Rd w bp op (bc b):=by
   cases hh:adP with
   | none =>
     have:=(hp _ hs.tail).2.1 hh
     omega
   | some a =>
     obtain⟨b1,o1,rfl,h1⟩:=hpr a hh (by omega)
     exact⟨b1,o1,rfl,h1⟩
 rw[hk]at ha
 refine RN 4 ha hs λa ha=>?_
 rw[hade]at ha
 refine RN 2 ha hs λa ha=>?_
 refine SS ha (ld1 ha (hrd k (.int .u8 b[k].toNat) (by simp[bc,hkb]))) λa ha=>?_
 refine SX 0 ha hs (by have:=b[k].toNat_lt;exact wrap32' (by omega) (by omega)) λa ha=>?_
 refine RT 1 ha hs ?_
 refine⟨?_,hs.sub⟩
 rw[pressI,if_pos (by omega),hk,Int.toNat_natCast,List.getD_eq_getElem?_getD,List.getElem?_eq_getElem hkb];rfl
theorem upd_ok {c:Nat}{v:Int}(h:gOk g)(hv:i32P v):gOk (upd g c v):=λd hd=>by
 simp only[upd];split
 · exact hv
 · exact h d hd
def LeN (x:Int)(m:Nat):Prop:=∃ n:Nat,x=(n:Int)∧n≤m
def LtN (x:Int)(m:Nat):Prop:=∃ n:Nat,x=(n:Int)∧n<m
theorem LeN.of {x:Int}{m:Nat}(h:0≤x∧x≤m):LeN x m:=⟨x.toNat,by omega,by omega⟩
theorem LtN.of {x:Int}{m:Nat}(h:0≤x∧x<m):LtN x m:=⟨x.toNat,by omega,by omega⟩
theorem value_spec {M:MemS W t ad fg fs J}{m:Nat}(hs:St W w (blk br 336 (runC p adO cO t ad fr adP b.length cP at')::J g bad::L))(ho:okOp m o)(h0:o.code≠0)(h9:o.code≠9)(h10:o.code≠10)(h13:o.code≠13)
   (hsz:p.title.size≤1000000000) (hb:b.length≤1099511627776) (hp:∀ w',St W w' L→RdB w' adP b.length b) :
   Calls Tryz.prog 230 #[pt br,.agg (opR o).toArray] w λe w'=>e=.returned (.int .i32 (valI p fr b g o))∧St W w' (blk br 336 (runC p adO cO t ad fr adP b.length cP at')::J g bad::L):=by
 have hg:gOk g:=M.ok _ _ g bad hs.tail
 have hop:=ho
 simp only[okOp,cellP]at hop
 have hbc:o.code≠1→o.code≠15→LtN o.b 32:=λh1 h2=>LtN.of (by omega)
 have hcc:3≤o.code∧o.code≤8→LtN o.c 32:=λh=>LtN.of (by omega)
 have hcr:o.code≠1→o.code≠2→o.code≠11→o.code≠12→o.code≠14→o.code≠15→3≤o.code∧o.code≤8:=by omega
 clear hop
 refine EN Tryz.func230 Tryz.ntmps230 rfl rfl λa ha=>?_
 refine BX 1 ha hs λb3 a w ha hs=>?_
 change St W w (blk b3 114 (opR o)::_) at hs
 refine IF 8 ha hs (λhc0 a ha=>?_) λhc0 a ha=>?_
 ·
  refine RN 3 ha hs λa ha=>?_
  refine SS ha (ex_convII ha Tryz.underlying3 Tryz.underlying21) λa ha=>?_
  refine RT 1 ha hs ?_
  exact⟨by simp[valI,hc0];rfl,hs.sub⟩
 refine IF 3 ha hs (λhc1 a ha=>?_) λhc1 a ha=>?_
 ·
  refine RN 1 ha hs λa ha=>?_
  obtain⟨bn,hbn,hb32⟩:=hbc (by omega) (by omega)
  refine DWO 0 [5] [0,1,2,4,3003,1005,1006,7] ha hs λa w ha hs hH hC=>?_
  refine RH 6 ha hs hH hC λa ha=>?_
  rw[hbn]at ha
  refine st_callI ha rfl M.mG M.cG rfl (M.get _ _ g bad bn hb32 (hs.pick (J g bad))) (by rfl) ?_
  clear ha hs
  rintro e w ⟨rfl,hs⟩
  refine⟨_,rfl,λa ha=>?_⟩
  refine RN 1 ha hs λa ha=>?_
  refine RT 0 ha hs ?_
  exact⟨by simp[valI,hc1,hbn],hs.sub⟩
 refine IF 3 ha hs (λhc2 a ha=>?_) λhc2 a ha=>?_
 ·
  refine RN 1 ha hs λa ha=>?_
  obtain⟨bn,hbn,hb32⟩:=hbc (by omega) (by omega)
  refine DWO 0 [6] [0,1,2,3,5,3004,1006,1007,1008,9] ha hs λa w ha hs hH hC=>?_
  refine RH 7 ha hs hH hC λa ha=>?_
  rw[hbn]at ha
  refine st_callI ha rfl M.mG M.cG rfl (M.get _ _ g bad bn hb32 (hs.pick (J g bad))) (by rfl) ?_
  clear ha hs
  rintro e w ⟨rfl,hs⟩
  refine⟨_,rfl,λa ha=>?_⟩
  refine CL 0 ha hs (in_spec (hs.bring br) (hg bn hb32) hb (λw' h=>hp w' h.sub)) λa w ha hs=>?_
  refine RN 1 ha hs λa ha=>?_
  refine RT 0 ha hs ?_
  exact⟨by simp[valI,hc2,hbn],hs.sub⟩
 refine IF 3 ha hs (λhc3 a ha=>?_) λhc3 a ha=>?_
 ·
  refine DWC 1 (λw0 w'=>Rd w' br 0 (runC p adO cO t ad fr adP b.length cP at')∧Rd w' b3 0 (opR o)) [7,9,10,11] [0,1,2,4,5,6,8,3003,12,13,3007,1009,1010,1011,1014,15] ha hs λa w ha hs hH=>?_
  obtain⟨bn,hbn,hb32⟩:=hbc (by omega) (by omega)
  have hm32:=mod32_lt (g bn)
  have hrr:Rd w br 0 (runC p adO cO t ad fr adP b.length cP at'):=hs.rdAll
  have hro:Rd w b3 0 (opR o):=hs.rdAll
  have hC:=And.intro hrr hro
  refine RH 7 ha hs hH hC λa ha=>?_
  refine QH ha (λw hc=>ld1 ha (hc.1 2 _ rfl)) hC λa ha=>?_
  refine RH 2 ha hs hH hC λa ha=>?_
  refine QH ha (λw hc=>ld1 ha (hc.1 2 _ rfl)) hC λa ha=>?_
  refine RH 0 ha hs hH hC λa ha=>?_
  refine SS ha (ld1 ha (hC.2 2 _ rfl)) λa ha=>?_
  rw[hbn]at ha
  refine RH 0 ha hs hH hC λa ha=>?_
  refine st_callI ha rfl M.mG M.cG rfl (M.get _ _ g bad bn hb32 (hs.pick (J g bad))) (by rfl) ?_
  clear ha hs
  rintro e w ⟨rfl,hs⟩
  refine⟨_,rfl,λa ha=>?_⟩
  replace hC:=hH.at w (And.intro hs.rdAll hs.rdAll)
  refine RH 0 ha hs hH hC λa ha=>?_
  refine CL 0 ha hs (wmod_spec hs (hg bn hb32)) λa w ha hs=>?_
  replace hC:=hH.at w (And.intro hs.rdAll hs.rdAll)
  refine RH 0 ha hs hH hC λa ha=>?_
  refine st_callI ha rfl M.mG M.cG rfl (M.get _ _ g bad (mod32 (g bn)) hm32 (hs.pick (J g bad))) (by rfl) ?_
  clear ha hs
  rintro e w ⟨rfl,hs⟩
  refine⟨_,rfl,λa ha=>?_⟩
  refine RN 1 ha hs λa ha=>?_
  refine RT 0 ha hs ?_
  exact⟨by simp[valI,hc3,hbn],hs.sub⟩
 refine IF 3 ha hs (λhc4 a ha=>?_) λhc4 a ha=>?_
 ·
  refine DWC 1 (λw0 w'=>Rd w' br 0 (runC p adO cO t ad fr adP b.length cP at')∧Rd w' b3 0 (opR o)) [8,10,11,12] [0,1,2,3,5,6,7,9,3004,3008,1010,1011,1012,1013,14] ha hs λa w ha hs hH=>?_
  obtain⟨bn,hbn,hb32⟩:=hbc (by omega) (by omega)
  have hgi:=hg bn hb32
  have hgi2:=hgi
  simp only[i32P]at hgi2
  have hrr:Rd w br 0 (runC p adO cO t ad fr adP b.length cP at'):=hs.rdAll
  have hro:Rd w b3 0 (opR o):=hs.rdAll
  have hC:=And.intro hrr hro
  refine RH 8 ha hs hH hC λa ha=>?_
  refine QH ha (λw hc=>ld1 ha (hc.1 0 _ rfl)) hC λa ha=>?_
  refine QH ha (λw hc=>ld1 ha (hc.1 2 _ rfl)) hC λa ha=>?_
  refine RH 0 ha hs hH hC λa ha=>?_
  refine SS ha (ld1 ha (hC.2 2 _ rfl)) λa ha=>?_
  rw[hbn]at ha
  refine RH 0 ha hs hH hC λa ha=>?_
  refine st_callI ha rfl M.mG M.cG rfl (M.get _ _ g bad bn hb32 (hs.pick (J g bad))) (by rfl) ?_
  clear ha hs
  rintro e w ⟨rfl,hs⟩
  refine⟨_,rfl,λa ha=>?_⟩
  replace hC:=hH.at w (And.intro hs.rdAll hs.rdAll)
  refine RH 0 ha hs hH hC λa ha=>?_
  refine SX 0 ha hs (by rw[wrap_in (by omega) (by omega)]) λa ha=>?_
  refine RH 0 ha hs hH hC λa ha=>?_
  refine CL 0 ha hs (at_spec hs (by omega) hgi) λa w ha hs=>?_
  refine RN 1 ha hs λa ha=>?_
  refine RT 0 ha hs ?_
  exact⟨by simp[valI,hc4,hbn],hs.sub⟩
 refine IF 3 ha hs (λhc5 a ha=>?_) λhc5 a ha=>?_
 ·
  refine RN 5 ha hs λa ha=>?_
  refine SS ha (ex_convII ha Tryz.underlying3 Tryz.underlying100) λa ha=>?_
  refine RN 0 ha hs λa ha=>?_
  refine SS ha (ex_convII ha Tryz.underlying100 Tryz.underlying21) λa ha=>?_
  refine RT 1 ha hs ?_
  refine⟨?_,hs.sub⟩
  have e:IntKind.i32.wrap (IntKind.u32.wrap fr)=w32 fr:=by
    simp only[w32,IntKind.wrap,IntKind.signed,IntKind.bits]
    have:fr%4294967296%4294967296=fr%4294967296:=Int.emod_emod_of_dvd _ (Int.dvd_refl _)
    simp[this]
  simp[valI,hc5,e]
 refine RN 1 ha hs λa ha=>?_
 obtain⟨bn,hbn,hb32⟩:=hbc (by omega) (by omega)
 obtain⟨cn,hcn,hc32⟩:=hcc (hcr hc0 hc1 hc2 hc3 hc4 hc5)
 refine DWO 0 [5] [0,1,2,4,3003,1005,1006,7] ha hs λa w ha hs hH hC=>?_
 refine RH 6 ha hs hH hC λa ha=>?_
 rw[hbn]at ha
 refine st_callI ha rfl M.mG M.cG rfl (M.get _ _ g bad bn hb32 (hs.pick (J g bad))) (by rfl) ?_
 clear ha hs
 rintro e w ⟨rfl,hs⟩
 refine⟨_,rfl,λa ha=>?_⟩
 refine RN 1 ha hs λa ha=>?_
 refine DWC 1 (λw0 w'=>Rd w' br 0 (runC p adO cO t ad fr adP b.length cP at')∧Rd w' b3 0 (opR o)) [6,8,9] [0,2,3,4,5,7,3001,3006,1008,1009,1010,11] ha hs λa w ha hs hH=>?_
 have hrr:Rd w br 0 (runC p adO cO t ad fr adP b.length cP at'):=hs.rdAll
 have hro:Rd w b3 0 (opR o):=hs.rdAll
 have hC:=And.intro hrr hro
 refine RH 6 ha hs hH hC λa ha=>?_
 refine QH ha (λw hc=>ld1 ha (hc.2 0 _ rfl)) hC λa ha=>?_
 refine QH ha (λw hc=>ld1 ha (hc.1 2 _ rfl)) hC λa ha=>?_
 refine RH 0 ha hs hH hC λa ha=>?_
 refine SS ha (ld1 ha (hC.2 3 _ rfl)) λa ha=>?_
 rw[hcn]at ha
 refine RH 0 ha hs hH hC λa ha=>?_
 refine st_callI ha rfl M.mG M.cG rfl (M.get _ _ g bad cn hc32 (hs.pick (J g bad))) (by rfl) ?_
 clear ha hs
 rintro e w ⟨rfl,hs⟩
 refine⟨_,rfl,λa ha=>?_⟩
 replace hC:=hH.at w (And.intro hs.rdAll hs.rdAll)
 refine RH 0 ha hs hH hC λa ha=>?_
 refine CL 0 ha hs (sum_spec hs) λa w ha hs=>?_
 refine RN 1 ha hs λa ha=>?_
 refine RT 0 ha hs ?_
 exact⟨by simp[valI,hc0,hc1,hc2,hc3,hc4,hc5,hbn,hcn],hs.sub⟩
theorem runeI_ok (s:ByteArray)(n:Int):i32P (runeI s n):=by
 have hb:∀ pos,∀ x∈runesAt s pos,x.1<1114112:=by
   have h:∀ k pos,s.size-pos≤k→∀ x∈runesAt s pos,x.1<1114112:=by
     intro k
     induction k with
     | zero=>intro pos h x hx;rw[runesAt_out (by omega)]at hx;simp at hx
     | succ k ih =>
       intro pos h x hx
       by_cases hp:pos<s.size
       · rw[runesAt_in hp]at hx
         rcases List.mem_cons.1 hx with rfl | hx
         · exact decode_lt s pos
         · have:=(decode_pos s pos).1
           exact ih (adv s pos) (by rw[adv,if_pos hp];omega) x hx
       · rw[runesAt_out hp]at hx;simp at hx
   exact λpos=>h _ pos (Nat.le_refl _)
 simp only[runeI,i32P]
 split
 · cases hx:(runesAt s 0)[n.toNat]? with
   | none=>simp
   | some x =>
     have:=hb 0 x (List.mem_of_getElem? hx)
     simp only[Option.map_some,Option.getD_some]
     omega
 · omega
theorem sumI_ok (k x y:Int):i32P (sumI k x y):=by
 unfold sumI
 have h1:i32P 1:=by simp[i32P]
 have h0:i32P 0:=by simp[i32P]
 repeat' split
 all_goals first | exact w32_in _ | exact h1 | exact h0
theorem pressI_ok (b:List UInt8)(x:Int):i32P (pressI b x):=by
 simp only[pressI,i32P]
 split
 · have:=(b.getD x.toNat 0).toNat_lt
   omega
 · omega
theorem value_ok {m:Int}(hg:gOk g)(ho:okOp m o)(h9:o.code≠9)(h10:o.code≠10):i32P (valI p fr b g o):=by
 simp only[okOp,cellP]at ho
 have hb:o.code≠1→o.code≠15→o.code≠0→o.b.toNat<32:=λh1 h2 h3=>by omega
 have h0:o.code=0→o.b.toNat<32:=λh=>by omega
 unfold valI
 split
 · exact w32_in _
 · split
   · exact hg _ (hb (by omega) (by omega) (by omega))
   · split
     · exact pressI_ok _ _
     · split
       · exact hg _ (mod32_lt _)
       · split
         · exact runeI_ok _ _
         · split
           · exact w32_in _
           · exact sumI_ok _ _ _
set_option maxHeartbeats 4000000 in
theorem one_spec {M:MemS W t ad fg fs J}(hs:St W w (blk br 336 (runC p adO cO t ad fr adP b.length cP at')::J g bad::RoP W p adO cO::L))(hpr:∀ o∈p.ops,okOp p.ops.length o)(hat:p.ops[at']?=some o)
   (hsz:p.title.size≤1000000000) (hol:p.ops.length≤1000000000) (hb:b.length≤1099511627776) (hp:∀ w',St W w' L→RdB w' adP b.length b) :
   Calls Tryz.prog 203 #[pt br] w λe w'=>∃ (g':Nat→Int) (at2:Nat) (bad' r:Bool),e=.returned (.bool r)∧(bad'=false→bad=false∧oneI p fr b g at' o=(g',at2,r))∧at2≤p.ops.length ∧
     St W w' (blk br 336 (runC p adO cO t ad fr adP b.length cP at2)::J g' bad'::RoP W p adO cO::L):=by
 have hg:gOk g:=M.ok _ _ g bad hs.tail
 have ho:=hpr o (List.mem_of_getElem? hat)
 have hatl:=(List.getElem?_eq_some_iff.1 hat).1
 have hop:=ho
 simp only[okOp,cellP]at hop
 have ha9:o.code=9→LeN o.a p.ops.length:=λh=>LeN.of (by omega)
 have hac:o.code≠9→o.code≠0→LtN o.a 32:=λh h2=>LtN.of (by omega)
 have hb10:o.code=10→LeN o.b p.ops.length:=λh=>LeN.of (by omega)
 have hb13:o.code=13→LtN o.b 32:=λh=>LtN.of (by omega)
 clear hop
 refine EN Tryz.func203 Tryz.ntmps203 rfl rfl λa ha=>?_
 refine DWO 3 [8,11] [0,1,2,3,5,6,7,3004,3008,9,3010,1011,1012] ha hs λa w ha hs hH hC=>?_
 obtain⟨bo,oo,hade,hro⟩:=hs.roRd adO (by omega)
 rw[hade]at hs
 replace hH:=Hd.old hs
 refine RH 10 ha hs hH hC λa ha=>?_
 refine QH ha (λw hc=>ex_loadN ha Tryz.underlying114 rfl Ty.t114 (hc.rd (op_rd hro hat))) hC λa ha=>?_
 refine RH 0 ha hs hH hC λa ha=>?_
 refine st_alloc ha rfl hs Ty.t114 rfl λb3 a w ha hs ho=>?_
 replace hC:=hC.trans ho
 clear ho
 refine RH 0 ha hs hH hC λa ha=>?_
 refine SA 0 ha hs λa w ha hs=>?_
 refine RN 0 ha hs λa ha=>?_
 rw[← hade]at hs
 replace ha:=ha.keep [0,3]
 refine ST 8 ha hs (λa w ha hs=>?_) (hlt:=(by simp[runC]))
 rw[show ((at':Int)+1)=((at'+1:Nat):Int) from rfl]at hs
 change St W w (blk br 336 (runC p adO cO t ad fr adP b.length cP (at'+1))::_) at hs
 refine IF 7 ha hs (λhc0 a ha=>?_) λhc0 a ha=>?_
 ·
  refine RT 2 ha hs ?_
  exact⟨g,at'+1,bad,false,rfl,λh=>⟨h,by rw[oneI,if_pos hc0]⟩,by omega,hs.sub⟩
 refine IF 3 ha hs (λhc1 a ha=>?_) λhc1 a ha=>?_
 ·
  obtain⟨an,han,hanl⟩:=ha9 hc1
  refine ST 5 ha hs (λa w ha hs=>?_) (hlt:=(by simp[runC]))
  rw[han]at hs
  change St W w (blk br 336 (runC p adO cO t ad fr adP b.length cP an)::_) at hs
  refine RT 2 ha hs ?_
  exact⟨g,an,bad,true,rfl,λh=>⟨h,by rw[oneI,if_neg hc0,if_pos hc1,han];rfl⟩,by omega,hs.sub⟩
 refine IF 3 ha hs (λhc2 a ha=>?_) λhc2 a ha=>?_
 ·
  refine RN 1 ha hs λa ha=>?_
  obtain⟨an,han,hanl⟩:=hac hc1 hc0
  obtain⟨bn,hbn,hbnl⟩:=hb10 hc2
  refine DWO 0 [5] [0,1,2,4,3003,1005,1006,7] ha hs λa w ha hs hH hC=>?_
  refine RH 6 ha hs hH hC λa ha=>?_
  rw[han]at ha
  refine st_callI ha rfl M.mG M.cG rfl (M.get _ _ g bad an hanl (hs.pick (J g bad))) (by rfl) ?_
  clear ha hs
  rintro e w ⟨rfl,hs⟩
  refine⟨_,rfl,λa ha=>?_⟩
  refine RN 1 ha hs λa ha=>?_
  refine IF 0 ha hs (λhc3 a ha=>?_) λhc3 a ha=>?_
  ·
   refine ST 5 ha hs (λa w ha hs=>?_) (hlt:=(by simp[runC]))
   rw[hbn]at hs
   change St W w (blk br 336 (runC p adO cO t ad fr adP b.length cP bn)::_) at hs
   refine RT 2 ha hs ?_
   exact⟨g,bn,bad,true,rfl,λh=>⟨h,by rw[oneI,if_neg hc0,if_neg hc1,if_pos hc2,han,hbn,Int.toNat_natCast,if_pos hc3];rfl⟩,by omega,hs.sub⟩
  refine RT 2 ha hs ?_
  exact⟨g,at'+1,bad,true,rfl,λh=>⟨h,by rw[oneI,if_neg hc0,if_neg hc1,if_pos hc2,han,Int.toNat_natCast,if_neg hc3]⟩,by omega,hs.sub⟩
 refine IF 3 ha hs (λhc4 a ha=>?_) λhc4 a ha=>?_
 ·
  refine RN 1 ha hs λa ha=>?_
  obtain⟨an,han,hanl⟩:=hac hc1 hc0
  obtain⟨bn,hbn,hbnl⟩:=hb13 hc4
  refine DWO 0 [5] [0,1,2,4,3003,1005,1006,1007,8] ha hs λa w ha hs hH hC=>?_
  refine RH 6 ha hs hH hC λa ha=>?_
  rw[han]at ha
  refine st_callI ha rfl M.mG M.cG rfl (M.get _ _ g bad an hanl (hs.pick (J g bad))) (by rfl) ?_
  clear ha hs
  rintro e w ⟨rfl,hs⟩
  refine⟨_,rfl,λa ha=>?_⟩
  refine CL 0 ha hs (wmod_spec hs (hg an hanl)) λa w ha hs=>?_
  refine RN 1 ha hs λa ha=>?_
  refine DWC 0 (λw0 w'=>Rd w' br 0 (runC p adO cO t ad fr adP b.length cP (at'+1))∧Rd w' b3 0 (opR o)) [8,10,11] [0,1,2,4,5,6,7,9,3003,12,13,3008,1010,1011,1014] ha hs λa w ha hs hH=>?_
  have hrr:Rd w br 0 (runC p adO cO t ad fr adP b.length cP (at'+1)):=hs.rdAll
  have hr3:Rd w b3 0 (opR o):=hs.rdAll
  have hC:=And.intro hrr hr3
  refine RH 8 ha hs hH hC λa ha=>?_
  refine QH ha (λw hc=>ld1 ha (hc.1 2 _ rfl)) hC λa ha=>?_
  refine RH 2 ha hs hH hC λa ha=>?_
  refine QH ha (λw hc=>ld1 ha (hc.1 2 _ rfl)) hC λa ha=>?_
  refine RH 0 ha hs hH hC λa ha=>?_
  refine SS ha (ld1 ha (hC.2 2 _ rfl)) λa ha=>?_
  rw[hbn]at ha
  refine RH 0 ha hs hH hC λa ha=>?_
  refine st_callI ha rfl M.mG M.cG rfl (M.get _ _ g bad bn hbnl (hs.pick (J g bad))) (by rfl) ?_
  clear ha hs
  rintro e w ⟨rfl,hs⟩
  refine⟨_,rfl,λa ha=>?_⟩
  replace hC:=hH.at w (And.intro hs.rdAll hs.rdAll)
  refine RH 0 ha hs hH hC λa ha=>?_
  refine st_callI ha rfl M.mS M.cS rfl (M.set _ _ g bad (mod32 (g an)) (g bn) (mod32_lt _) (hg bn hbnl) (hs.pick (J g bad))) (by rfl) ?_
  clear ha hs
  rintro e w ⟨g',bad',rfl,hset,hs⟩
  refine⟨_,rfl,λa ha=>?_⟩
  refine RT 2 ha hs ?_
  refine⟨g',at'+1,bad',true,rfl,λh=>?_,by omega,hs.sub⟩
  obtain⟨_,h1,h2⟩:=hset.resolve_left (λh3=>by rw[h]at h3;cases h3.1)
  exact⟨h1,by rw[oneI,if_neg hc0,if_neg hc1,if_neg hc2,if_pos hc4,han,hbn,Int.toNat_natCast,Int.toNat_natCast,h2]⟩
 refine DWC 0 (λw0 w'=>Rd w' br 0 (runC p adO cO t ad fr adP b.length cP (at'+1))∧Rd w' b3 0 (opR o)) [5,7,8] [0,1,2,4,6,3003,9,10,3005,1007,1008,1011] ha hs λa w ha hs hH=>?_
 obtain⟨an,han,hanl⟩:=hac hc1 hc0
 have hrr:Rd w br 0 (runC p adO cO t ad fr adP b.length cP (at'+1)):=hs.rdAll
 have hr3:Rd w b3 0 (opR o):=hs.rdAll
 have hC:=And.intro hrr hr3
 refine RH 5 ha hs hH hC λa ha=>?_
 refine QH ha (λw hc=>ld1 ha (hc.1 2 _ rfl)) hC λa ha=>?_
 refine RH 2 ha hs hH hC λa ha=>?_
 refine QH ha (λw hc=>ld1 ha (hc.2 1 _ rfl)) hC λa ha=>?_
 rw[han]at ha
 refine RH 0 ha hs hH hC λa ha=>?_
 refine SS ha (ex_loadN ha Tryz.underlying114 rfl Ty.t114 (hC.2)) λa ha=>?_
 refine RH 0 ha hs hH hC λa ha=>?_
 refine CL 0 ha hs (value_spec (M:=M) (L:=blk b3 114 (opR o)::RoP W p adO cO::L) (hs.sub (M:=blk br 336 (runC p adO cO t ad fr adP b.length cP (at'+1))::J g bad::blk b3 114 (opR o)::RoP W p adO cO::L)) ho hc0 hc1 hc2 hc4 hsz hb (λw' h=>hp w' h.sub)) λa w ha hs=>?_
 replace hC:=hH.at w (And.intro hs.rdAll hs.rdAll)
 refine RH 0 ha hs hH hC λa ha=>?_
 refine st_callI ha rfl M.mS M.cS rfl (M.set _ _ g bad an (valI p fr b g o) hanl (value_ok hg ho hc1 hc2) (hs.pick (J g bad))) (by rfl) ?_
 clear ha hs
 rintro e w ⟨g',bad',rfl,hset,hs⟩
 refine⟨_,rfl,λa ha=>?_⟩
 refine RT 2 ha hs ?_
 refine⟨g',at'+1,bad',true,rfl,λh=>?_,by omega,hs.sub⟩
 obtain⟨_,h1,h2⟩:=hset.resolve_left (λh3=>by rw[h]at h3;cases h3.1)
 exact⟨h1,by rw[oneI,if_neg hc0,if_neg hc1,if_neg hc2,if_neg hc4,han,Int.toNat_natCast,h2]⟩
theorem runI_step {n:Nat}(h:p.ops[at']?=some o):runI p fr b (n+1) g at'=if (oneI p fr b g at' o).2.2 then runI p fr b n (oneI p fr b g at' o).1 (oneI p fr b g at' o).2.1 else (oneI p fr b g at' o).1:=by
 rw[runI];simp only[h]
theorem runI_end {n:Nat}(h:p.ops.length≤at'):runI p fr b n g at'=g:=by
 cases n with
 | zero=>rfl
 | succ n=>rw[runI];simp only[List.getElem?_eq_none h]
set_option maxHeartbeats 4000000 in
theorem run_spec {M:MemS W t ad fg fs J}(hs:St W w (J g bad::RoP W p adO cO::L))(hpr:prOk p)(hsz:p.title.size≤1000000000)(hb:b.length≤1099511627776)(hp:∀ w',St W w' L→RdB w' adP b.length b) :
   Calls Tryz.prog 174 #[.agg (prV p adO cO).toArray,.iface t (.pointer (some ad)),.int .i64 fr,.slice adP b.length cP] w λe w'=>∃ (g':Nat→Int) (bad':Bool) (n:Int),e=.returned (.int .i64 n)∧(bad'=false→bad=false∧g'=frameI p fr b g) ∧
     St W w' (J g' bad'::RoP W p adO cO::L):=by
 have hol:p.ops.length≤64:=hpr.1.2.2.1
 refine EN Tryz.func174 Tryz.ntmps174 rfl rfl λa ha=>?_
 refine BX 1 ha hs λb4 a w ha hs=>?_
 change St W w (blk b4 45 (prV p adO cO)::_) at hs
 refine RN 6 ha hs λa ha=>?_
 replace ha:=ha.isF 13
 refine CL1 1 ha hs (checkMay_spec (hs.pick (RoP W p adO cO)) hsz (by omega)) λr a w ha ⟨hr,hs⟩=>?_
 rw[hr.2 hpr]at ha
 refine RN 1 ha hs λa ha=>?_
 rw[show (!true)=false from rfl]at ha
 refine RN 1 ha hs λa ha=>?_
 replace ha:=ha.isF 17
 refine RN 3 ha hs λa ha=>?_
 change Fr a 42 ((18,.agg (List.toArray [.string p.title,.slice adO p.ops.length cO]))::_) at ha
 refine BX 4 ha hs λb23 a w ha hs=>?_
 change St W w (blk b23 336 (runC p adO cO t ad fr adP b.length cP 0)::_) at hs
 refine RN 4 ha hs λa ha=>?_
 refine wp_loop_ghost (λμ a w=>∃ (n at':Nat) (g':Nat→Int) (bad':Bool),(μ=200-n∧n≤200∧at'≤p.ops.length∧(bad'=false→bad=false∧runI p fr b (200-n) g' at'=frameI p fr b g))∧Fr a 42 [(4,pt b4),(9,pt b23),(10,.int .i64 n)]∧St W w (blk b23 336 (runC p adO cO t ad fr adP b.length cP at')::blk b4 45 (prV p adO cO)::J g' bad'::RoP W p adO cO::L)) (200) (⟨0,0,g,bad,⟨by simp,by simp,by simp,λh=>⟨h,rfl⟩⟩,ha.keep [4,9,10],hs.sub⟩) ?_
 clear ha hs
 rintro μ a w ⟨n,at',g',bad',⟨rfl,hn,hat,hgb⟩,ha,hs⟩
 refine DWO 2 [8,9] [0,1,2,3,4,5,7,3006,1008,1009,10,11] ha hs λa w ha hs hH hC=>?_
 refine RH 3 ha hs hH hC λa ha=>?_
 refine ha.by (s:=26) (λhg2 ha=>?_) (λhg2 ha=>?_)
 ·
  refine RH 9 ha hs hH hC λa ha=>?_
  refine IF 0 ha hs (λhc1 a ha=>?_) λhc1 a ha=>?_
  ·
   obtain⟨o,ho⟩:∃ o,p.ops[at']?=some o:=⟨_,List.getElem?_eq_getElem (by omega)⟩
   have hst:=runI_step (p:=p) (fr:=fr) (b:=b) (g:=g') (n:=200-(n+1)) ho
   rw[show 200-(n+1)+1=200-n from by omega]at hst
   refine CLX 6 ha hs (one_spec (M:=M) (L:=blk b4 45 (prV p adO cO)::L) (hs.sub (M:=blk b23 336 (runC p adO cO t ad fr adP b.length cP at')::J g' bad'::RoP W p adO cO::blk b4 45 (prV p adO cO)::L)) hpr.2 ho hsz (by omega) hb (λw' h=>hp w' h.tail)) ?_
   clear ha hs
   rintro e w ⟨g2,at2,bad2,r2,rfl,hone,hat2,hs⟩
   refine⟨_,rfl,λa ha=>?_⟩
   refine IF 1 ha hs (λhc2 a ha=>?_) λhc2 a ha=>?_
   ·
    have hrf:r2=false:=by simpa using hc2
    have hgb2:bad2=false→bad=false∧g2=frameI p fr b g:=λh=>by
      obtain⟨h1,h2⟩:=hone h
      obtain⟨h3,h4⟩:=hgb h1
      refine⟨h3,?_⟩
      rw[hst,h2,hrf]at h4
      exact h4
    refine RT 3 ha hs ?_
    exact⟨g2,bad2,_,rfl,hgb2,hs.sub⟩
   have hrt:r2=true:=by simpa using hc2
   refine RN 0 ha hs λa ha=>?_
   refine⟨200-(n+1),by omega,n+1,at2,g2,bad2,⟨rfl,by omega,hat2,λh=>?_⟩,ha.keep [4,9,10],hs.sub⟩
   obtain⟨h1,h2⟩:=hone h
   obtain⟨h3,h4⟩:=hgb h1
   refine⟨h3,?_⟩
   rw[hst,h2,hrt]at h4
   exact h4
  refine RT 3 ha hs ?_
  refine⟨g',bad',_,rfl,λh=>?_,hs.sub⟩
  obtain⟨h3,h4⟩:=hgb h
  rw[runI_end (by omega)]at h4
  exact⟨h3,h4⟩
 have hn2:n=200:=by omega
 refine RH 9 ha hs hH hC λa ha=>?_
 refine RT 4 ha hs ?_
 refine⟨g',bad',_,rfl,λh=>?_,hs.sub⟩
 obtain⟨h3,h4⟩:=hgb h
 rw[hn2]at h4
 exact⟨h3,h4⟩
end
end
section
def distinct:List Nat→Nat
 | []=>0
 | x::l=>distinct l+if x∈l then 0 else 1
def pagesOf (l:List Pic):List Nat:=l.flatMap λx=>[x.p 0,x.p 1,x.p 2,x.p 3]
theorem mem_pages {l:List Pic}{p:Nat}:p∈pagesOf l↔0<cnt l p:=by
 induction l with
 | nil=>simp[pagesOf,cnt]
 | cons x l ih =>
   rw[cnt_cons]
   have h1:pagesOf (x::l)=[x.p 0,x.p 1,x.p 2,x.p 3]++pagesOf l:=rfl
   rw[h1,List.mem_append,ih]
   constructor
   · rintro (h | h)
     · have h2 : 0 < cntP x p := cntP_pos_iff.2 (by
         simp at h
         rcases h with h | h | h | h
         · exact⟨0,by omega,h.symm⟩
         · exact⟨1,by omega,h.symm⟩
         · exact⟨2,by omega,h.symm⟩
         · exact⟨3,by omega,h.symm⟩)
       omega
     · omega
   · intro h
     by_cases h2:0<cntP x p
     · left
       obtain⟨k,hk,rfl⟩:=cntP_pos_iff.1 h2
       rcases (by omega:k=0∨k=1∨k=2∨k=3) with rfl | rfl | rfl | rfl <;> simp
     · right;omega
theorem countP_insert (n:Nat)(f:Nat→Bool)(x:Nat)(hx:x<n)(h0:f x=false):(List.range n).countP (λp=>p==x||f p)=(List.range n).countP f+1:=by
 induction n with
 | zero=>omega
 | succ n ih =>
   rw[List.range_succ,List.countP_append,List.countP_append,List.countP_singleton,List.countP_singleton]
   by_cases hn:x=n
   · subst hn
     have:(List.range x).countP (λp=>p==x||f p)=(List.range x).countP f:=List.countP_congr λp hp=>by
       have:p<x:=List.mem_range.1 hp
       have h2:(p==x)=false:=by simp;omega
       simp[h2]
     rw[this,h0];simp
   · have h2:(n==x)=false:=by simp;omega
     rw[ih (by omega),h2];simp;omega
theorem distinct_count (n:Nat):∀ l:List Nat,(∀ p∈l,p<n)→(List.range n).countP (λp=>decide (p∈l))=distinct l
 | [],_=>by simp[distinct]
 | x::l,h=>by
   have ih:=distinct_count n l λp hp=>h p (List.mem_cons_of_mem _ hp)
   rw[distinct,← ih]
   by_cases hx:x∈l
   · rw[if_pos hx,Nat.add_zero]
     refine List.countP_congr λp _=>?_
     simp only[List.mem_cons,decide_eq_true_eq]
     exact⟨λhp=>by rcases hp with rfl | hp;exact hx;exact hp,λhp=>.inr hp⟩
   · rw[if_neg hx]
     have:=countP_insert n (λp=>decide (p∈l)) x (h x List.mem_cons_self) (by simp[hx])
     rw[← this]
     refine List.countP_congr λp _=>?_
     simp
theorem used_eq {A:Sn}(h:∀ x∈A.pics,∀ k,k<4→x.p k<A.room):A.used=distinct (pagesOf A.pics):=by
 rw[← distinct_count A.room (pagesOf A.pics) (λp hp=>?_)]
 · rw[Sn.used]
   refine List.countP_congr λp _=>?_
   simp[mem_pages]
 · simp only[pagesOf,List.mem_flatMap]at hp
   obtain⟨x,hx,hp⟩:=hp
   simp at hp
   rcases hp with rfl | rfl | rfl | rfl <;> exact h x hx _ (by omega)
section
variable {W w:World}{L R:List SP}{q r:Nat}{A:Sn}
class PickSt (L:List SP)(q:Nat)(r:outParam Nat)(A:outParam Sn)(R:outParam (List SP)):Prop where perm:L.Perm (Store q r A::R)
instance PickSt.head {L q r A}:PickSt (Store q r A::L) q r A L:=⟨List.Perm.refl _⟩
instance (priority:=low) PickSt.tail {B L q r A R}[h:PickSt L q r A R]:PickSt (B::L) q r A (B::R):=⟨(List.Perm.cons B h.perm).trans (List.Perm.swap _ _ _)⟩
theorem St.store (hs:St W w L)(q:Nat)[k:PickSt L q r A R]:St W w (Store q r A::R):=hs.perm k.perm
theorem Store.facts (hs:St W w (Store q r A::L)):WF A∧∀ x∈A.pics,∀ k,k<4→x.p k<A.room:=by
 obtain⟨b,m,ps,xs,h1,hw,hr,hs⟩:=Store.open hs
 exact⟨hw,λx hx k hk=>by rw[← hr.len];exact (hr.live hx hk).1⟩
theorem Store.used (hs:St W w (Store q r A::L)):A.used=distinct (pagesOf A.pics):=used_eq (Store.facts hs).2
end
end
section
theorem pages_cnt (l:List Pic)(p:Nat):(pagesOf l).count p=cnt l p:=by
 induction l with
 | nil=>rfl
 | cons x l ih =>
   have h1:pagesOf (x::l)=[x.p 0,x.p 1,x.p 2,x.p 3]++pagesOf l:=rfl
   rw[h1,List.count_append,ih,cnt_cons,cntP_eq]
   simp only[List.count_cons,List.count_nil,beq_iff_eq]
   omega
theorem distinct_dup (p:Nat):∀ l:List Nat,distinct l+(l.count p-1)≤l.length
 | []=>by simp[distinct]
 | x::l=>by
   have ih:=distinct_dup p l
   rw[distinct,List.count_cons,List.length_cons]
   by_cases hx:x=p
   · subst hx
     by_cases hm:x∈l
     · have:=List.count_pos_iff.2 hm
       simp[hm];omega
     · have:=List.count_eq_zero.2 hm
       simp[hm];omega
   · have h1:(x==p)=false:=by simpa using hx
     simp only[h1,Bool.false_eq_true,if_false,Nat.add_zero]
     split <;> omega
theorem pages_len4 (l:List Pic):(pagesOf l).length=4*l.length:=by
 induction l with
 | nil=>rfl
 | cons x l ih =>
   have h1:pagesOf (x::l)=[x.p 0,x.p 1,x.p 2,x.p 3]++pagesOf l:=rfl
   rw[h1,List.length_append,ih,List.length_cons];simp;omega
section
variable {W w:World}{L:List SP}{q r i bc:Nat}{A:Sn}{x px:Pic}
theorem Store.shared (hs:St W w (Store q r A::L)){p:Nat}(h:1<cnt A.pics p):A.used<4*A.pics.length:=by
 have h1:=distinct_dup p (pagesOf A.pics)
 rw[← Store.used hs,pages_cnt,pages_len4]at h1
 omega
theorem snap_set_try {c:Nat}{v:Int}(hs:St W w (Store q r A::L))(hx:A.pics[i]?=some x)(hc:c<32) :
   Calls Tryz.prog 346 #[pt q,.int .i64 x.id,.int .i64 c,.int .i32 v] w λe w'=>∃ (ok:Bool) (p':Nat→Nat),e=.returned (.bool ok)∧(ok=false→¬ 4*A.pics.length≤A.room) ∧
     ((ok=true∧St W w' (Store q r { A with pics:=A.pics.set i { x with g:=upd x.g c v,p:=p' } }::L))∨(ok=false∧St W w' (Store q r A::L))):=by
 have hk4:c/8<4:=by omega
 by_cases h1:1<cnt A.pics (x.p (c/8))
 · by_cases hu:A.used<A.room
   · exact (snap_set_own (v:=v) hs hx hc h1 hu).mono λe w' ⟨f,h2,_,hs⟩=>⟨true,λj=>if j=c/8 then f else x.p j,h2,λh=>(by cases h),.inl ⟨rfl,hs⟩⟩
   · have hsh:=Store.shared hs h1
     exact (snap_set_full (v:=v) hs hx hc h1 (by omega)).mono λe w' ⟨h2,hs⟩=>⟨false,x.p,h2,λ_=>by omega,.inr ⟨rfl,hs⟩⟩
 · have h3 : cnt A.pics (x.p (c / 8)) = 1 := by
     have h4:=cnt_mem (List.mem_of_getElem? hx) (x.p (c/8))
     have h5:=cntP_pos (x:=x) hk4
     omega
   exact (snap_set (v:=v) hs hx hc h3).mono λe w' ⟨h2,hs⟩=>⟨true,x.p,h2,λh=>(by cases h),.inl ⟨rfl,hs⟩⟩
theorem gOk_upd {g:Nat→Int}{c:Nat}{v:Int}(h:gOk g)(hv:i32P v):gOk (upd g c v):=λj hj=>by
 simp only[upd]
 split
 · exact hv
 · exact h j hj
def Jw (q r bc i:Nat)(A:Sn)(px:Pic)(g:Nat→Int)(bad:Bool):SP:=λh=>∃ p':Nat→Nat,(gOk g∧(bad=true→¬ 4*A.pics.length≤A.room)) ∧
 sepL [blk bc 307 [pt q,.int .i64 px.id,.bool bad],Store q r { A with pics:=A.pics.set i ⟨px.id,px.refs,g,p'⟩ }] h
theorem Jw.open {g:Nat→Int}{bad:Bool}(hs:St W w (Jw q r bc i A px g bad::L)):∃ p':Nat→Nat,(gOk g∧(bad=true→¬ 4*A.pics.length≤A.room)) ∧
   St W w (blk bc 307 [pt q,.int .i64 px.id,.bool bad]::Store q r { A with pics:=A.pics.set i ⟨px.id,px.refs,g,p'⟩ }::L):=by
 obtain⟨p',h1,h2⟩:=hs.exi (ι:=Nat→Nat) (p:=λ_=>gOk g∧(bad=true→¬ 4*A.pics.length≤A.room)) (B:=λp' h=>sepL [blk bc 307 [pt q,.int .i64 px.id,.bool bad],Store q r { A with pics:=A.pics.set i ⟨px.id,px.refs,g,p'⟩ }] h) (λh ⟨p',h1,h2⟩=>⟨p',h1,h2⟩)
 exact⟨p',h1,h2.open λ_ h=>h⟩
theorem Jw.close {g:Nat→Int}{bad:Bool}{p':Nat→Nat}(hs:St W w (blk bc 307 [pt q,.int .i64 px.id,.bool bad]::Store q r { A with pics:=A.pics.set i ⟨px.id,px.refs,g,p'⟩ }::L))(h1:gOk g)(h2:bad=true→¬ 4*A.pics.length≤A.room) :
   St W w (Jw q r bc i A px g bad::L):=St.shut (M:=[_,_]) hs (λ_ x=>⟨p',⟨h1,h2⟩,x⟩)
theorem cells_get {g:Nat→Int}{bad:Bool}{c:Nat}(hx:i<A.pics.length)(hc:c<32)(hs:St W w (Jw q r bc i A px g bad::L)) :
   Calls Tryz.prog 353 (List.toArray [pt bc,.int .i64 c]) w λe w'=>e=.returned (.int .i32 (g c))∧St W w' (Jw q r bc i A px g bad::L):=by
 obtain⟨p',⟨h1,h2⟩,hs⟩:=Jw.open hs
 refine EN Tryz.func353 Tryz.ntmps353 rfl rfl λa ha=>?_
 refine DWO 3 [7] [0,1,2,4,5,6,8,3003,1007,1009,10,11,12,13,14] ha hs λa w ha hs hH hC=>?_
 refine RH 9 ha hs hH hC λa ha=>?_
 refine CL 0 ha hs (snap_get (i:=i) (x:=⟨px.id,px.refs,g,p'⟩) (hs.store q) (by simp[hx]) hc) λa w ha hs=>?_
 refine RN 5 ha hs λa ha=>?_
 refine RT 3 ha hs ?_
 exact⟨rfl,Jw.close (p':=p') hs.sub h1 h2⟩
theorem cells_set {g:Nat→Int}{bad:Bool}{c:Nat}{v:Int}(hx:i<A.pics.length)(hc:c<32)(hv:i32P v)(hs:St W w (Jw q r bc i A px g bad::L)) :
   Calls Tryz.prog 354 (List.toArray [pt bc,.int .i64 c,.int .i32 v]) w λe w'=>∃ (g':Nat→Int) (bad':Bool),e=.returned (.tuple #[])∧((bad'=true∧g'=g)∨(bad'=false∧bad=false∧g'=upd g c v))∧St W w' (Jw q r bc i A px g' bad'::L):=by
 obtain⟨p',⟨h1,h2⟩,hs⟩:=Jw.open hs
 refine EN Tryz.func354 Tryz.ntmps354 rfl rfl λa ha=>?_
 refine DWO 0 [13] [0,1,2,3,1004,5,6,7,8,10,11,12,14,15,3009,1013,1016,17,18,19,20,1021] ha hs λa w ha hs hH hC=>?_
 refine RH 6 ha hs hH hC λa ha=>?_
 refine ha.by (s:=11) (λhg5 ha=>?_) (λhg5 ha=>?_)
 ·
  refine RH 15 ha hs hH hC λa ha=>?_
  refine ST 0 ha hs (λa w ha hs=>?_)
  refine RT 0 ha hs ?_
  exact⟨g,true,rfl,.inl ⟨rfl,rfl⟩,Jw.close (p':=p') hs.sub h1 (λ_=>h2 hg5)⟩
 refine RH 10 ha hs hH hC λa ha=>?_
 refine CL2 0 ha hs (snap_set_try (i:=i) (x:=⟨px.id,px.refs,g,p'⟩) (v:=v) (hs.store q) (by simp[hx]) hc) λok p2 a w ha ⟨hok,hcase⟩=>?_
 obtain⟨hok1,hs⟩:(ok=ok)∧St W w (Store q r { A with pics:=A.pics.set i ⟨px.id,px.refs,if ok then upd g c v else g,if ok then p2 else p'⟩ }::blk bc 307 [pt q,.int .i64 px.id,.bool bad]::L):=by
   refine⟨rfl,?_⟩
   rcases hcase with ⟨rfl,hs⟩ | ⟨rfl,hs⟩
   · simp only[List.set_set]at hs
     exact hs
   · exact hs
 refine ST 4 ha hs (λa w ha hs=>?_)
 refine RT 0 ha hs ?_
 refine⟨if ok then upd g c v else g,!ok,rfl,?_,Jw.close (p':=if ok then p2 else p') hs.sub ?_ (λh=>?_)⟩
 · cases ok
   · exact .inl ⟨rfl,rfl⟩
   · exact .inr ⟨rfl,hg5,rfl⟩
 · cases ok
   · exact h1
   · exact gOk_upd h1 hv
 · have:=hok (by simpa using h)
   simpa using this
theorem cells_mem (hx:i<A.pics.length):MemS W 305 ⟨bc,0,none⟩ 353 354 (Jw q r bc i A px) where
 mG:=λad w=>by kernel_rfl
 cG:=(by kernel_rfl)
 mS:=λad w=>by kernel_rfl
 cS:=(by kernel_rfl)
 ok:=λw L g bad h=>by obtain⟨_,⟨h1,_⟩,_⟩:=Jw.open h;exact h1
 get:=λw L g bad c hc h=>cells_get hx hc h
 set:=λw L g bad c v hc hv h=>cells_set hx hc hv h
end
end
end Go.Proofs.YteoldcfapaiobaaGreat
