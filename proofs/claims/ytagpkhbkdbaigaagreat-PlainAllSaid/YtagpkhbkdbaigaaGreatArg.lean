/- Arguments that lie in memory that was there before. -/
import Derived.Test.YtagpkhbkdbaigaaGreatTy
import Derived.ProofKit
import Derived.Deep.Slices
import Derived.Deep.Strs
namespace Go.Proofs.YtagpkhbkdbaigaaGreat
open Go.RowKit
set_option linter.unusedVariables false
set_option linter.unusedSimpArgs false
def ArgInts (k : IntKind) (w : World) (a : Option Addr) (len cap : Nat) (zs : List Int) : Prop :=
 (a=none∧len=0∧cap=0∧zs=[]) ∨
 ∃ x,a=some x∧len≤cap∧cap≤maxLen∧zs.length=cap∧(∀ i,i < zs.length→w.cell? (x.add i)=some (.int k (zs.getD i 0)))∧∀ n∈zs,(Lit.int k n).wf=true
theorem cell_spot {w : World} {x : Addr} {v : Value} (h : w.cell? x=some v) : x=⟨x.block,x.off,none⟩∧x.block < w.heap.size:=by
 refine ⟨?_,World.block_lt_of_cell? _ _ h⟩
 obtain ⟨b,o,s⟩:=x
 cases s with
 | none=>rfl
 | some s =>
   simp only [World.cell?] at h
   split at h <;> simp at h
theorem ArgInts.get {k : IntKind} {w : World} {a : Option Addr} {len cap : Nat} {zs : List Int} (h : ArgInts k w a len cap zs) (h0 : 0 < len) :
   ∃ b off,a=some ⟨b,off,none⟩∧b < w.heap.size∧len≤zs.length∧∀ i,i < zs.length→w.cell? ⟨b,off+i*1,none⟩=some (.int k (zs.getD i 0)):=by
 rcases h with ⟨_,h,_,_⟩ | ⟨x,rfl,h1,h2,h3,h4,h5⟩
 · omega
 · have h6:=h4 0 (by omega)
   have h7 : x.add 0=x:=by simp [Addr.add]
   rw [h7] at h6
   obtain ⟨h8,h9⟩:=cell_spot h6
   refine ⟨x.block,x.off,by rw [← h8],h9,by omega,fun i hi=>?_⟩
   have:=h4 i hi
   rw [h8,add_off] at this
   rw [Nat.mul_one]; exact this
theorem ArgInts.len_le {k : IntKind} {w : World} {a : Option Addr} {len cap : Nat} {zs : List Int} (h : ArgInts k w a len cap zs) : len≤zs.length∧len≤9223372036854775807:=by
 rcases h with ⟨_,rfl,_,rfl⟩ | ⟨x,rfl,h1,h2,h3,h4,h5⟩
 · simp
 · unfold maxLen at h2; omega
theorem argRows {H : Type} {enc : TypeId × Value→H} {W : World} {t e sz len cap : Nat} {ad : Option Addr} {d : DataW H} {p : List MemPlace} (ht : Tryz.prog.underlying t=some (.slice e)) (hsz : Tryz.prog.cellsOf e=sz) (h0 : 0 < sz)
   (h : DataW.Trod enc Tryz.prog W 0 (fun _=>true) true t (.slice ad len cap) d p) :
   len≤9223372036854775807∧(len=0∨∃ b off,ad=some ⟨b,off,none⟩∧b < W.heap.size∧∀ i,i < len→∃ cs m x,cs.length=sz∧Rd W b (off+i*sz) cs∧DataW.trod enc Tryz.prog W 0 (fun _=>true) true m e cs=some x):=by
 obtain ⟨fuel,hf⟩:=h
 rcases Go.Deep.open_slice ht hf with ⟨hcs,_⟩ | ⟨a,l,c,m,n,D,Pl,hcs,_,hl,hc,hm,_,hx⟩
 · simp [Value.cells] at hcs
   obtain ⟨rfl,rfl,rfl⟩:=hcs
   exact ⟨by omega,.inl rfl⟩
 · simp [Value.cells] at hcs
   obtain ⟨rfl,rfl,rfl⟩:=hcs
   unfold maxLen at hc
   refine ⟨by omega,?_⟩
   by_cases hz : len=0
   · exact .inl hz
   · right
     rw [hsz] at hx
     simp only [if_true] at hm
     obtain ⟨cs0,h1,_⟩:=hx 0 (by omega)
     obtain ⟨_,h2,h3⟩:=World.cells?_some h1
     have h4:=h3 0 h0
     rw [Nat.zero_mul] at h4
     have h5 : (a.add 0).add 0=a:=by simp [Addr.add]
     rw [h5] at h4
     obtain ⟨h6,h7⟩:=cell_spot (h4.trans (List.getElem?_eq_getElem (by omega)))
     refine ⟨a.block,a.off,by rw [← h6],h7,fun i hi=>?_⟩
     obtain ⟨cs,g1,g2⟩:=hx i (by omega)
     obtain ⟨_,g3,g4⟩:=World.cells?_some g1
     refine ⟨cs,n,_,g3,fun j v hj=>?_,g2⟩
     have hjl : j < sz:=by
       rcases Nat.lt_or_ge j cs.length with h | h
       · omega
       · rw [List.getElem?_eq_none h] at hj; cases hj
     have:=g4 j hjl
     rw [h6,add_off,add_off,hj] at this
     exact this
end Go.Proofs.YtagpkhbkdbaigaaGreat
