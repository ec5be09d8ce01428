/- Rows of byte slices that came in. -/
import Derived.Test.YtagpkhbkdbaigaaGreatBB
import Derived.Test.YtagpkhbkdbaigaaGreatArg
import Derived.ChangeSlices
import Derived.ChangeShapes
import Derived.DataShut
namespace Go.Proofs.YtagpkhbkdbaigaaGreat
open Go.RowKit
set_option linter.unusedVariables false
set_option linter.unusedSimpArgs false
set_option maxRecDepth 10000
set_option synthInstance.maxSize 4000
set_option synthInstance.maxHeartbeats 400000
theorem u8of {x : Int} (h : (Lit.int .u8 x).wf=true) : x=((UInt8.ofNat x.toNat).toNat : Int):=by
 have hr:=(Lit.wf_int_iff .u8 x).1 h
 have h1 : IntKind.u8.min=0:=by decide
 have h2 : IntKind.u8.max=255:=by decide
 rw [h1,h2] at hr
 rw [UInt8.toNat_ofNat']
 omega
theorem ArgInts.bytesB {W : World} {a : Option Addr} {len cap : Nat} {z : List Int} (h : ArgInts .u8 W a len cap z) : ∃ bs : List UInt8,bs.length=len∧RdB W a len bs:=by
 refine ⟨(z.take len).map (fun n=>UInt8.ofNat n.toNat),?_,?_⟩
 · have:=h.len_le; simp; omega
 · have hl:=h.len_le
   have hz : ∀ n∈z,(Lit.int .u8 n).wf=true:=by
     rcases h with ⟨_,_,_,rfl⟩ | ⟨x,_,_,_,_,_,hw⟩
     · intro n hn; cases hn
     · exact hw
   refine ⟨by simp; omega,fun e=>?_,fun x hx hp=>?_⟩
   · rcases h with ⟨_,h,_,_⟩ | ⟨x,rfl,_⟩
     · exact h
     · cases e
   · obtain ⟨b,off,rfl,hb,_,hc⟩:=h.get hp
     refine ⟨b,off,by cases hx; rfl,fun j v hj=>?_⟩
     have hj2:=(List.getElem?_eq_some_iff.1 hj).1
     rw [bc_len,List.length_map,List.length_take] at hj2
     have:=hc j (by omega)
     rw [Nat.mul_one] at this
     rw [this,← hj]
     have hzj : z.getD j 0∈z:=by rw [List.getD_eq_getElem?_getD,List.getElem?_eq_getElem (by omega),Option.getD_some]; exact List.getElem_mem _
     have hw:=hz _ hzj
     have hu:=u8of hw
     simp only [bc,List.getElem?_map,List.getElem?_take]
     rw [if_pos (by omega),List.getElem?_eq_getElem (by omega)]
     simp only [Option.map_some]
     have hd : z.getD j 0=z[j]'(by omega):=by rw [List.getD_eq_getElem?_getD,List.getElem?_eq_getElem (by omega),Option.getD_some]
     rw [hd] at hu ⊢
     exact congrArg (fun z=>some (Value.int .u8 z)) hu
theorem exists_list {α : Type} {P : Nat→α→Prop} : ∀ n : Nat,(∀ i,i < n→∃ x,P i x)→∃ l : List α,l.length=n∧∀ i x,l[i]?=some x→P i x:=by
 intro n
 induction n with
 | zero=>exact fun _=>⟨[],rfl,fun i x h=>by simp at h⟩
 | succ n ih =>
   intro h
   obtain ⟨l,h1,h2⟩:=ih (fun i hi=>h i (by omega))
   obtain ⟨x,hx⟩:=h n (by omega)
   refine ⟨l++[x],by simp [h1],fun i y hy=>?_⟩
   rw [List.getElem?_append] at hy
   split at hy
   · exact h2 i y hy
   · have h4:=(List.getElem?_eq_some_iff.1 hy).1
     simp at h4
     obtain rfl : i=n:=by omega
     rw [h1,Nat.sub_self] at hy
     simp at hy
     exact hy ▸ hx
end Go.Proofs.YtagpkhbkdbaigaaGreat
