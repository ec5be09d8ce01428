/- A program that came in as an argument. -/
import Derived.Test.YtagpkhbkdbaigaaGreatArgB
import Derived.Test.YtagpkhbkdbaigaaGreatVm
import Derived.ChangeSame
namespace Go.Proofs.YtagpkhbkdbaigaaGreat
open Go.RowKit
set_option linter.unusedVariables false
set_option linter.unusedSimpArgs false
set_option linter.constructorNameAsVariable false
set_option maxRecDepth 100000
theorem rd_rows {W : World} {b off : Nat} {ops : List OpR} (h : ∀ i o,ops[i]?=some o→Rd W b (off+i*4) (opR o)) : Rd W b off (rows opR ops):=by
 intro j v hj
 have hlt:=(List.getElem?_eq_some_iff.1 hj).1
 rw [rows_len opR_len] at hlt
 have hi : j / 4 < ops.length:=by omega
 have h1:=h (j / 4) ops[j / 4] (List.getElem?_eq_getElem hi)
 have hk : j % 4 < (opR ops[j / 4]).length:=by rw [opR_len]; omega
 have h2:=rows_get opR_len ops (i:=j / 4) (k:=j % 4) (v:=(opR ops[j / 4])[j % 4]) hi (List.getElem?_eq_getElem hk)
 rw [show j / 4*4+j % 4=j from by omega,hj] at h2
 have h3:=h1 (j % 4) _ (List.getElem?_eq_getElem hk)
 rw [show off+j / 4*4+j % 4=off+j from by omega] at h3
 rw [h3,h2]
theorem okWide_struct {P : Program} {w : World} {base : Nat} {t : TypeId} {fs : Array Field} {v : Value} (ht : P.underlying t=some (.struct fs)) (h : Value.okWide P w .any base t v) : ∃ cs,v=.agg cs∧cs.size=P.cellsOf t:=by
 unfold Value.okWide at h
 rw [ht] at h
 obtain ⟨cs,h1,h2,_⟩:=h
 exact ⟨cs,h1,h2⟩
def ArgProg (W : World) (p : Pr) (adO : Option Addr) (cO : Nat) : Prop:=p.title.size≤9223372036854775807∧p.ops.length≤cO∧cO≤9223372036854775807∧(0 < p.ops.length→∃ b off,adO=some ⟨b,off,none⟩∧b < W.heap.size∧Rd W b off (rows opR p.ops))
theorem argProg_of {H : Type} {enc : TypeId × Value→H} {W : World} {base : Nat} {v : Value} {d : DataW H} {q : List MemPlace} (hv : Value.okWide Tryz.prog W .any base 33 v)
   (h : DataW.Trod enc Tryz.prog W 0 (fun _=>true) true 33 v d q) : ∃ p adO cO,v=.agg (prV p adO cO).toArray∧ArgProg W p adO cO:=by
 obtain ⟨cs,rfl,hsz⟩:=okWide_struct Tryz.underlying33 hv
 obtain ⟨fuel,hf⟩:=h
 obtain ⟨y0,y1,n,_,hl,h0,h1⟩:=Go.ChangeShapes.trod_struct2 Tryz.underlying33 hf
 obtain ⟨s,hs1,_,hs2⟩:=DataW.trod_string Tryz.underlying9 h0
 have hc2 : Tryz.prog.cellsOf 33=2:=by kernel_rfl
 rw [hc2] at hsz
 rw [show Tryz.prog.cellsOf 9=1 from by kernel_rfl] at hs1
 rw [show Tryz.prog.cellsOf 31=1 from by kernel_rfl] at h1
 obtain ⟨c0,c1,rfl⟩ : ∃ c0 c1,cs=#[c0,c1]:=by
   match cs,hsz with
   | ⟨[c0,c1]⟩,_=>exact ⟨c0,c1,rfl⟩
 simp [Value.cells] at hs1 h1
 subst hs1
 rcases DataW.trod_slice Tryz.underlying31 h1 with ⟨hcs,_⟩ | ⟨a,len,cap,_,_,_,_,hcs,_,_,hlc,hcm,_⟩
 · simp at hcs
   subst hcs
   exact ⟨⟨s,[]⟩,none,0,rfl,by simpa [maxLen] using hs2,Nat.le_refl _,by omega,fun h=>absurd h (by simp)⟩
 · simp at hcs
   subst hcs
   obtain ⟨g1,g2⟩:=argRows (sz:=4) Tryz.underlying31 (by kernel_rfl) (by decide) (⟨_,h1⟩ : DataW.Trod enc Tryz.prog W 0 (fun _=>true) true 31 (.slice (some a) len cap) _ _)
   unfold maxLen at hcm hs2
   rcases g2 with g2 | ⟨b,off,g3,g4,g5⟩
   · subst g2
     exact ⟨⟨s,[]⟩,some a,cap,rfl,hs2,Nat.zero_le _,by omega,fun h=>absurd h (by simp)⟩
   · obtain ⟨ops, o1, o2⟩ := exists_list (α := OpR) (P := fun i o => Rd W b (off + i * 4) (opR o)) len fun i hi => by
       obtain ⟨cs,m,x,e1,e2,e3⟩:=g5 i hi
       obtain ⟨xs,n,_,_,_,hlen,hfs⟩:=DataW.trod_struct Tryz.underlying87 e3
       have hi4 : ∀ k,k < 4→∃ z,cs[k]?=some (.int .i64 z):=by
         intro k hk
         obtain ⟨y,hy⟩ : ∃ y,xs[k]?=some y:=⟨_,List.getElem?_eq_getElem (by rw [hlen]; exact hk)⟩
         have hc1 : Tryz.prog.cellsOf 3=1:=by kernel_rfl
         have hk2 : ∃ f : Field,f.type=3∧f.offset=k∧Tryz.prog.underlying 87=Tryz.prog.underlying 87∧DataW.trod enc Tryz.prog W 0 (fun _=>true) true n f.type ((cs.drop f.offset).take (Tryz.prog.cellsOf f.type))=some y:=by
           rcases (by omega : k=0∨k=1∨k=2∨k=3) with rfl | rfl | rfl | rfl
           · exact ⟨_,rfl,rfl,rfl,(hfs 0 _ rfl).trans hy⟩
           · exact ⟨_,rfl,rfl,rfl,(hfs 1 _ rfl).trans hy⟩
           · exact ⟨_,rfl,rfl,rfl,(hfs 2 _ rfl).trans hy⟩
           · exact ⟨_,rfl,rfl,rfl,(hfs 3 _ rfl).trans hy⟩
         obtain ⟨f,t1,t2,_,t3⟩:=hk2
         rw [t1,t2,hc1] at t3
         obtain ⟨z,hz,_,_⟩:=DataW.trod_int Tryz.underlying3 t3
         refine ⟨z,?_⟩
         have h9 : ((cs.drop k).take 1)[0]?=some (.int .i64 z):=by rw [hz]; rfl
         rw [List.getElem?_take,if_pos (by decide),List.getElem?_drop] at h9
         exact h9
       obtain ⟨z0,q0⟩:=hi4 0 (by decide)
       obtain ⟨z1,q1⟩:=hi4 1 (by decide)
       obtain ⟨z2,q2⟩:=hi4 2 (by decide)
       obtain ⟨z3,q3⟩:=hi4 3 (by decide)
       refine ⟨⟨z0,z1,z2,z3⟩,?_⟩
       obtain ⟨c0,c1,c2,c3,rfl⟩ : ∃ c0 c1 c2 c3,cs=[c0,c1,c2,c3]:=by
         match cs,e1 with
         | [c0,c1,c2,c3],_=>exact ⟨c0,c1,c2,c3,rfl⟩
       obtain rfl : c0=_:=Option.some.inj q0
       obtain rfl : c1=_:=Option.some.inj q1
       obtain rfl : c2=_:=Option.some.inj q2
       obtain rfl : c3=_:=Option.some.inj q3
       exact e2
     subst o1
     exact ⟨⟨s,ops⟩,some a,cap,rfl,hs2,hlc,by omega,fun _=>⟨b,off,g3,g4,rd_rows o2⟩⟩
theorem ArgProg.ro {W w : World} {L : List SP} {p : Pr} {adO : Option Addr} {cO : Nat} (h : ArgProg W p adO cO) (hs : St W w L) : St W w (RoP W p adO cO::L) :=
 hs.roOld (rows_len opR_len _) h.2.1 h.2.2.2
end Go.Proofs.YtagpkhbkdbaigaaGreat
