/- What is done, as it comes in. -/
import Derived.Test.YtagpkhbkdbaigaaGreatDo
import Derived.Test.YtagpkhbkdbaigaaGreatArgC
namespace Go.Proofs.YtagpkhbkdbaigaaGreat
open Go.RowKit Go.ChangeShapes Go.WideShapes Go.ChangeAt
set_option linter.unusedVariables false
set_option linter.unusedSimpArgs false
set_option linter.constructorNameAsVariable false
set_option maxRecDepth 100000
set_option synthInstance.maxSize 4000
set_option synthInstance.maxHeartbeats 400000
structure OpX where
 kd : Int
 aB : Option Addr
 n : Nat
 cB : Nat
 bs : List UInt8
 pk : Pk
 aK : Option Addr
 cK : Nat
 b : Bool
 z : Int
def OpX.cells (o : OpX) : List Value:=opL o.kd o.aB o.n o.cB o.pk o.aK o.cK o.b o.z
def OpX.ok (W : World) (o : OpX) : Prop:=RdB W o.aB o.n o.bs∧o.n≤o.cB∧o.pk.sum < 4294967296∧RdB W o.aK o.pk.press.length o.pk.press∧o.pk.press.length≤o.cK
def ArgOps (W : World) (ad : Option Addr) (len : Nat) : Prop :=
 len≤9223372036854775807∧(len=0∨∃ b off,ad=some ⟨b,off,none⟩∧b < W.heap.size∧∀ i,i < len→∃ o : OpX,Rd W b (off+i*13) o.cells∧o.ok W)
theorem bytesOf {H : Type} {enc : TypeId × Value→H} {W : World} {n : Nat} {c : Value} {y : DataW H × List MemPlace} (h : DataW.trod enc Tryz.prog W 0 (fun _=>true) true n 22 [c]=some y) :
   ∃ (ad : Option Addr) (cap : Nat) (bs : List UInt8),c=.slice ad bs.length cap∧RdB W ad bs.length bs∧bs.length≤cap:=by
 obtain ⟨ad,l,cap,rfl,z,hz⟩ : ∃ (al : Option Addr) (l c' : Nat),c=.slice al l c'∧∃ zs,ArgInts .u8 W al l c' zs:=by
   rcases open_ints Tryz.underlying22 Tryz.underlying5 (by kernel_rfl) h with ⟨hcs,_⟩ | ⟨x,l,c,zs,hcs,_,hl,hm,hz,_,hcell,hwz⟩
   · simp at hcs
     exact ⟨none,0,0,hcs,[],.inl ⟨rfl,rfl,rfl,rfl⟩⟩
   · simp at hcs
     exact ⟨_,l,c,hcs,zs,.inr ⟨_,rfl,hl,hm,by simpa using hz,hcell,hwz⟩⟩
 obtain ⟨bs,h1,h2⟩:=hz.bytesB
 have h3:=capLe hz
 subst h1
 exact ⟨ad,cap,bs,rfl,h2,h3⟩
theorem u32of {x : Int} (h : (Lit.int .u32 x).wf=true) : x=((x.toNat : Nat) : Int)∧x.toNat < 4294967296:=by
 have hr:=(Lit.wf_int_iff .u32 x).1 h
 have h1 : IntKind.u32.min=0:=by decide
 have h2 : IntKind.u32.max=4294967295:=by decide
 rw [h1,h2] at hr
 omega
theorem pkOf {H : Type} {enc : TypeId × Value→H} {W : World} {m : Nat} {cs : List Value} {y : DataW H × List MemPlace} (h : DataW.trod enc Tryz.prog W 0 (fun _=>true) true m 40 cs=some y) :
   ∃ (pk : Pk) (aK : Option Addr) (cK : Nat),cs=pkC pk aK cK∧pk.sum < 4294967296∧RdB W aK pk.press.length pk.press∧pk.press.length≤cK:=by
 obtain ⟨xs,n,_,_,hcl,hlen,hf⟩:=DataW.trod_struct Tryz.underlying40 h
 rw [show Tryz.prog.cellsOf 40=9 from by kernel_rfl] at hcl
 match cs,hcl,xs,hlen with
 | [c0,c1,c2,c3,c4,c5,c6,c7,c8],_,[y0,y1,y2,y3,y4,y5,y6,y7,y8],_ =>
   have e0 : DataW.trod enc Tryz.prog W 0 (fun _=>true) true n 3 [c0]=some y0:=hf 0 _ rfl
   have e1 : DataW.trod enc Tryz.prog W 0 (fun _=>true) true n 3 [c1]=some y1:=hf 1 _ rfl
   have e2 : DataW.trod enc Tryz.prog W 0 (fun _=>true) true n 3 [c2]=some y2:=hf 2 _ rfl
   have e3 : DataW.trod enc Tryz.prog W 0 (fun _=>true) true n 2 [c3]=some y3:=hf 3 _ rfl
   have e4 : DataW.trod enc Tryz.prog W 0 (fun _=>true) true n 3 [c4]=some y4:=hf 4 _ rfl
   have e5 : DataW.trod enc Tryz.prog W 0 (fun _=>true) true n 22 [c5]=some y5:=hf 5 _ rfl
   have e6 : DataW.trod enc Tryz.prog W 0 (fun _=>true) true n 3 [c6]=some y6:=hf 6 _ rfl
   have e7 : DataW.trod enc Tryz.prog W 0 (fun _=>true) true n 3 [c7]=some y7:=hf 7 _ rfl
   have e8 : DataW.trod enc Tryz.prog W 0 (fun _=>true) true n 38 [c8]=some y8:=hf 8 _ rfl
   obtain ⟨z0,h0,_,_⟩:=DataW.trod_int Tryz.underlying3 e0
   obtain ⟨z1,h1,_,_⟩:=DataW.trod_int Tryz.underlying3 e1
   obtain ⟨z2,h2,_,_⟩:=DataW.trod_int Tryz.underlying3 e2
   obtain ⟨z3,h3,_,_⟩:=DataW.trod_int Tryz.underlying2 e3
   obtain ⟨z4,h4,_,_⟩:=DataW.trod_int Tryz.underlying3 e4
   obtain ⟨ad,cap,bs,h5,h5r,h5c⟩:=bytesOf e5
   obtain ⟨z6,h6,_,_⟩:=DataW.trod_int Tryz.underlying3 e6
   obtain ⟨z7,h7,_,_⟩:=DataW.trod_int Tryz.underlying3 e7
   obtain ⟨z8,h8,_,w8⟩:=DataW.trod_int Tryz.underlying38 e8
   simp at h0 h1 h2 h3 h4 h6 h7 h8
   subst h0 h1 h2 h3 h4 h5 h6 h7 h8
   obtain ⟨u1,u2⟩:=u32of w8
   refine ⟨⟨z0,z1,z2,z3,z4,z6,z7,z8.toNat,bs⟩,ad,cap,?_,u2,h5r,h5c⟩
   simp only [pkC]
   rw [← u1]
theorem argOps_of {H : Type} {enc : TypeId × Value→H} {W : World} {len cap : Nat} {ad : Option Addr} {d : DataW H} {p : List MemPlace}
   (h : DataW.Trod enc Tryz.prog W 0 (fun _=>true) true 69 (.slice ad len cap) d p) : ArgOps W ad len:=by
 obtain ⟨h1,h2⟩:=argRows (sz:=13) Tryz.underlying69 (by kernel_rfl) (by decide) h
 refine ⟨h1,h2.imp id ?_⟩
 rintro ⟨b,off,h3,h4,h5⟩
 refine ⟨b,off,h3,h4,fun i hi=>?_⟩
 obtain ⟨cs,m,x,g1,g2,g3⟩:=h5 i hi
 obtain ⟨xs,n,_,rfl,_,hlen,hf⟩:=DataW.trod_struct Tryz.underlying74 g3
 match cs,g1,xs,hlen with
 | [c0,c1,c2,c3,c4,c5,c6,c7,c8,c9,c10,c11,c12],_,[y0,y1,y2,y3,y4],_ =>
   have e0 : DataW.trod enc Tryz.prog W 0 (fun _=>true) true n 3 [c0]=some y0:=hf 0 _ rfl
   have e1 : DataW.trod enc Tryz.prog W 0 (fun _=>true) true n 22 [c1]=some y1:=hf 1 _ rfl
   have e2 : DataW.trod enc Tryz.prog W 0 (fun _=>true) true n 40 [c2,c3,c4,c5,c6,c7,c8,c9,c10]=some y2:=hf 2 _ rfl
   have e3 : DataW.trod enc Tryz.prog W 0 (fun _=>true) true n 4 [c11]=some y3:=hf 3 _ rfl
   have e4 : DataW.trod enc Tryz.prog W 0 (fun _=>true) true n 38 [c12]=some y4:=hf 4 _ rfl
   obtain ⟨z0,k0,_,_⟩:=DataW.trod_int Tryz.underlying3 e0
   obtain ⟨aB,cB,bs,k1,k1r,k1c⟩:=bytesOf e1
   obtain ⟨pk,aK,cK,k2,k2s,k2r,k2c⟩:=pkOf e2
   obtain ⟨bb,k3,_⟩:=DataW.trod_bool Tryz.underlying4 e3
   obtain ⟨z4,k4,_,_⟩:=DataW.trod_int Tryz.underlying38 e4
   simp at k0 k3 k4
   subst k0 k1 k3 k4
   refine ⟨⟨z0,aB,bs.length,cB,bs,pk,aK,cK,bb,z4⟩,?_,k1r,k1c,k2s,k2r,k2c⟩
   rw [show OpX.cells ⟨z0,aB,bs.length,cB,bs,pk,aK,cK,bb,z4⟩=[.int .i64 z0,.slice aB bs.length cB]++pkC pk aK cK++[.bool bb,.int .u32 z4] from rfl,← k2]
   exact g2
end Go.Proofs.YtagpkhbkdbaigaaGreat
