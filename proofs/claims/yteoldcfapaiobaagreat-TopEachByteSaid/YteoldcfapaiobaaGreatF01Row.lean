/- Rows of structs: a list laid out flat, so many cells each. -/
import Derived.Test.YteoldcfapaiobaaGreatF00Sl
import Derived.Laws.RangeAny
import Derived.Laws.Strings
import Derived.Laws.MakeOwn
import Derived.KernelRfl
import Derived.Test.YteoldcfapaiobaaGreatProg
namespace Go.Proofs.YteoldcfapaiobaaGreat
open Tryz
open List (all_eq_true drop_zero take_succ_cons nil_append map_cons getElem?_cons_succ mem_range getElem?_toArray drop_eq_nil_of_le ext_getElem getElem_map cons_append eraseIdx_set_eq append_nil)
open Go.RowKit
set_option linter.unusedVariables false
set_option linter.unusedSimpArgs false
set_option maxRecDepth 10000
set_option synthInstance.maxSize 4000
set_option synthInstance.maxHeartbeats 400000
section
theorem Ru {x:Int}:decide (x≠x)=false:=by simp
def rows {α:Type}(f:α→List Value)(l:List α):List Value:=l.flatMap f
section
variable {α:Type}{f:α→List Value}{sz:Nat}
theorem oC (x:α)(l:List α):rows f (x::l)=f x++rows f l:=rfl
theorem kE (l m:List α):rows f (l++m)=rows f l++rows f m:=by simp[rows]
theorem Af (h1:∀ x,∀ v∈f x,v.oneCell'=true)(l:List α):∀ v∈rows f l,v.oneCell'=true:=by
 intro v hv;simp only[rows,List.mem_flatMap]at hv;obtain⟨x,_,hx⟩:=hv;exact h1 x v hx
theorem jv (hf:∀ x,(f x).length=sz)(l:List α):(rows f l).length=l.length*sz:=by
 induction l with
 | nil=>simp[rows]
 | cons x l ih=>rw[oC,aI,hf,ih,eR,Nat.succ_mul,Nat.add_comm]
theorem IQ (hf:∀ x,(f x).length=sz)(l:List α)(i:Nat):(rows f l).drop (i*sz)=rows f (l.drop i):=by
 induction i generalizing l with
 | zero=>simp
 | succ i ih =>
  cases l with
  | nil=>simp[rows]
  | cons x l=>rw[oC,Nat.succ_mul,Nat.add_comm,← ky,List.drop_left' (hf x),ih,List.drop_succ_cons]
theorem Rv (hf:∀ x,(f x).length=sz)(l:List α)(i:Nat):(rows f l).take (i*sz)=rows f (l.take i):=by
 induction i generalizing l with
 | zero=>simp[rows]
 | succ i ih =>
  cases l with
  | nil=>simp[rows]
  | cons x l =>
   rw[oC,Nat.succ_mul,Nat.add_comm,ur,hf,gg (by rw[hf];omega),show sz+i*sz-sz=i*sz from by omega,ih,take_succ_cons,oC]
theorem vW (hf:∀ x,(f x).length=sz)(l:List α)(i:Nat)(h:i<l.length):((rows f l).drop (i*sz)).take sz=f l[i]:=by
 rw[IQ hf,kF h,oC,List.take_left' (hf _)]
theorem Ds (hf:∀ x,(f x).length=sz)(l:List α){i k:Nat}{v:Value}(h:i<l.length)(hv:(f l[i])[k]?=some v):(rows f l)[i*sz+k]?=some v:=by
 have hk:k<sz:=by rw[← hf l[i]];exact (a2.1 hv).1
 have:=vW hf l i h;rw[← this,vP,ak hk,qs]at hv;exact hv
theorem IS (hf:∀ x,(f x).length=sz)(l:List α){i:Nat}(x:α)(h:i<l.length):cG (rows f l) (i*sz) (f x)=rows f (l.set i x):=by
 rw[rp,ak h,kE,oC,cG,Rv hf,hf,show i*sz+sz=(i+1)*sz from by rw[Nat.succ_mul],IQ hf,dx]
theorem qD (hf:∀ x,(f x).length=sz)(l:List α){i k:Nat}{v:Value}(x:α)(h:i<l.length)(hk:k<sz)(hx:(f l[i]).set k v=f x):(rows f l).set (i*sz+k) v=rows f (l.set i x):=by
 have h0:l=l.take i++l[i]::l.drop (i+1):=by rw[← kF h,jY]
 have vX:l.set i x=l.take i++x::l.drop (i+1):=by rw[rp,ak h]
 rw[vX,kE,oC]
 conv=>lhs;rw[h0,kE,oC]
 have hl:(rows f (l.take i)).length=i*sz:=by rw[jv hf];simp;rw[Nat.min_eq_left (by omega)]
 rw[uu _ _ (by omega),hl,show i*sz+k-i*sz=k from by omega,sN _ _ (by rw[hf];exact hk),hx]
theorem Rw (A B C vs:List Value)(k:Nat)(hk:k+vs.length≤B.length):cG (A++(B++C)) (A.length+k) vs=A++(cG B k vs++C):=by
 have e1:(A++(B++C)).take (A.length+k)=A++B.take k:=by
  rw[ur,gg (by omega),show A.length+k-A.length=k from by omega,List.take_append_of_le_length (by omega)]
 have e2:(A++(B++C)).drop (A.length+k+vs.length)=B.drop (k+vs.length)++C:=by
  rw[List.drop_append,drop_eq_nil_of_le (by omega),show A.length+k+vs.length-A.length=k+vs.length from by omega,List.drop_append_of_le_length (by omega),nil_append]
 rw[cG,e1,e2,cG];simp only[dx]
theorem Rx (hf:∀ x,(f x).length=sz)(l:List α){i k:Nat}{vs:List Value}(x:α)(h:i<l.length)(hk:k+vs.length≤sz)(hx:cG (f l[i]) k vs=f x):cG (rows f l) (i*sz+k) vs=rows f (l.set i x):=by
 have h0:rows f l=rows f (l.take i)++(f l[i]++rows f (l.drop (i+1))):=by
  rw[← oC,← kE,← kF h,jY]
 have vX:l.set i x=l.take i++x::l.drop (i+1):=by rw[rp,ak h]
 have hl:(rows f (l.take i)).length=i*sz:=by rw[jv hf];simp;rw[Nat.min_eq_left (by omega)]
 rw[vX,kE,oC,h0,← hl,Rw _ _ _ _ _ (by rw[hf];exact hk),hx]
theorem Ry (hf:∀ x,(f x).length=sz)(l:List α){i k m:Nat}(h:i<l.length)(hk:k+m≤sz):((rows f l).drop (i*sz+k)).take m=((f l[i]).drop k).take m:=by
 have:=vW hf l i h;rw[← this,List.drop_take,List.take_take,ky,Nat.min_eq_left (by omega)]
end
def fn (m:Nat)(g:Nat→Value):List Value:=(List.range m).map g
theorem IT (m:Nat)(g:Nat→Value):(fn m g).length=m:=by simp[fn]
theorem IU {m k:Nat}(g:Nat→Value)(h:k<m):(fn m g)[k]?=some (g k):=by simp[fn,h]
theorem Dt {m:Nat}{g g':Nat→Value}(h:∀ k,k<m→g k=g' k):fn m g=fn m g':=by
 simp only[fn];exact List.map_congr_left λk hk=>h k (mem_range.1 hk)
theorem IV {m k:Nat}(g:Nat→Value)(v:Value):(fn m g).set k v=fn m (λj=>if j=k then v else g j):=by
 apply ext_getElem (by simp[fn]);intro i h1 h2;simp only[fn,List.getElem_set,getElem_map,List.getElem_range];by_cases h:k=i
 ·simp[h]
 ·rw[ag h,ag (λe=>h e.symm)]
theorem Rz {m:Nat}{g:Nat→Value}(h:∀ k,(g k).oneCell'=true):∀ v∈fn m g,v.oneCell'=true:=by
 intro v hv;simp only[fn,cR]at hv;obtain⟨k,_,rfl⟩:=hv;exact h k
theorem RA {m k n:Nat}(g:Nat→Value)(h:k+n≤m):((fn m g).drop k).take n=fn n (λj=>g (k+j)):=by
 apply ext_getElem (by simp[fn];omega);intro i h1 h2;simp[fn]
def cm (g:Nat→Int)(c:Nat)(v:Int):Nat→Int:=λj=>if j=c then v else g j
def ints (k:IntKind)(m:Nat)(g:Nat→Int):List Value:=fn m (λj=>.int k (g j))
theorem dg (k:IntKind)(m:Nat)(g:Nat→Int):(ints k m g).length=m:=IT _ _
theorem fT {k:IntKind}{m j:Nat}(g:Nat→Int)(h:j<m):(ints k m g)[j]?=some (.int k (g j)):=IU _ h
theorem uy {k:IntKind}{m:Nat}{g:Nat→Int}:∀ v∈ints k m g,v.oneCell'=true:=Rz λ_=>rfl
theorem ints_set {k:IntKind}{m j:Nat}(g:Nat→Int)(v:Int):(ints k m g).set j (.int k v)=ints k m (λi=>if i=j then v else g i):=by
 rw[ints,IV];exact Dt λi _=>by by_cases h:i=j <;> simp[h]
theorem RB {k:IntKind}{m j n:Nat}(g:Nat→Int)(h:j+n≤m):((ints k m g).drop j).take n=ints k n (λi=>g (j+i)):=RA _ h
theorem xX {k:IntKind}{m:Nat}{g g':Nat→Int}(h:∀ j,j<m→g j=g' j):ints k m g=ints k m g':=Dt λj hj=>by rw[h j hj]
class vY (fR:List (List Value))(out:outParam (List Value)):Prop where h:fR.flatten=out
instance vY.nil:vY [] []:=⟨rfl⟩
instance vY.one {x fR out}[k:vY fR out]:vY ([x]::fR) (x::out):=⟨by rw[List.flatten_cons,k.h];rfl⟩
instance mC.ints {k m g}:mC (ints k m g) m:=⟨dg k m g⟩
section
variable {P:Program}{ops:Array Oper}{Q:Exit→Act→World→Prop}{a:Act}{w w' W:World}{K:Act→World→Prop}{n d:Nat}{l:List (Nat×Value)}{v:Value}{L R:List SP}
theorem vZ {x y k i j t u dst ty ps af g}(E:Fr a n l)(h:j≠0)(hi:k.wrap (i.tdiv j)=i.tdiv j)[e:Ev l x (.int k i)][f:Ev l y (.int k j)] :
   (execOp a.eval ⟨dst,.binOp .quo t x y u,ty,ps,af,g⟩).run P w=.ok (.value (.int k (i.tdiv j))) w:=by
 have:k.wrap (i.tdiv j)=i.tdiv j:=hi;simp[execOp,e.ev a n E,f.ev a n E,eqGuard,binOp,Op.intDiv,h,this]
theorem Ag {x y k i j t u dst ty ps af g}(E:Fr a n l)(h:j≠0)[e:Ev l x (.int k i)][f:Ev l y (.int k j)] :
   (execOp a.eval ⟨dst,.binOp .rem t x y u,ty,ps,af,g⟩).run P w=.ok (.value (.int k (i.tmod j))) w:=by
 simp[execOp,e.ev a n E,f.ev a n E,eqGuard,binOp,Op.intDiv,h]
theorem ry (i:Nat)(j:Nat):(i:Int).tdiv (j:Int)=((i/j:Nat):Int):=by rw[Int.natCast_ediv,Int.tdiv_eq_ediv_of_nonneg (by omega)]
theorem oD (i:Nat)(j:Nat):(i:Int).tmod (j:Int)=((i%j:Nat):Int):=by rw[Int.natCast_emod,Int.tmod_eq_emod_of_nonneg (by omega)]
theorem sR {x y k i j vs t el m eh z a1 dst ty ps af g}(E:Fr a n l)(hu:P.underlying t=some (.array m el))(hd:P.underlying el=some eh)(h1:ov eh=true)(hi:TI P el z 1 a1)
   [ev:Ev l x (.agg (List.toArray vs))] [g3:Ev l y (.int k i)] [nj:eo i j] (hlt:j<m) (hv:vs[j]?=some v) :
   (execOp a.eval ⟨dst,.index t x y,ty,ps,af,g⟩).run P w=.ok (.value v) w:=by
 have:=nj.h;subst this;have xY:(part el vs.toArray j).run P w=.ok v w:=by
  have Du:(isAgg el).run P w=.ok false w:=by
   simp only[isAgg,Sem.run_bind,eO hd,Result.andThen_ok];cases eh <;> first | rfl | (simp[ov]at h1)
  simp[part,Du,hv]
 simp[execOp,ev.ev a n E,g3.ev a n E,Instr.index,asIntOf,eO hu,mz hi,hlt,xY]
theorem RC {x b off m t el z sz a1 dst ty ps af g}(E:Fr a n l)[ev:Ev l x (.pointer (some ⟨b,off,none⟩))](ht:P.underlying t=some (.array m el))(hi:TI P el z sz a1) :
   (execOp a.eval ⟨dst,.slice t x none none none,ty,ps,af,g⟩).run P w=.ok (.value (.slice (some ⟨b,off,none⟩) m m)) w:=by
 simp[execOp,ev.ev a n E,Instr.sliceAt,Instr.sliceBounds,eO ht,mz hi,Instr.sureAddr,lE]
theorem gn {x k k' i s t dst ty ps af g}(E:Fr a n l)(I:P.underlying s=some (.int k))(ht:P.underlying t=some (.int k'))[ev:Ev l x (.int k i)] :
   (execOp a.eval ⟨dst,.convert s t x,ty,ps,af,g⟩).run P w=.ok (.value (.int k' (k'.wrap i))) w:=by
 simp[execOp,ev.ev a n E,convert,eO I,eO ht,Conv.intToInt]
theorem pE {x k k' i s t dst ty ps af g}(E:Fr a n l)(I:P.underlying s=some (.int k))(ht:P.underlying t=some (.int k'))(hw:k'.wrap i=i)[ev:Ev l x (.int k i)] :
   (execOp a.eval ⟨dst,.convert s t x,ty,ps,af,g⟩).run P w=.ok (.value (.int k' i)) w:=by
 rw[gn E I ht,hw]
theorem Dv {t el m z zs sz a1 RD Ah be parts fR out dst ty ps af g}(E:Fr a n l)(hu:P.underlying t=some (.array m el))(hi:TI P t z sz a1)[Dg:Cells z zs](he:TI P el RD Ah be)
   [sM:uq l parts 0 fR] (hc:(fR.all λc=>c.length==Ah)=true) (hz:zs.length=fR.length*Ah) [iW:vY fR out] :
   (execOp a.eval ⟨dst,.build t (List.toArray parts),ty,ps,af,g⟩).run P w=.ok (.value (.agg out.toArray)) w:=by
 obtain⟨vs,e1,e2⟩:=sM.h a n E;have hf:=De (sz:=Ah) fR vs 0 [] zs e2 (λc xT=>by simpa using all_eq_true.1 hc c xT) (by simp) hz;simp only[nil_append]at hf;rw[iW.h]at hf;simp only[execOp,Sem.run_bind,Instr.build,uk hi,Result.andThen_ok,eO hu,mz he,Dg.h,List.map_toArray,e1];simp[hf]
theorem RE {x y b off m t el z sz a1 k i j dst ty ps af g}(E:Fr a n l)[ev:Ev l x (.pointer (some ⟨b,off,none⟩))](ht:P.underlying t=some (.array m el))(hi:TI P el z sz a1)[g3:Ev l y (.int k i)][nj:eo i j](h:j<m) :
   (execOp a.eval ⟨dst,.slice t x (some y) none none,ty,ps,af,g⟩).run P w=.ok (.value (.slice (some ⟨b,off+j*sz,none⟩) (m-j) (m-j))) w:=by
 have:=nj.h;subst this;have h2:¬ (m=j):=by omega
 simp[execOp,ev.ev a n E,g3.ev a n E,Instr.sliceAt,Instr.sliceBounds,Instr.sliceBound,asIntOf,eO ht,mz hi,Instr.sureAddr,lE,Nat.le_of_lt h,h2]
theorem RF {x y t t2 el z sz a1 b off m c b2 gR Ai c2 k vs e cs ty ps af g}(E:Fr a n l)(hw:Region.wanted ⟨some d,.call ⟨.builtin .copy,#[x,y],#[t,t2]⟩,ty,ps,af,g⟩ (yielded ops a.tmps)=true)(I:U W w L)
   (ht:P.underlying t=some (.slice el)) (hi:TI P el z sz a1) (hf:okB d n l=true) [ev:Ev l x (.slice (some ⟨b,off,none⟩) m c)] [g3:Ev l y (.slice (some ⟨b2,gR,none⟩) Ai c2)] [Dm:fI L b e cs R]
   (hk:min Ai m=k) (hr:Rd w b2 gR vs) (hl:vs.length=k*sz) (h1:∀ v∈vs,v.oneCell'=true) (hle:off+vs.length≤cs.length)
   (h:∀ a' w',Fr a' n ((d,.int .i64 k)::l)→U W w' (aa b e (cG cs off vs)::R)→K a' w'):cJ P ops Q ⟨some d,.call ⟨.builtin .copy,#[x,y],#[t,t2]⟩,ty,ps,af,g⟩ K a w:=by
 obtain⟨i,lF,dL,kX,qw⟩:=info_parts hi.h;have g2:=I.jX b;have ow:∀ j v,vs[j]?=some v→w.cell? ((⟨b2,gR,none⟩:Addr).add j)=some v:=λj v hj=>by rw[lE];exact hr j v hj
 have ju:=run_firstCells_some (P:=P) w sz k ⟨b2,gR,none⟩ Ai c2 vs hl ow;have aR:=run_storeCells_at (P:=P) b off e vs 0 cs.toArray w g2.has.2 (by simpa using hle) h1;have rr:(storeCells ⟨b,off,none⟩ vs).run P w=.ok () (w.setRow b (cG cs off vs).toArray):=by simpa [cG] using aR
 refine bm (v:=.int .i64 k) (w':=w.setRow b (cG cs off vs).toArray) E hw ?_ hf (λa' de=>h a' _ de g2.setRow);simp[execOp,resolve,ev.ev a n E,g3.ev a n E,invoke,builtin,Builtin.copy_,eO ht,sizeOf,typeInfo,lF,kX,Builtin.lenOf,hk,ju,rr,goInt]
end
def ah {α:Type}(f:α→SP)(l:List α):SP:=λh=>cn (l.map f) h
section
variable {α:Type}{f:α→SP}{W w:World}{L:List SP}
theorem sS {β:Type}(l:List β){i:Nat}(h:i<l.length):l.Perm (l[i]::l.eraseIdx i):=by
 conv=>lhs;rw[← jY i l,kF h]
 rw[sT];exact nQ
theorem U.iY (I:U W w L):U W w (ah f []::L) :=
 ⟨I.below,let ⟨h,p,q⟩:=I.sat;⟨h,p,λ_=>none,h,λ_=>.inl rfl,λ_ _ e=>(by cases e),Hp.Sub.refl _,trivial,q⟩⟩
theorem U.fy {l:List α}(I:U W w (ah f l::L)){i:Nat}(h:i<l.length):U W w (f l[i]::ah f (l.eraseIdx i)::L):=by
 have h1:=I.open (M:=l.map f) (λ_ x=>x);have hp:=((sS l h).map f).append_right L;have h2:=h1.perm hp;simp only[map_cons,cons_append]at h2;refine U.perm (L:=ah f (l.eraseIdx i)::f l[i]::L) ?_ (cZ _ _ _);exact U.shut (M:=(l.eraseIdx i).map f) (h2.perm nQ.symm) (λ_ x=>x)
theorem U.v7 {l:List α}{x:α}(I:U W w (f x::ah f l::L)):U W w (ah f (x::l)::L):=by
 have h1:=(I.perm (cZ _ _ _)).open (M:=l.map f) (λ_ x=>x);exact U.shut (M:=(x::l).map f) (h1.perm nQ) (λ_ x=>x)
theorem U.IW {l l':List α}(I:U W w (ah f l::L))(hp:l.Perm l'):U W w (ah f l'::L):=by
 have h1:=I.open (M:=l.map f) (λ_ x=>x);exact U.shut (M:=l'.map f) (h1.perm ((hp.map f).append_right L)) (λ_ x=>x)
theorem U.kZ {l:List α}{x:α}{i:Nat}(h:i<l.length)(I:U W w (f x::ah f (l.eraseIdx i)::L)):U W w (ah f (l.set i x)::L):=by
 refine I.v7.IW ?_;have hi:i<(l.set i x).length:=by simpa using h
 have:=sS (l.set i x) hi;rw[oG,eraseIdx_set_eq]at this;exact this.symm
theorem U.j0 {l:List α}{x:α}(I:U W w (f x::ah f l::L)):U W w (ah f (l++[x])::L) :=
 I.v7.IW (List.perm_append_comm (l₁:=[x]))
end
end
section
def pF (s:ByteArray)(pos:Nat):List Value:=if pos<s.size then [.bool true,.int .i64 pos,.int .i32 (Utf8.decode s pos).1] else [.bool false]
def eb (s:ByteArray)(pos:Nat):Nat:=if pos<s.size then pos+(Utf8.decode s pos).2 else pos
theorem Dw (s:ByteArray)(pos:Nat):(pF s pos)[0]?=some (.bool (decide (pos<s.size))):=by
 by_cases h:pos<s.size <;> simp[pF,h]
theorem RG {s:ByteArray}{pos:Nat}(h:pos<s.size):(pF s pos)[1]?=some (.int .i64 pos):=by simp[pF,h]
theorem Dx {s:ByteArray}{pos:Nat}(h:pos<s.size):(pF s pos)[2]?=some (.int .i32 (Utf8.decode s pos).1):=by simp[pF,h]
section
variable {P:Program}{ops:Array Oper}{Q:Exit→Act→World→Prop}{a:Act}{w w' W:World}{K:Act→World→Prop}{o:Oper}{n d:Nat}{l:List (Nat×Value)}{v:Value}{L R:List SP}
theorem Dy {t x s ty ps af g}(E:Fr a n l)(hw:Region.wanted ⟨some d,.range t x,ty,ps,af,g⟩ (yielded ops a.tmps)=true)(I:U W w L)(ht:P.underlying t=some .string)[ev:Ev l x (.string s)]
   (hf:okB d n l=true) (h:∀ b a' w',Fr a' n ((d,.pointer (some ⟨b,0,none⟩))::l)→U W w' (kW b (.stringIter s 0)::L)→Old w w'→K a' w'):cJ P ops Q ⟨some d,.range t x,ty,ps,af,g⟩ K a w:=by
 refine bm (v:=.pointer (some ⟨w.heap.size,0,none⟩)) (w':=w.alloc (.stringIter s 0)) E hw ?_ hf (λa' de=>h _ _ _ de (I.alloc _) (Old.alloc _ _));have:=run_range_string (P:=P) w t s ht;simp[execOp,ev.ev a n E,this,World.iter]
class Dz (L:List SP)(b:Nat)(o:outParam Obj)(R:outParam (List SP)):Prop where perm:L.Perm (kW b o::R)
instance Dz.head {L b o}:Dz (kW b o::L) b o L:=⟨lD _⟩
theorem DA {x s pos b ty ps af g}(E:Fr a n l)(hw:Region.wanted ⟨some d,.next x true,ty,ps,af,g⟩ (yielded ops a.tmps)=true)(I:U W w L)[ev:Ev l x (.pointer (some ⟨b,0,none⟩))][k:Dz L b (.stringIter s pos) R]
   (hf:okB d n l=true) (h:∀ a' w',Fr a' n ((d,.tuple (List.toArray (pF s pos)))::l)→U W w' (kW b (.stringIter s (eb s pos))::R)→K a' w'):cJ P ops Q ⟨some d,.next x true,ty,ps,af,g⟩ K a w:=by
 have oz:=I.perm k.perm;have hb:=oz.has.2;by_cases hp:pos<s.size
 ·have dz:=oz.cm (o':=.stringIter s (eb s pos)) (w':={ w with heap:=w.heap.setIfInBounds b (.stringIter s (eb s pos)) }) rfl rfl rfl rfl;refine bm (v:=.tuple (List.toArray (pF s pos))) (w':={ w with heap:=w.heap.setIfInBounds b (.stringIter s (eb s pos)) }) E hw ?_ hf (λa' de=>h a' _ de dz);simp[execOp,ev.ev a n E,Instr.next,getObj,setObj,Sem.run,hb,hp,goInt,pF,eb,Sem.run_bind]
 ·have e:eb s pos=pos:=by simp[eb,hp]
  refine bm (v:=.tuple (List.toArray (pF s pos))) (w':=w) E hw ?_ hf (λa' de=>h a' _ de (by rw[e];exact oz));simp[execOp,ev.ev a n E,Instr.next,getObj,Sem.run,hb,hp,pF,Sem.run_bind]
theorem RJ {x s t dst ty ps af g}(E:Fr a n l)[ev:Ev l x (.string s)](hu:P.underlying t=some .string) :
   (execOp a.eval ⟨dst,.call ⟨.builtin .len,#[x],#[t]⟩,ty,ps,af,g⟩).run P w=.ok (.value (.int .i64 s.size)) w:=by
 simp[execOp,resolve,ev.ev a n E,invoke,builtin,Builtin.len_,eO hu,goInt]
theorem Aj {x y s k i j t dst ty ps af g}(E:Fr a n l)(hu:P.underlying t=some .string)[ev:Ev l x (.string s)][g3:Ev l y (.int k i)][nj:eo i j](h:j<s.size) :
   (execOp a.eval ⟨dst,.index t x y,ty,ps,af,g⟩).run P w=.ok (.value (.int .u8 (s[j]'h).toNat)) w:=by
 have:=nj.h;subst this;have h2:=run_index_string (P:=P) w t s k (j:Int) hu;have h3:0≤(j:Int)∧(j:Int)<s.size:=by omega
 rw[dif_pos h3]at h2;simp[execOp,ev.ev a n E,g3.ev a n E,h2]
theorem DB {x y s k i j t dst ty ps af g}(E:Fr a n l)(hu:P.underlying t=some .string)[ev:Ev l x (.string s)][g3:Ev l y (.int k i)][nj:eo i j](h:j≤s.size) :
   (execOp a.eval ⟨dst,.slice t x (some y) none none,ty,ps,af,g⟩).run P w=.ok (.value (.string (s.extract j s.size))) w:=by
 have:=nj.h;subst this;have h2:=run_slice_string_l (P:=P) w t s hu k (j:Int) (by omega) (by omega);simp only[c6]at h2;simp[execOp,ev.ev a n E,g3.ev a n E,run_sliceAt_string (P:=P) (w:=w) t _ _ _ _ hu,h2]
theorem IX {x y k i k' j jn t u dst ty ps af g}(E:Fr a n l)[e:Ev l x (.int k i)][f:Ev l y (.int k' j)][nj:eo j jn](h:jn≤k.bits) :
   (execOp a.eval ⟨dst,.binOp .shl t x y u,ty,ps,af,g⟩).run P w=.ok (.value (.int k (k.wrap (i*2 ^ jn)))) w:=by
 have:=nj.h;subst this;have h2:min jn k.bits=jn:=Nat.min_eq_left h;have h3:¬ ((jn:Int)<0):=by omega
 simp[execOp,e.ev a n E,f.ev a n E,eqGuard,binOp,Op.shift,h2,h3]
theorem RK {x y k i k' j jn t u dst ty ps af g}(E:Fr a n l)[e:Ev l x (.int k i)][f:Ev l y (.int k' j)][nj:eo j jn](h:jn≤k.bits) :
   (execOp a.eval ⟨dst,.binOp .shr t x y u,ty,ps,af,g⟩).run P w=.ok (.value (.int k (i.fdiv (2 ^ jn)))) w:=by
 have:=nj.h;subst this;have h2:min jn k.bits=jn:=Nat.min_eq_left h;have h3:¬ ((jn:Int)<0):=by omega
 simp[execOp,e.ev a n E,f.ev a n E,eqGuard,binOp,Op.shift,h2,h3]
theorem RL {x y k i j t u dst ty ps af g}(E:Fr a n l)[e:Ev l x (.int k i)][f:Ev l y (.int k j)] :
   (execOp a.eval ⟨dst,.binOp .or t x y u,ty,ps,af,g⟩).run P w=.ok (.value (.int k (k.wrap ((BitVec.ofInt k.bits i ||| BitVec.ofInt k.bits j).toNat)))) w:=by
 simp[execOp,e.ev a n E,f.ev a n E,eqGuard,binOp,Op.intBits]
theorem RM {x y k i j t u dst ty ps af g}(E:Fr a n l)[e:Ev l x (.int k i)][f:Ev l y (.int k j)] :
   (execOp a.eval ⟨dst,.binOp .and t x y u,ty,ps,af,g⟩).run P w=.ok (.value (.int k (k.wrap ((BitVec.ofInt k.bits i &&& BitVec.ofInt k.bits j).toNat)))) w:=by
 simp[execOp,e.ev a n E,f.ev a n E,eqGuard,binOp,Op.intBits]
theorem RO {x y k i j t u dst ty ps af g}(E:Fr a n l)[e:Ev l x (.int k i)][f:Ev l y (.int k j)] :
   (execOp a.eval ⟨dst,.binOp .xor t x y u,ty,ps,af,g⟩).run P w=.ok (.value (.int k (k.wrap ((BitVec.ofInt k.bits i ^^^ BitVec.ofInt k.bits j).toNat)))) w:=by
 simp[execOp,e.ev a n E,f.ev a n E,eqGuard,binOp,Op.intBits]
theorem RP {x k i t dst ty ps af g}(E:Fr a n l)[e:Ev l x (.int k i)] :
   (execOp a.eval ⟨dst,.unOp .xor t x,ty,ps,af,g⟩).run P w=.ok (.value (.int k (k.wrap ((BitVec.ofInt k.bits (if k.signed then -1 else k.max) ^^^ BitVec.ofInt k.bits i).toNat)))) w:=by
 simp[execOp,e.ev a n E,Op.unary,Op.intBits]
theorem RQ {x k i t dst ty ps af g}(E:Fr a n l)[e:Ev l x (.int k i)] :
   (execOp a.eval ⟨dst,.unOp .neg t x,ty,ps,af,g⟩).run P w=.ok (.value (.int k (k.wrap (0-i)))) w:=by
 simp[execOp,e.ev a n E,Op.unary,Op.intArith]
theorem IY {x y k i j t u dst ty ps af g}(E:Fr a n l)(h:j≠0)[e:Ev l x (.int k i)][f:Ev l y (.int k j)] :
   (execOp a.eval ⟨dst,.binOp .quo t x y u,ty,ps,af,g⟩).run P w=.ok (.value (.int k (k.wrap (i.tdiv j)))) w:=by
 simp[execOp,e.ev a n E,f.ev a n E,eqGuard,binOp,Op.intDiv,h]
theorem RS {t t':TypeId} {ms}(ht:P.underlying t=some (.interface ms))(v:Value)(k:Nat):(Op.equalIn (k+1) t (.iface t' v) .nilIface).run P w=.ok false w:=by
 simp[Op.equalIn,eO ht]
theorem RU {x t v t' ms u dst ty ps af g}(E:Fr a n l)(ht:P.underlying t=some (.interface ms))[e:Ev l x (.iface t' v)] :
   (execOp a.eval ⟨dst,.binOp .eql t x (.const .nilIface) u,ty,ps,af,g⟩).run P w=.ok (.value (.bool false)) w:=by
 have hc:a.eval (.const .nilIface)=.nilIface:=rfl;have h2:(Op.equal t (.iface t' v) .nilIface).run P w=.ok false w:=RS ht v 9999;simp only[execOp,e.ev a n E,hc,Sem.run_bind];simp[eqGuard,binOp,h2]
theorem RV {x t eh dst ty ps af g}(E:Fr a n l)(ht:P.underlying t=some eh)(hd:(match eh with | .interface _=>false | _=>true)=true)[e:Ev l x v] :
   (execOp a.eval ⟨dst,.makeInterface t x,ty,ps,af,g⟩).run P w=.ok (.value (.iface t v)) w:=by
 cases eh <;> first | (simp at hd) | skip
 all_goals simp[execOp,e.ev a n E,Instr.makeInterface,eO ht]
def pG (P:Program)(t:TypeId)(name:String)(f:FuncId):Prop:=∀ (ad:Option Addr) (w:World),(method (P.types.size+Made.depth) t (.pointer ad) name).run P w=.ok (f,.pointer ad) w
theorem jN {x t ad name f args pH ty ps af g vs all}{X:Ending→World→Prop}(E:Fr a n l)(hw:Region.wanted ⟨some d,.call ⟨.invoke x name,List.toArray args,pH⟩,ty,ps,af,g⟩ (yielded ops a.tmps)=true)
   [ex:Ev l x (.iface t (.pointer ad))] (hm:pG P t name f) (hb:hQ P f=true) (hf:okB d n l=true) [ev:nP l args vs] (hc:Calls P f (List.toArray all) w X) (ig:.pointer ad::vs=all)
   (h:∀ e w',X e w'→∃ v,e=.returned v∧∀ a',Fr a' n ((d,v)::l)→K a' w') :
   cJ P ops Q ⟨some d,.call ⟨.invoke x name,List.toArray args,pH⟩,ty,ps,af,g⟩ K a w:=by
 subst ig;refine Il hw ?_ hc λe w' hx=>let ⟨v,he,hv⟩:=h e w' hx;⟨v,he,hv _ (E.put hf v)⟩;have h3:=hm ad w;simp[execOp,resolve,ex.ev a n E,invoke,callMethod,ev.ev a n E,h3,Ab hb,program,Sem.run]
end
end
section
section
variable {P:Program}{a:Act}{w:World}{n:Nat}{l:List (Nat×Value)}{v:Value}
theorem IZ {x vs t f fs iW eh dst ty ps af g}(E:Fr a n l)(hu:P.underlying t=some (.struct fs))(hf:fs[f]?=some iW)(hd:P.underlying iW.type=some eh)(h1:ov eh=true)
   [ev:Ev l x (.agg (List.toArray vs))] (hv:vs[iW.offset]?=some v) :
   (execOp a.eval ⟨dst,.field t x f,ty,ps,af,g⟩).run P w=.ok (.value v) w:=by
 have xY:(part iW.type vs.toArray iW.offset).run P w=.ok v w:=by
  have Du:(isAgg iW.type).run P w=.ok false w:=by
   simp only[isAgg,Sem.run_bind,eO hd,Result.andThen_ok];cases eh <;> first | rfl | (simp[ov]at h1)
  simp[part,Du,hv]
 simp[execOp,ev.ev a n E,Instr.field,eO hu,hf,asAgg,xY]
end
end
section
section
variable {P:Program}{a:Act}{w W:World}{n:Nat}{l:List (Nat×Value)}{L R:List SP}
theorem DD {x u z3 k' xU i' xV j' nV ad m c t el z sz a1 dst ty ps af g}(E:Fr a n l)(ht:P.underlying t=some (.slice el))(hi:TI P el z sz a1)[ev:Ev l x (.slice ad m c)][uo:Ev l u (.int k' i')][Dh:Ev l z3 (.int xU xV)]
   [xS:eo i' j'] [Di:eo xV nV] (h':j'≤nV) (Re:nV≤c) :
   (execOp a.eval ⟨dst,.slice t x none (some u) (some z3),ty,ps,af,g⟩).run P w=.ok (.value (.slice (ft ad 0 nV sz) j' nV)) w:=by
 have lG:=xS.h;subst lG;have Dk:=Di.h;subst Dk;have e1:=(qy ht).1;have e2:=(qy ht).2;have:=run_slice_hm (P:=P) (w:=w) t ad m c e1 k' xU (j':Int) (nV:Int) (by omega) (by omega) (by omega);rw[e2,mz hi]at this;simp only[Result.andThen_ok,c6]at this;simp[execOp,ev.ev a n E,uo.ev a n E,Dh.ev a n E,run_sliceAt_slice (P:=P) (w:=w) t _ _ _ _ e1,this,sliced,ft]
theorem U.I0 {e sz k c:Nat}{cs:List Value}(I:U W w L)(ad:Option Addr)(m:Nat)[pk:fQ L ad k c e sz cs R](hm:m≤k):U W w (Sl e sz (ft ad 0 m sz) m m (cs.take (m*sz))::R):=by
 have h1:=I.perm pk.perm;rcases lH m with h0 | h0
 ·subst h0;simpa using h1.tail.bN e sz (ft ad 0 0 sz)
 ·have hc:=(I.sl ad);obtain⟨b,pre,post,⟨g1,iJ,m8,m9⟩,h2⟩:=h1.l4 (by omega);subst m8;rw[pB (by omega),Nat.zero_mul,Nat.add_zero];have mE:m*sz≤cs.length:=by rw[g1];exact ox _ hm
  rw[show pre++cs++post=pre++cs.take (m*sz)++(cs.drop (m*sz)++post) from by
   conv=>lhs;rw[← jY (m*sz) cs]
   simp only[dx]]at h2
  exact U.iX h2 (by rw[et];omega) (bf _) (by simp)
end
end
section
section
variable {P:Program}{ops:Array Oper}{Q:Exit→Act→World→Prop}{a:Act}{w w' W:World}{K:Act→World→Prop}{n d:Nat}{l:List (Nat×Value)}{L:List SP}
theorem rz {t el z sz a1 x y k k' i j ty ps af g}(E:Fr a n l)(hw:Region.wanted ⟨some d,.makeSlice t x y,ty,ps,af,g⟩ (yielded ops a.tmps)=true)(I:U W w L)(ht:P.underlying t=some (.slice el))
   (hi:TI P el z sz a1) (hf:okB d n l=true) (hb:a1*j≤281474976710656) (hj:j≤9223372036854775807) [e:Ev l x (.int k i)] [e2:Ev l y (.int k' i)] [nj:eo i j]
   (h:∀ b a' w',Fr a' n ((d,.slice (some ⟨b,0,none⟩) j j)::l)→U W w' (aa b el (madeCells z.cells (j*sz)).toList::L)→Old w w'→K a' w') :
   cJ P ops Q ⟨some d,.makeSlice t x y,ty,ps,af,g⟩ K a w:=by
 have RW:=nj.h;subst RW;obtain⟨I1,lF,dL,kX,qw⟩:=info_parts hi.h;have RX:(I1.bytes:Int)*(j:Int)≤281474976710656:=by
  rw[qw];have:((a1*j:Nat):Int)≤281474976710656:=by omega
  rwa [Int.natCast_mul]at this
 have hr:=run_make (P:=P) w t el I1 z ht lF dL k k' (j:Int) (j:Int) (by omega) (Int.le_refl _) RX (by omega);rw[c6,kX]at hr;refine bm (v:=.slice (some ⟨w.heap.size,0,none⟩) j j) (w':=w.alloc (.cells (madeCells z.cells (j*sz)) el)) E hw ?_ hf (λa' de=>h _ _ _ de (by
  have:=I.alloc (.cells (madeCells z.cells (j*sz)) el);simpa [aa] using this) (Old.alloc _ _))
 simp[execOp,e.ev a n E,e2.ev a n E,hr]
end
end
section
class uz (os:List Oper)(j:Nat)(s:outParam Nat):Prop where h:(os[j]?).bind (·.dst)=some s
instance uz.zero {s op ty ps af g r}:uz (⟨some s,op,ty,ps,af,g⟩::r) 0 s:=⟨rfl⟩
instance uz.succ {o r j s}[h:uz r j s]:uz (o::r) (j+1) s:=⟨by rw[getElem?_cons_succ];exact h.h⟩
class oH (os:List Oper)(j:Nat)(o:outParam Oper):Prop where h:os[j]?=some o
instance oH.zero {o r}:oH (o::r) 0 o:=⟨rfl⟩
instance oH.succ {x r j o}[h:oH r j o]:oH (x::r) (j+1) o:=⟨by rw[getElem?_cons_succ];exact h.h⟩
class GB (v:Value)(b:Bool)(r:outParam Bool):Prop where h:((match v with | .bool c=>Option.some c | _=>none)==Option.some b)=r
instance GB.aeA:GB (.bool true) true true:=⟨rfl⟩
instance GB.aeB:GB (.bool true) false false:=⟨rfl⟩
instance GB.aeC:GB (.bool false) true false:=⟨rfl⟩
instance GB.aeD:GB (.bool false) false true:=⟨rfl⟩
instance GB.u {b}:GB undef b false:=⟨rfl⟩
class Gd (os:List Oper)(l:List (Nat×Value))(g:Option (Nat×Bool))(r:outParam Bool):Prop where
 h:∀ {a n},Fr a n l→∀ {dst op ty ps af},Region.wanted ⟨dst,op,ty,ps,af,g⟩ (yielded os.toArray a.tmps)=r
instance Gd.none {os l}:Gd os l none true:=⟨λ_=>rfl⟩
instance Gd.some {os l j b s v r}[d:uz os j s][k:fp l s v][x:GB v b r]:Gd os l (some (j,b)) r:=⟨λ{a n} E dst op ty ps af=>by
 have h1:=E.has _ k.mem;have h2:(os.toArray[j]?).bind (·.dst)=Option.some s:=by rw[getElem?_toArray];exact d.h
 rw[← x.h];simp only[Region.wanted,yielded,h2,Option.bind_some,h1];cases v <;> rfl⟩
class rA (p q:Prop)(r:outParam Prop):Prop where h:r→p∧q
instance rA.l {q}:rA True q q:=⟨λh=>⟨trivial,h⟩⟩
instance rA.r {p}:rA p True p:=⟨λh=>⟨h,trivial⟩⟩
instance (priority:=low) rA.b {p q}:rA p q (p∧q):=⟨id⟩
class sU (cs:List Value)(i:Nat)(v:outParam Value):Prop where h:cs[i]?=some v
instance sU.zero {v cs}:sU (v::cs) 0 v:=⟨rfl⟩
instance sU.succ {c cs i v}[h:sU cs i v]:sU (c::cs) (i+1) v:=⟨by rw[getElem?_cons_succ];exact h.h⟩
instance sU.apZ {v xs ys}:sU ((v::xs)++ys) 0 v:=⟨rfl⟩
class na (o j sz:Nat)(r:outParam Nat):Prop where h:o+j*sz=r
instance (priority:=10) na.any {o j sz}:na o j sz (o+j*sz):=⟨rfl⟩
instance (priority:=20) na.one {o j}:na o j 1 (o+j):=⟨by rw[fU]⟩
instance (priority:=25) na.at0 {o sz}:na o 0 sz (o+0):=⟨by rw[Nat.zero_mul]⟩
instance (priority:=50) na.aeE {sz}:na 0 0 sz 0:=⟨by rw[Nat.zero_mul]⟩
instance (priority:=30) na.zero {j sz}:na 0 j sz (j*sz):=⟨eE _⟩
instance (priority:=40) na.both {j}:na 0 j 1 j:=⟨by omega⟩
class aJ (P:Program)(t:TypeId)(d:outParam TypeDesc):Prop where h:P.underlying t=some d
theorem aJ.of {P:Program}{t:TypeId}{d:TypeDesc}(h:P.underlying t=some d):aJ P t d:=⟨h⟩
class nc (d:TypeDesc)(r:outParam Bool):Prop where h:ov d=r
instance Ex.aeF {P:Program} {l x v1 v2 v3} [Ev l x (.tuple #[v1,v2,v3])]:Ex P l (.extract x 0) v1:=⟨λ_ _ E _ _ _ _ _ _=>oB E rfl⟩
instance Ex.aeG {P:Program} {l x v1 v2 v3} [Ev l x (.tuple #[v1,v2,v3])]:Ex P l (.extract x 1) v2:=⟨λ_ _ E _ _ _ _ _ _=>oB E rfl⟩
instance Ex.aeH {P:Program} {l x v1 v2 v3} [Ev l x (.tuple #[v1,v2,v3])]:Ex P l (.extract x 2) v3:=⟨λ_ _ E _ _ _ _ _ _=>oB E rfl⟩
instance:nc .bool true:=⟨rfl⟩
instance:nc .string true:=⟨rfl⟩
instance {k}:nc (.int k) true:=⟨rfl⟩
instance {t}:nc (.pointer t) true:=⟨rfl⟩
instance {t}:nc (.slice t) true:=⟨rfl⟩
instance {t u}:nc (.map t u) true:=⟨rfl⟩
instance {p r b}:nc (.func p r b) true:=⟨rfl⟩
instance {m}:nc (.interface m) true:=⟨rfl⟩
instance {f}:nc (.struct f) false:=⟨rfl⟩
instance {m t}:nc (.array m t) false:=⟨rfl⟩
class DE (d:TypeDesc):Prop where h:(match d with | .interface _=>false | _=>true)=true
instance {t}:DE (.pointer t):=⟨rfl⟩
instance {f}:DE (.struct f):=⟨rfl⟩
class I2 (m:Nat)(k:outParam Nat):Prop where h:m=k+1
instance {k}:I2 (k+1) k:=⟨rfl⟩
class v8 (fs:List Field)(f:Nat)(t k:outParam Nat):Prop where h:∃ iW,fs[f]?=some iW∧iW.type=t∧iW.offset=k
instance v8.zero {RY t k e RZ pp k0 r}:v8 (⟨RY,t,k,e,RZ,pp,k0⟩::r) 0 t k:=⟨_,rfl,rfl,rfl⟩
instance v8.succ {x r f t k}[h:v8 r f t k]:v8 (x::r) (f+1) t k:=⟨by rw[getElem?_cons_succ];exact h.h⟩
section
variable {P:Program}{t u el k sz a1 f:Nat}{d:TypeDesc}{z:Value}{fs:List Field}
instance [h:aJ P t (.pointer el)]:xW P t:=⟨_,h.h⟩
instance [h:aJ P t (.slice el)]:Dp P t:=⟨_,h.h⟩
instance [h:aJ P t d][g:nc d true]:Dq P t:=⟨_,h.h,g.h⟩
instance {m:Nat}[h:aJ P t (.struct fs.toArray)][g:v8 fs f u k][hi:TI P u z m a1][q:I2 m sz]:Dr P t f k:=by
 obtain⟨iW,h1,h2,h3⟩:=g.h;rw[q.h]at hi;exact⟨_,iW,z,sz,a1,h.h,by rw[getElem?_toArray];exact h1,by rw[h2];exact hi,h3⟩
end
def Lk (L:List SP)(w:World):Prop:=∃ W w0,U W w0 L∧Old w0 w
theorem Lk.of {W w:World}{L:List SP}(I:U W w L):Lk L w:=⟨W,w,I,Old.refl _⟩
theorem Lk.nil (w:World):Lk [] w:=⟨w,w,U.start _,Old.refl _⟩
theorem Lk.bz {w:World}{L R:List SP}{b e off:Nat}{cs:List Value}{v:Value}(h:Lk L w)[k:fI L b e cs R](hv:cs[off]?=some v):w.cell? ⟨b,off,none⟩=some v:=by
 obtain⟨W,w0,I,ho⟩:=h;exact ho.cell (I.bz hv)
theorem Lk.qq {w:World}{L R:List SP}{b e off:Nat}{cs:List Value}(h:Lk L w)[k:fI L b e cs R](m:Nat){vs:List Value}[sc:my cs off m vs]:Rd w b off vs:=by
 obtain⟨W,w0,I,ho⟩:=h;exact ho.rd (I.qq m)
instance my.whole {cs m}[h:mC cs m]:my cs 0 m cs:=⟨by rw[drop_zero,← h.h,k4]⟩
class uA (ad:Option Addr)(r:outParam Bool):Prop where h:ad.isNone=r
instance uA.n:uA none true:=⟨rfl⟩
instance uA.s {a}:uA (some a) false:=⟨rfl⟩
instance (priority:=low) uA.any {ad}:uA ad ad.isNone:=⟨rfl⟩
theorem I3 {P:Program}{a:Act}{w:World}{n:Nat}{l:List (Nat×Value)}{fn:Func} {t u x v v2 v3}{X:Ending→World→Prop}(E:Fr a n l)(hr:fn.results=#[.tmp t,.tmp u,.tmp x])[k:fp l t v][k2:fp l u v2][k3:fp l x v3](h:X (.returned (.tuple #[v,v2,v3])) w):bodyPost P fn X .ret a w:=by
 refine bodyPost_ret ?_ E.defers h;have h1:=E.has _ k.mem;have h2:=E.has _ k2.mem;have h3:=E.has _ k3.mem;simp[results,hr,Array.getD_eq_getD_getElem?,h1,h2,h3]
theorem Fr.ei {a:Act}{n:Nat}{l l':List (Nat×Value)}(E:Fr a n l)(s:Nat){b:Bool}[k:fp l s (.bool b)][e:gZ l s l'](h:b=true:=by first | rfl | decide):Fr a n ((s,.bool true)::l') :=
 E.bool (s:=s) (λ_ h=>h) (λe _=>by rw[h]at e;cases e)
theorem Fr.aM {a:Act}{n:Nat}{l l':List (Nat×Value)}(E:Fr a n l)(s:Nat){b:Bool}[k:fp l s (.bool b)][e:gZ l s l'](h:b=false:=by first | rfl | decide):Fr a n ((s,.bool false)::l') :=
 E.bool (s:=s) (λe _=>by rw[h]at e;cases e) (λ_ h=>h)
class Sx (P:Program)(L:List SP)(l:List (Nat×Value))(op:Go.Op)(c:outParam Prop)(v:outParam Value):Prop where
 ex:c→∀ {a n w},Fr a n l→Lk L w→∀ {dst ty ps af g},(execOp a.eval ⟨dst,op,ty,ps,af,g⟩).run P w=.ok (.value v) w
section
variable {P:Program}{L R:List SP}{l:List (Nat×Value)}{x y z:Operand}{v u zv:Value}{k k':IntKind}{i j i':Int}{m m' rB c:Nat}{t t' el sz a1 b off r:Nat}{ad:Option Addr}{s:ByteArray}{p q:Bool}{vs ws zs:List Value}
instance (priority:=high) Sx.of {op}[h:Ex P l op v]:Sx P L l op True v:=⟨λ_ _ _ _ E _ _ _ _ _ _=>h.ex _ _ E _ _ _ _ _ _⟩
instance Sx.aeI [Ev l x (.bool true)] [Ev l y v]:Sx P L l (.pick x y z) True v:=⟨λ_ _ _ _ E _ _ _ _ _ _=>P8 E⟩
instance Sx.aeJ [Ev l x (.bool false)] [Ev l z v]:Sx P L l (.pick x y z) True v:=⟨λ_ _ _ _ E _ _ _ _ _ _=>P9 E⟩
instance Sx.load {e cs} [Ev l x (.pointer (some ⟨b,off,none⟩))][u:Dq P t] [fI L b e cs R][n:sU cs off v]:Sx P L l (.load t x) True v :=
 ⟨λ_ _ _ _ E I _ _ _ _ _=>by obtain⟨eh,h1,h2⟩:=u.h;exact Ih E h1 h2 (I.bz n.h)⟩
instance Sx.aeK {e cs d} [Ev l x (.pointer (some ⟨b,off,none⟩))][u:aJ P t d][g:nc d false][hi:TI P t zv m a1] [fI L b e cs R] [my cs off m vs][k:mC vs m]:Sx P L l (.load t x) True (.agg vs.toArray) :=
 ⟨λ_ _ _ _ E I _ _ _ _ _=>bT E u.h g.h (by rw[k.h];exact hi) (I.qq m)⟩
instance Sx.add [Ev l x (.int .i64 i)] [Ev l y (.int .i64 j)]:Sx P L l (.binOp .add t x y t') (-9223372036854775808≤i+j∧i+j≤9223372036854775807) (.int .i64 (i+j)) :=
 ⟨λh _ _ _ E _ _ _ _ _ _=>Qb E h.1 h.2⟩
instance Sx.sub [Ev l x (.int .i64 i)] [Ev l y (.int .i64 j)]:Sx P L l (.binOp .sub t x y t') (-9223372036854775808≤i-j∧i-j≤9223372036854775807) (.int .i64 (i-j)) :=
 ⟨λh _ _ _ E _ _ _ _ _ _=>Qc E h.1 h.2⟩
instance Sx.mul [Ev l x (.int .i64 i)] [Ev l y (.int .i64 j)]:Sx P L l (.binOp .mul t x y t') (-9223372036854775808≤i*j∧i*j≤9223372036854775807) (.int .i64 (i*j)) :=
 ⟨λh _ _ _ E _ _ _ _ _ _=>Qd E h.1 h.2⟩
instance (priority:=low) Sx.aeL [Ev l x (.int k i)] [Ev l y (.int k j)]:Sx P L l (.binOp .add t x y t') (True) (.int k (k.wrap (i+j))):=⟨λ_ _ _ _ E _ _ _ _ _ _=>Ie E⟩
instance (priority:=low) Sx.aeM [Ev l x (.int k i)] [Ev l y (.int k j)]:Sx P L l (.binOp .sub t x y t') (True) (.int k (k.wrap (i-j))):=⟨λ_ _ _ _ E _ _ _ _ _ _=>z8 E⟩
instance (priority:=low) Sx.aeN [Ev l x (.int k i)] [Ev l y (.int k j)]:Sx P L l (.binOp .mul t x y t') (True) (.int k (k.wrap (i*j))):=⟨λ_ _ _ _ E _ _ _ _ _ _=>Ig E⟩
instance Sx.rem [Ev l x (.int k i)] [Ev l y (.int k j)]:Sx P L l (.binOp .rem t x y t') (j≠0) (.int k (i.tmod j)):=⟨λg _ _ _ E _ _ _ _ _ _=>Ag E g⟩
instance Sx.or [Ev l x (.int k i)] [Ev l y (.int k j)]:Sx P L l (.binOp .or t x y t') (True) (.int k (k.wrap ((BitVec.ofInt k.bits i ||| BitVec.ofInt k.bits j).toNat))):=⟨λ_ _ _ _ E _ _ _ _ _ _=>RL E⟩
instance Sx.and [Ev l x (.int k i)] [Ev l y (.int k j)]:Sx P L l (.binOp .and t x y t') (True) (.int k (k.wrap ((BitVec.ofInt k.bits i &&& BitVec.ofInt k.bits j).toNat))):=⟨λ_ _ _ _ E _ _ _ _ _ _=>RM E⟩
instance (priority:=low) Sx.xor [Ev l x (.int k i)] [Ev l y (.int k j)]:Sx P L l (.binOp .xor t x y t') (True) (.int k (k.wrap ((BitVec.ofInt k.bits i ^^^ BitVec.ofInt k.bits j).toNat))):=⟨λ_ _ _ _ E _ _ _ _ _ _=>RO E⟩
instance Sx.aeO {i j:UInt8} [Ev l x (.int .u8 (i.toNat:Int))] [Ev l y (.int .u8 (j.toNat:Int))]:Sx P L l (.binOp .xor t x y t') True (.int .u8 ((i ^^^ j).toNat:Int)):=⟨λ_ _ _ _ E _ _ _ _ _ _=>Rj E⟩
instance Sx.min {uw} [Ev l x (.int k i)] [Ev l y (.int k j)]:Sx P L l (.call ⟨.builtin .min,#[x,y],uw⟩) (True) (.int k (min i j)):=⟨λ_ _ _ _ E _ _ _ _ _ _=>Ra E⟩
instance Sx.max {uw} [Ev l x (.int k i)] [Ev l y (.int k j)]:Sx P L l (.call ⟨.builtin .max,#[x,y],uw⟩) (True) (.int k (max i j)):=⟨λ_ _ _ _ E _ _ _ _ _ _=>Rb E⟩
instance Sx.shl [Ev l x (.int k i)] [Ev l y (.int k' j)] [eo j m]:Sx P L l (.binOp .shl t x y t') (m≤k.bits) (.int k (k.wrap (i*2 ^ m))):=⟨λg _ _ _ E _ _ _ _ _ _=>IX E g⟩
instance Sx.shr [Ev l x (.int k i)] [Ev l y (.int k' j)] [eo j m]:Sx P L l (.binOp .shr t x y t') (m≤k.bits) (.int k (i.fdiv (2 ^ m))):=⟨λg _ _ _ E _ _ _ _ _ _=>RK E g⟩
instance Sx.com [Ev l x (.int k i)]:Sx P L l (.unOp .xor t x) True (.int k (k.wrap ((BitVec.ofInt k.bits (if k.signed then -1 else k.max) ^^^ BitVec.ofInt k.bits i).toNat))):=⟨λ_ _ _ _ E _ _ _ _ _ _=>RP E⟩
instance Sx.neg [Ev l x (.int k i)]:Sx P L l (.unOp .neg t x) True (.int k (k.wrap (0-i))):=⟨λ_ _ _ _ E _ _ _ _ _ _=>RQ E⟩
instance Sx.aeP [h:aJ P t (.slice el)] [Ev l x (.slice ad m c)][q:uA ad p]:Sx P L l (.binOp .eql t x (.const (.slice none 0 0)) t') True (.bool p):=⟨λ_ _ _ _ E _ _ _ _ _ _=>by rw[← q.h];exact Rf E h.h⟩
instance Sx.aeQ [h:aJ P t .string] [Ev l x (.string s)]:Sx P L l (.call ⟨.builtin .len,#[x],#[t]⟩) (True) (.int .i64 s.size):=⟨λ_ _ _ _ E _ _ _ _ _ _=>RJ E h.h⟩
instance Sx.aeR [h:aJ P t .bool] [Ev l x (.bool p)] [Ev l y (.bool q)]:Sx P L l (.binOp .eql t x y t') (True) (.bool (p==q)):=⟨λ_ _ _ _ E _ _ _ _ _ _=>Q8 E h.h⟩
instance Sx.aeS [h:aJ P t .bool] [Ev l x (.bool p)] [Ev l y (.bool q)]:Sx P L l (.binOp .neq t x y t') (True) (.bool (p != q)):=⟨λ_ _ _ _ E _ _ _ _ _ _=>Q9 E h.h⟩
instance Sx.aeT {fn xs ys} [nP l xs vs] [nP l ys ws]:Sx P L l (.makeFunc fn xs.toArray ys.toArray) (True) (.func fn vs.toArray ws.toArray):=⟨λ_ _ _ _ E _ _ _ _ _ _=>Qt E⟩
instance Sx.aeU {d}[h:aJ P t d][g:DE d] [Ev l x v]:Sx P L l (.makeInterface t x) (True) (.iface t v):=⟨λ_ _ _ _ E _ _ _ _ _ _=>RV E h.h (by have:=g.h;cases d <;> first | rfl | (simp at this))⟩
instance Sx.aeV {ms}[h:aJ P t (.interface ms)] [Ev l x (.iface m v)]:Sx P L l (.binOp .eql t x (.const .nilIface) t') (True) (.bool false):=⟨λ_ _ _ _ E _ _ _ _ _ _=>RU E h.h⟩
instance Sx.index [h:aJ P t (.slice el)][hi:TI P el zv sz a1] [Ev l x (.slice (some ⟨b,off,none⟩) m c)] [Ev l y (.int k i)] [eo i m'][q:na off m' sz r]:Sx P L l (.indexAddr t x y) (m'<m) (.pointer (some ⟨b,r,none⟩)):=⟨λg _ _ _ E _ _ _ _ _ _=>by rw[← q.h];exact Ik E h.h hi g⟩
instance Sx.aeW [h:aJ P t (.array m el)][hi:TI P el zv sz a1] [Ev l x (.pointer (some ⟨b,off,none⟩))] [Ev l y (.int k i)] [eo i m'][q:na off m' sz r]:Sx P L l (.indexAddr t x y) (m'<m) (.pointer (some ⟨b,r,none⟩)):=⟨λg _ _ _ E _ _ _ _ _ _=>by rw[← q.h];exact Qr E h.h hi g⟩
instance Sx.aeX [h:aJ P t (.slice el)][hi:TI P el zv sz a1] [Ev l x (.slice ad m c)] [Ev l y (.int k i)] [eo i m']:Sx P L l (.slice t x (some y) none none) (m'≤m) (.slice (ft ad m' c sz) (m-m') (c-m')):=⟨λg _ _ _ E _ _ _ _ _ _=>QG E h.h hi g⟩
instance Sx.aeY [h:aJ P t (.slice el)][hi:TI P el zv sz a1] [Ev l x (.slice ad m c)] [Ev l y (.int k i)] [eo i m']:Sx P L l (.slice t x none (some y) none) (m'≤c) (.slice (ft ad 0 c sz) (m'-0) (c-0)):=⟨λg _ _ _ E _ _ _ _ _ _=>QI E h.h hi g⟩
instance Sx.aeZ [h:aJ P t (.slice el)][hi:TI P el zv sz a1] [Ev l x (.slice ad m c)] [Ev l y (.int k i)] [eo i m'] [Ev l z (.int k' i')] [eo i' rB]:Sx P L l (.slice t x (some y) (some z) none) (m'≤rB∧rB≤c) (.slice (ft ad m' c sz) (rB-m') (c-m')):=⟨λg _ _ _ E _ _ _ _ _ _=>QJ E h.h hi g.1 g.2⟩
instance Sx.ae0 [h:aJ P t (.slice el)][hi:TI P el zv sz a1] [Ev l x (.slice ad m c)] [Ev l y (.int k i)] [eo i m'] [Ev l z (.int k' i')] [eo i' rB]:Sx P L l (.slice t x none (some y) (some z)) (m'≤rB∧rB≤c) (.slice (ft ad 0 rB sz) m' rB):=⟨λg _ _ _ E _ _ _ _ _ _=>DD E h.h hi g.1 g.2⟩
instance Sx.ae1 [h:aJ P t (.array m el)][hi:TI P el zv sz a1] [Ev l x (.pointer (some ⟨b,off,none⟩))]:Sx P L l (.slice t x none none none) (True) (.slice (some ⟨b,off,none⟩) m m):=⟨λ_ _ _ _ E _ _ _ _ _ _=>RC E h.h hi⟩
instance Sx.conv [h:aJ P t (.int k)][q:aJ P t' (.int k')] [Ev l x (.int k i)]:Sx P L l (.convert t t' x) (k'.wrap i=i) (.int k' i):=⟨λg _ _ _ E _ _ _ _ _ _=>pE E h.h q.h g⟩
instance Sx.build {kD parts}[hb:ek P t kD][hi:TI P t zv sz a1] [Cells zv zs] [uv kD zs l parts vs]:Sx P L l (.build t (List.toArray parts)) ((kD.all λp=>Nat.ble (p.1+p.2) zs.length)=true) (.agg vs.toArray):=⟨λg _ _ _ E _ _ _ _ _ _=>IN E hb hi g⟩
end
def Hd (C:World→Prop)(L:List SP):Prop:=∀ w',C w'→Lk L w'
theorem Hd.any (C:World→Prop):Hd C []:=λw' _=>Lk.nil w'
theorem Hd.gD {W w:World}{L:List SP}(I:U W w L):Hd (Old w) L:=λ_ h=>⟨W,w,I,h⟩
def CN (b:Bool)(C:World→Prop)(K:Act→World→Prop):Act→World→Prop:=λa w=>(b=true→C w)∧K a w
def sV (X:Ending→World→Prop)(v:Value):Act→World→Prop:=λ_ w=>X (.returned v) w
def rC (P:Program)(rs:List ResultVar)(X:Ending→World→Prop):Exit→Act→World→Prop:=λe a w=>∀ fn:Func,fn.results=rs.toArray→bodyPost P fn X e a w
class nd (Q:Exit→Act→World→Prop):Prop where h:lI Q
instance {K Q}[h:nd Q]:nd (Exit.then K Q):=⟨QN h.h⟩
instance {i Q}[h:nd Q]:nd (Exit.inBlock i Q):=⟨QO h.h⟩
instance {P rs X}:nd (rC P rs X):=⟨λc a o v w h fn hr=>QQ c a o v w (h fn hr)⟩
class Ak (P:Program):Prop where h:P.follows .mixedOrders=true
class Rn (k n:Nat)(C:World→Prop)(L0 L:List SP)(l:List (Nat×Value))(X:Act→World→Prop)(b:outParam Bool)(c:outParam Prop)(l':outParam (List (Nat×Value)))(Y:outParam (Act→World→Prop)):Prop where
 rn:b=true→c→∀ {a W w},Fr a n l→U W w L→Hd C L0∧C w→(∀ a,Fr a n l'→Y a w)→X a w
class Way (v:Value)(x y:Code)(z:outParam Code):Prop where h:∃ b,v=.bool b∧z=if b then x else y
instance {x y}:Way (.bool true) x y x:=⟨true,rfl,rfl⟩
instance {x y}:Way (.bool false) x y y:=⟨false,rfl,rfl⟩
def DF (os:List Oper)(m i:Nat):Bool:=match Region.ready .any os.toArray (lb os.toArray.size m) with | [j]=>Nat.beq j i | _=>false
theorem R0 {os:List Oper}{m i:Nat}(h:DF os m i=true):Region.ready .any os.toArray (lb os.toArray.size m)=[i]:=by
 unfold DF at h;split at h
 ·rename_i j e;rw[e,Nat.eq_of_beq_eq_true h]
 ·cases h
def R4 (os:List Oper)(m:Nat):Bool:=(Region.ready .any os.toArray (lb os.toArray.size m)).isEmpty
section
variable {P:Program}{k n d i j m fuel:Nat}{C C2:World→Prop}{L0 L:List SP}{l l1 l':List (Nat×Value)}{X Y K:Act→World→Prop}{b b2:Bool}{c eu c2:Prop}{os rest:List Oper}{Q:Exit→Act→World→Prop}{op:Go.Op}{v:Value}{ty:TypeId}{ps:String}{af:Array Edge}{g:Option (Nat×Bool)}{x y z:Code}{o:Operand}{bh od:List Nat}
instance (priority:=1) Rn.stop:Rn 0 n C L0 L l X true True l X:=⟨λ_ _ _ _ _ E _ _ h=>h _ E⟩
instance Rn.oper [e:Gd os l g true][s:Sx P L l op eu v][q:gZ l d l1][r:Rn k n C L0 L ((d,v)::l1) K b2 c2 l' Y][p:rA eu c2 c] :
   Rn (k+1) n C L0 L l (cJ P os.toArray Q ⟨some d,op,ty,ps,af,g⟩ K) (okB d n l1&&b2) c l' Y:=⟨λhb hc a W w E I hx h=>by
 rw[fq]at hb;obtain⟨h1,h2⟩:=p.h hc;exact bm (E.del d) (e.h E) (s.ex h1 E (Lk.of I)) hb.1 λa E=>r.rn hb.2 h2 E I hx h⟩
instance Rn.off {jb}[e:Gd os l (some jb) false][q:gZ l d l1][r:Rn k n C L0 L ((d,undef)::l1) K b2 c l' Y] :
   Rn (k+1) n C L0 L l (cJ P os.toArray Q ⟨some d,op,ty,ps,af,some jb⟩ K) (okB d n l1&&b2) c l' Y:=⟨λhb hc a W w E I hx h=>by
 rw[fq]at hb;exact P4 (E.del d) (e.h E) hb.1 λa E=>r.rn hb.2 hc E I hx h⟩
instance Rn.cons {ops}{o:Oper}[r:Rn k n C L0 L l (cJ P ops Q o (wpList P ops Q rest)) b c l' Y]:Rn k n C L0 L l (wpList P ops Q (o::rest)) b c l' Y:=⟨λhb hc _ _ _ E I hx h=>(r.rn hb hc E I hx h)⟩
instance Rn.nil {ops}[r:Rn k n C L0 L l (Q .normal) b c l' Y]:Rn k n C L0 L l (wpList P ops Q []) b c l' Y:=⟨λhb hc _ _ _ E I hx h=>Rk (r.rn hb hc E I hx h)⟩
instance Rn.seq [r:Rn k n C L0 L l (x.wp P (Exit.then (y.wp P Q) Q)) b c l' Y]:Rn (k+1) n C L0 L l ((Code.seq x y).wp P Q) b c l' Y:=⟨λhb hc _ _ _ E I hx h=>wp_seq (r.rn hb hc E I hx h)⟩
instance Rn.region {id}[r:Rn k n C L0 L l (wpList P os.toArray Q os) b c l' Y]:Rn k n C L0 L l ((Code.region id os.toArray false).wp P Q) b c l' Y:=⟨λhb hc _ _ _ E I hx h=>wp_region_lit (r.rn hb hc E I hx h)⟩
instance Rn.skip [r:Rn k n C L0 L l (Q .normal) b c l' Y]:Rn k n C L0 L l (Code.skip.wp P Q) b c l' Y:=⟨λhb hc _ _ _ E I hx h=>wp_skip (r.rn hb hc E I hx h)⟩
instance Rn.block [r:Rn k n C L0 L l (x.wp P (Exit.inBlock i Q)) b c l' Y]:Rn k n C L0 L l ((Code.block i x).wp P Q) b c l' Y:=⟨λhb hc _ _ _ E I hx h=>wp_block (r.rn hb hc E I hx h)⟩
instance Rn.exit [r:Rn k n C L0 L l (Q (.exit i)) b c l' Y]:Rn k n C L0 L l ((Code.exit i).wp P Q) b c l' Y:=⟨λhb hc _ _ _ E I hx h=>wp_exit (r.rn hb hc E I hx h)⟩
instance Rn.ret [r:Rn k n C L0 L l (Q .ret) b c l' Y]:Rn k n C L0 L l (Code.ret.wp P Q) b c l' Y:=⟨λhb hc _ _ _ E I hx h=>wp_ret (r.rn hb hc E I hx h)⟩
instance Rn.cond [e:Ev l o v][q:Way v x y z][r:Rn k n C L0 L l (z.wp P Q) b c l' Y]:Rn (k+1) n C L0 L l ((Code.cond o x y).wp P Q) b c l' Y:=⟨λhb hc _ _ _ E I hx h=>by
 obtain⟨t,rfl,rfl⟩:=q.h;exact wp_cond (e.ev _ _ E) (r.rn hb hc E I hx h)⟩
instance Rn.ae2 [r:Rn k n C L0 L l (K) b c l' Y]:Rn k n C L0 L l (Exit.then K Q .normal) b c l' Y:=⟨λhb hc _ _ _ E I hx h=>TN (r.rn hb hc E I hx h)⟩
instance Rn.ae3 [r:Rn k n C L0 L l (Q .ret) b c l' Y]:Rn k n C L0 L l (Exit.then K Q .ret) b c l' Y:=⟨λhb hc _ _ _ E I hx h=>TR (r.rn hb hc E I hx h)⟩
instance Rn.ae4 [r:Rn k n C L0 L l (Q (.exit i)) b c l' Y]:Rn k n C L0 L l (Exit.then K Q (.exit i)) b c l' Y:=⟨λhb hc _ _ _ E I hx h=>TE (r.rn hb hc E I hx h)⟩
instance Rn.ae5 [r:Rn k n C L0 L l (Q .normal) b c l' Y]:Rn k n C L0 L l (Exit.inBlock i Q .normal) b c l' Y:=⟨λhb hc _ _ _ E I hx h=>Rl (r.rn hb hc E I hx h)⟩
instance Rn.ae6 [r:Rn k n C L0 L l (Q .ret) b c l' Y]:Rn k n C L0 L l (Exit.inBlock i Q .ret) b c l' Y:=⟨λhb hc _ _ _ E I hx h=>Rm (r.rn hb hc E I hx h)⟩
instance (priority:=high) Rn.ae7 [r:Rn k n C L0 L l (Q .normal) b c l' Y]:Rn k n C L0 L l (Exit.inBlock i Q (.exit i)) b c l' Y:=⟨λhb hc _ _ _ E I hx h=>Qy (r.rn hb hc E I hx h)⟩
instance Rn.ae8 [r:Rn k n C L0 L l (Q (.exit j)) b c l' Y]:Rn k n C L0 L l (Exit.inBlock i Q (.exit j)) (!Nat.beq j i&&b) c l' Y:=⟨λhb hc _ _ _ E I hx h=>by
 rw[fq,Bool.not_eq_true']at hb;exact Qz hb.1 (r.rn hb.2 hc E I hx h)⟩
variable {t u r3:Nat}{v2 v3 zv:Value}{vs cs:List Value}{R:Ending→World→Prop}{bb off e sz a1:Nat}{RR:List SP}{eh:TypeDesc}
instance Rn.Iq:Rn 0 n C L0 L l (rC P [] R .normal) true True l (sV R (.tuple #[])):=⟨λ_ _ _ _ _ E _ _ h _ hr=>Go.Proofs.YteoldcfapaiobaaGreat.Iq E hr (h _ E)⟩
instance Rn.Ip:Rn 0 n C L0 L l (rC P [] R .ret) true True l (sV R (.tuple #[])):=⟨λ_ _ _ _ _ E _ _ h _ hr=>Go.Proofs.YteoldcfapaiobaaGreat.Ip E hr (h _ E)⟩
instance Rn.Im [fp l t v]:Rn 0 n C L0 L l (rC P [.tmp t] R .ret) true True l (sV R v):=⟨λ_ _ _ _ _ E _ _ h _ hr=>Go.Proofs.YteoldcfapaiobaaGreat.Im E hr (h _ E)⟩
instance Rn.Io [fp l t v] [fp l u v2]:Rn 0 n C L0 L l (rC P [.tmp t,.tmp u] R .ret) true True l (sV R (.tuple #[v,v2])):=⟨λ_ _ _ _ _ E _ _ h _ hr=>Go.Proofs.YteoldcfapaiobaaGreat.Io E hr (h _ E)⟩
instance Rn.I3 [fp l t v] [fp l u v2] [fp l r3 v3]:Rn 0 n C L0 L l (rC P [.tmp t,.tmp u,.tmp r3] R .ret) true True l (sV R (.tuple #[v,v2,v3])):=⟨λ_ _ _ _ _ E _ _ h _ hr=>Go.Proofs.YteoldcfapaiobaaGreat.I3 E hr (h _ E)⟩
instance Rn.ae9 [fp l t (.pointer (some ⟨bb,off,none⟩))][q:aJ P u eh][p2:nc eh false][hi:TI P u zv sz a1] [fI L bb e cs RR] [my cs off sz vs][p:mC vs sz]:Rn 0 n C L0 L l (rC P [.cell t u] R .ret) true True l (sV R (.agg vs.toArray)):=⟨λ_ _ _ _ _ E I _ h _ hr =>
 Go.Proofs.YteoldcfapaiobaaGreat.Qv E hr (Db q.h p2.h (by rw[p.h];exact hi) (I.qq sz)) (h _ E)⟩
instance Rn.afa [fp l t (.pointer (some ⟨bb,off,none⟩))][q:aJ P u eh][p2:nc eh false][hi:TI P u zv sz a1] [fI L bb e cs RR] [my cs off sz vs][p:mC vs sz] [fp l r3 v2]:Rn 0 n C L0 L l (rC P [.cell t u,.tmp r3] R .ret) true True l (sV R (.tuple #[.agg vs.toArray,v2])):=⟨λ_ _ _ _ _ E I _ h _ hr =>
 Go.Proofs.YteoldcfapaiobaaGreat.Qw E hr (Db q.h p2.h (by rw[p.h];exact hi) (I.qq sz)) (h _ E)⟩
instance Rn.uB [r:Rn k n C L0 L l K b c l' Y]:Rn k n C L0 L l (CN b2 C K) b c l' Y:=⟨λhb hc _ _ _ E I hx h=>⟨λ_=>hx.2,r.rn hb hc E I hx h⟩⟩
instance (priority:=low) Rn.cnF [r:Rn k n C L0 L l K b c l' Y]:Rn k n C L0 L l (CN b2 C2 K) (!b2&&b) c l' Y:=⟨λhb hc _ _ _ E I hx h=>by
 rw[fq,Bool.not_eq_true']at hb;exact⟨λe=>(by rw[hb.1]at e;cases e),r.rn hb.2 hc E I hx h⟩⟩
instance Rn.one {o}[p:oH os i o][r:Rn k n C L0 L l (cJ P os.toArray Q o (CN (bh.contains i) C2 (gh P os.toArray Q C2 bh od fuel (mD m i)))) b c l' Y] :
   Rn k n C L0 L l (gh P os.toArray Q C2 bh ((i+1000)::od) (fuel+1) m) (DF os m i&&b) c l' Y:=⟨λhb hc a W w E I hx h=>by
 rw[fq]at hb;show gh P os.toArray Q C2 bh (i::od) (fuel+1) m a w;exact Rp (by rw[getElem?_toArray];exact p.h) (r.rn hb.2 hc E I hx h) (R0 hb.1)⟩
instance (priority:=low) Rn.pure [p:oH os i ⟨some d,op,ty,ps,af,g⟩][pk:nd Q][e:Gd os l g true][s:Sx P [] l op eu v][q:gZ l d l1][r:Rn k n C L0 L ((d,v)::l1) (gh P os.toArray Q C2 bh od fuel (mD m i)) b2 c2 l' Y][DG:rA eu c2 c] :
   Rn (k+1) n C L0 L l (gh P os.toArray Q C2 bh (i::od) (fuel+1) m) (m6 os.toArray (lb os.toArray.size m) bh true i&&!bh.contains i&&okB d n l1&&b2) c l' Y:=⟨λhb hc a W w E I hx h=>by
 simp only[fq,Bool.not_eq_true']at hb;obtain⟨h1,h2⟩:=DG.h hc;exact IJ (qC _ _ _) (by rw[getElem?_toArray];exact p.h) hb.1.1.1 hb.1.1.2 pk.h (E.del d) (e.h E) (λw=>s.ex h1 E (Lk.nil w)) hb.1.2 λa E=>r.rn hb.2 h2 E I hx h⟩
instance (priority:=low) Rn.afb {jb}[p:oH os i ⟨some d,op,ty,ps,af,some jb⟩][pk:nd Q][e:Gd os l (some jb) false][q:gZ l d l1][r:Rn k n C L0 L ((d,undef)::l1) (gh P os.toArray Q C2 bh od fuel (mD m i)) b2 c l' Y] :
   Rn (k+1) n C L0 L l (gh P os.toArray Q C2 bh (i::od) (fuel+1) m) (m6 os.toArray (lb os.toArray.size m) bh true i&&!bh.contains i&&okB d n l1&&b2) c l' Y:=⟨λhb hc a W w E I hx h=>by
 simp only[fq,Bool.not_eq_true']at hb;exact QX (qC _ _ _) (by rw[getElem?_toArray];exact p.h) hb.1.1.1 hb.1.1.2 pk.h (E.del d) (e.h E) hb.1.2 λa E=>r.rn hb.2 hc E I hx h⟩
instance (priority:=high) Rn.held [p:oH os i ⟨some d,op,ty,ps,af,g⟩][pk:nd Q][e:Gd os l g true][s:Sx P L0 l op eu v][q:gZ l d l1][r:Rn k n C L0 L ((d,v)::l1) (gh P os.toArray Q C bh od fuel (mD m i)) b2 c2 l' Y][DG:rA eu c2 c] :
   Rn (k+1) n C L0 L l (gh P os.toArray Q C bh ((i+3000)::od) (fuel+1) m) (m6 os.toArray (lb os.toArray.size m) bh false i&&okB d n l1&&b2) c l' Y:=⟨λhb hc a W w E I hx h=>by
 simp only[fq]at hb;obtain⟨h1,h2⟩:=DG.h hc;exact IK (qC _ _ _) (by rw[getElem?_toArray];exact p.h) hb.1.1 pk.h (E.del d) (e.h E) (λw hw=>s.ex h1 E (hx.1 w hw)) hx.2 hb.1.2 λa E=>r.rn hb.2 h2 E I hx h⟩
instance (priority:=high) Rn.afc {jb}[p:oH os i ⟨some d,op,ty,ps,af,some jb⟩][pk:nd Q][e:Gd os l (some jb) false][q:gZ l d l1][r:Rn k n C L0 L ((d,undef)::l1) (gh P os.toArray Q C bh od fuel (mD m i)) b2 c l' Y] :
   Rn (k+1) n C L0 L l (gh P os.toArray Q C bh ((i+3000)::od) (fuel+1) m) (m6 os.toArray (lb os.toArray.size m) bh false i&&okB d n l1&&b2) c l' Y:=⟨λhb hc a W w E I hx h=>by
 simp only[fq]at hb;exact QY (qC _ _ _) (by rw[getElem?_toArray];exact p.h) hb.1.1 pk.h (E.del d) (e.h E) hx.2 hb.1.2 λa E=>r.rn hb.2 hc E I hx h⟩
instance Rn.done [r:Rn k n C L0 L l (Q .normal) b c l' Y]:Rn k n C L0 L l (gh P os.toArray Q C2 bh [] fuel m) (R4 os m&&b) c l' Y:=⟨λhb hc _ _ _ E I hx h=>by
 rw[fq]at hb;exact Rt (r.rn hb.2 hc E I hx h) (List.isEmpty_iff.1 hb.1)⟩
class Zp (vs:List Value)(ks:List Nat)(l:outParam (List (Nat×Value))):Prop where h:ks.zip vs=l
instance Zp.nil {ks}:Zp [] ks []:=⟨by simp⟩
instance Zp.cons {v vs k ks l}[h:Zp vs ks l]:Zp (v::vs) (k::ks) ((k,v)::l):=⟨by rw[List.zip_cons_cons,h.h]⟩
class App (xs ys:List Value)(zs:outParam (List Value)):Prop where h:xs++ys=zs
instance App.nil {ys}:App [] ys ys:=⟨rfl⟩
instance App.cons {x xs ys zs}[h:App xs ys zs]:App (x::xs) ys (x::zs):=⟨by rw[cons_append,h.h]⟩
instance Zp.app {xs ys zs ks l}[q:App xs ys zs][h:Zp zs ks l]:Zp (xs++ys) ks l:=⟨by rw[q.h];exact h.h⟩
class sW (n:Nat)(l:List (Nat×Value))(d:Option Tmp)(b:outParam Bool)(F:outParam (Value→List (Nat×Value))):Prop where h:b=true→∀ {a v},Fr a n l→Fr (a.put d v) n (F v)
instance sW.some {n l d l1}[q:gZ l d l1]:sW n l (some d) (okB d n l1) (λv=>(d,v)::l1):=⟨λh _ v E=>(E.del d).put h v⟩
class oI (P:Program)(l:List (Nat×Value))(ce:Callee)(args:List Operand)(f:outParam Nat)(vs:outParam (List Value)):Prop where
 h:hQ P f=true→∀ {a n w},Fr a n l→∀ {dst pH ty ps af g},(execOp a.eval ⟨dst,.call ⟨ce,args.toArray,pH⟩,ty,ps,af,g⟩).run P w=.ok (.enter f vs.toArray) w
instance oI.fn {P l f args vs}[ev:nP l args vs]:oI P l (.value (.func f)) args f vs:=⟨λhb a n w E _ _ _ _ _ _=>by
 have h2:a.eval (.func f)=.func (.func f) #[] #[]:=rfl;simp[execOp,resolve,h2,Deferred.ofValue,invoke,ev.ev a n E,Ab hb]⟩
instance oI.kG {P l x f us args vs zs}[ex:Ev l (.tmp x) (.func (.func f) #[] (List.toArray us))][ev:nP l args vs][q:App vs us zs]:oI P l (.value (.tmp x)) args f zs:=⟨λhb a n w E _ _ _ _ _ _=>by
 rw[← q.h];simp[execOp,resolve,ex.ev a n E,Deferred.ofValue,invoke,ev.ev a n E,Ab hb]⟩
class sX (vs:List Value):Prop where h:∀ v∈vs,v.oneCell'=true
instance sX.nil:sX []:=⟨by simp⟩
instance sX.ints {k m g}:sX (ints k m g):=⟨uy⟩
class One (v:Value):Prop where h:v.oneCell'=true
instance {k i}:One (.int k i):=⟨rfl⟩
instance {b}:One (.bool b):=⟨rfl⟩
instance {s}:One (.string s):=⟨rfl⟩
instance {p}:One (.pointer p):=⟨rfl⟩
instance {p n c}:One (.slice p n c):=⟨rfl⟩
instance {t v}:One (.iface t v):=⟨rfl⟩
instance sX.cons {v vs}[h:One v][k:sX vs]:sX (v::vs):=⟨λx hx=>by
 rcases List.mem_cons.1 hx with rfl | hx
 ·exact h.h
 ·exact k.h x hx⟩
variable {a:Act}{w W:World}{l2:List (Nat×Value)}{p q:Prop}{bp:Bool}{F:Value→List (Nat×Value)}{dst:Option Tmp}{ce:Callee}{args:List Operand}{f:Nat}{pH:Array TypeId}{xo Al:Operand}
abbrev j1:World→Prop:=λ_=>True
theorem k5 {w:World}:Hd j1 []∧j1 w:=⟨Hd.any _,trivial⟩
theorem EN {fn:Func}{I4:Code}{rs:List ResultVar}{X:Ending→World→Prop}(hf:P.funcs[f]?=some fn)(hn:fn.ntmps=m)(hb:fn.body=some I4)(hr:fn.results=rs.toArray)[z:Zp vs [0,1,2,3,4,5,6,7,8,9,10,11] l](h:∀ a,Fr a m l→I4.wp P (rC P rs X) a w)
   (hm:(Nat.ble vs.length m&&Nat.ble vs.length 12)=true:=by rfl):Calls P f vs.toArray w X:=by
 rw[fq]at hm;refine Qx hf hb hn (Nat.le_of_ble_eq_true hm.1) λa E=>wp_mono (h a ?_) λ_ _ _ hq=>hq fn hr;have DH:=Nat.le_of_ble_eq_true hm.2;rw[← z.h];have e:((List.range vs.length).zip vs)=[0,1,2,3,4,5,6,7,8,9,10,11].zip vs:=by
  have h3:[0,1,2,3,4,5,6,7,8,9,10,11]=List.range (vs.length+(12-vs.length)):=by rw[show vs.length+(12-vs.length)=12 from by omega];rfl
  rw[h3,List.range_add];have h4:=List.zip_append (l₁:=List.range vs.length) (l₂:=vs) (r₁:=(List.range (12-vs.length)).map (vs.length+·)) (r₂:=[]) (by simp);rw[append_nil]at h4;rw[h4];simp
 rw[← e];exact E
theorem RN (k:Nat)(E:Fr a n l)(I:U W w L)[r:Rn k n j1 [] L l X b c l' Y](h:∀ a,Fr a n l'→Y a w)(hb:b=true:=by kernel_rfl)(hc:c:=by (repeat' refine And.intro ?_ ?_) <;> first | exact True.intro | omega | exact (rfl:_=_) | decide):X a w:=r.rn hb hc E I k5 h
theorem RH (k:Nat)(E:Fr a n l)(I:U W w L)(hH:Hd C L0)(hC:C w)[r:Rn k n C L0 L l X b c l' Y](h:∀ a,Fr a n l'→Y a w)(hb:b=true:=by kernel_rfl)(hc:c:=by (repeat' refine And.intro ?_ ?_) <;> first | exact True.intro | omega | exact (rfl:_=_) | decide):X a w:=r.rn hb hc E I ⟨hH,hC⟩ h
theorem RT (k:Nat)(E:Fr a n l)(I:U W w L)[r:Rn k n j1 [] L l X b c l' (sV R v)](h:R (.returned v) w)(hb:b=true:=by kernel_rfl)(hc:c:=by (repeat' refine And.intro ?_ ?_) <;> first | exact True.intro | omega | exact (rfl:_=_) | decide):X a w:=r.rn hb hc E I k5 λ_ _=>h
theorem IF (k:Nat)(E:Fr a n l)(I:U W w L)[r:Rn k n j1 [] L l X b c l1 ((Code.cond (.tmp t) x y).wp P Q)][g1:fp l1 t (.bool b2)][iJ:gZ l1 t l2][m8:BP b2 p q]
   (ht:p→∀ a,Fr a n ((t,.bool true)::l2)→x.wp P Q a w) (hf:q→∀ a,Fr a n ((t,.bool false)::l2)→y.wp P Q a w) (hb:b=true:=by kernel_rfl) (hc:c:=by (repeat' refine And.intro ?_ ?_) <;> first | exact True.intro | omega | exact (rfl:_=_) | decide):X a w :=
 r.rn hb hc E I k5 λa E=>E.by (s:=t) (λh E=>Ir E (ht h _ E)) (λh E=>Is E (hf h _ E))
theorem R5 (k:Nat)(E:Fr a n l)(I:U W w L)[r:Rn k n j1 [] L l X b c l1 ((Code.cond (.tmp t) x y).wp P Q)][g1:fp l1 t (.bool b2)][iJ:gZ l1 t l2]
   (ht:b2=true→∀ a,Fr a n ((t,.bool true)::l2)→x.wp P Q a w) (hf:b2=false→∀ a,Fr a n ((t,.bool false)::l2)→y.wp P Q a w) (hb:b=true:=by kernel_rfl) (hc:c:=by (repeat' refine And.intro ?_ ?_) <;> first | exact True.intro | omega | exact (rfl:_=_) | decide):X a w :=
 r.rn hb hc E I k5 λa E=>E.bool (s:=t) (λh E=>Ir E (ht h _ E)) (λh E=>Is E (hf h _ E))
theorem BY (k:Nat)(E:Fr a n l)(I:U W w L)[r:Rn k n j1 [] L l X b c l1 (cJ P os.toArray Q ⟨dst,op,ty,ps,af,some (j,bp)⟩ K)][d1:uz os j t][g1:fp l1 t (.bool b2)][iJ:gZ l1 t l2][m8:BP b2 p q]
   (ht:p→∀ a,Fr a n ((t,.bool true)::l2)→cJ P os.toArray Q ⟨dst,op,ty,ps,af,some (j,bp)⟩ K a w) (hf:q→∀ a,Fr a n ((t,.bool false)::l2)→cJ P os.toArray Q ⟨dst,op,ty,ps,af,some (j,bp)⟩ K a w)
   (hb:b=true:=by kernel_rfl) (hc:c:=by (repeat' refine And.intro ?_ ?_) <;> first | exact True.intro | omega | exact (rfl:_=_) | decide):X a w :=
 r.rn hb hc E I k5 λa E=>E.by (s:=t) (λh E=>ht h _ E) (λh E=>hf h _ E)
theorem xZ (E:Fr a n l)[e:Gd os l g true][ev:oI P l ce args f vs][wa:sW n l dst bp F]{X:Ending→World→Prop}(hc:Calls P f vs.toArray w X)(DI:bp=true)(hf:hQ P f=true)
   (h:∀ e w',X e w'→∃ v,e=.returned v∧∀ a',Fr a' n (F v)→K a' w'):cJ P os.toArray Q ⟨dst,.call ⟨ce,args.toArray,pH⟩,ty,ps,af,g⟩ K a w :=
 Il (e.h E) (ev.h hf E) hc λe w' hx=>let ⟨v,he,hv⟩:=h e w' hx;⟨v,he,hv _ (wa.h DI E)⟩
section
variable {α β γ:Type}{S0:World→Prop}{S1:α→World→Prop}{S2:α→β→World→Prop}{S3:α→β→γ→World→Prop}{v1:α→Value}{I5:α→β→Value}{I6:α→β→γ→Value}
theorem CL (k:Nat)(E:Fr a n l)(I:U W w L)[r:Rn k n j1 [] L l X b c l1 (cJ P os.toArray Q ⟨dst,.call ⟨ce,args.toArray,pH⟩,ty,ps,af,g⟩ K)][e:Gd os l1 g true][ev:oI P l1 ce args f vs][wa:sW n l1 dst bp F]
   (hq:Calls P f vs.toArray w λr w'=>r=.returned v∧S0 w') (h:∀ a w,Fr a n (F v)→S0 w→K a w) (hb:(b&&bp)=true:=by kernel_rfl) (hf:hQ P f=true:=by kernel_rfl) (hc:c:=by (repeat' refine And.intro ?_ ?_) <;> first | exact True.intro | omega | exact (rfl:_=_) | decide):X a w:=by
 simp only[fq]at hb;exact r.rn hb.1 hc E I k5 λa E=>xZ E hq hb.2 hf λe w' ⟨h1,h2⟩=>⟨_,h1,λa E=>h a w' E h2⟩
theorem bj (k:Nat)(E:Fr a n l)(I:U W w L)[r:Rn k n j1 [] L l X b c l1 (cJ P os.toArray Q ⟨dst,.call ⟨ce,args.toArray,pH⟩,ty,ps,af,g⟩ K)][e:Gd os l1 g true][ev:oI P l1 ce args f vs][wa:sW n l1 dst bp F]
   (hq:Calls P f vs.toArray w λr w'=>∃ x,r=.returned (v1 x)∧S1 x w') (h:∀ x a w,Fr a n (F (v1 x))→S1 x w→K a w) (hb:(b&&bp)=true:=by kernel_rfl) (hf:hQ P f=true:=by kernel_rfl) (hc:c:=by (repeat' refine And.intro ?_ ?_) <;> first | exact True.intro | omega | exact (rfl:_=_) | decide):X a w:=by
 simp only[fq]at hb;exact r.rn hb.1 hc E I k5 λa E=>xZ E hq hb.2 hf λe w' ⟨x,h1,h2⟩=>⟨_,h1,λa E=>h x a w' E h2⟩
theorem aY (k:Nat)(E:Fr a n l)(I:U W w L)[r:Rn k n j1 [] L l X b c l1 (cJ P os.toArray Q ⟨dst,.call ⟨ce,args.toArray,pH⟩,ty,ps,af,g⟩ K)][e:Gd os l1 g true][ev:oI P l1 ce args f vs][wa:sW n l1 dst bp F]
   (hq:Calls P f vs.toArray w λr w'=>∃ x y,r=.returned (I5 x y)∧S2 x y w') (h:∀ x y a w,Fr a n (F (I5 x y))→S2 x y w→K a w) (hb:(b&&bp)=true:=by kernel_rfl) (hf:hQ P f=true:=by kernel_rfl) (hc:c:=by (repeat' refine And.intro ?_ ?_) <;> first | exact True.intro | omega | exact (rfl:_=_) | decide):X a w:=by
 simp only[fq]at hb;exact r.rn hb.1 hc E I k5 λa E=>xZ E hq hb.2 hf λe w' ⟨x,y,h1,h2⟩=>⟨_,h1,λa E=>h x y a w' E h2⟩
theorem j2 (k:Nat)(E:Fr a n l)(I:U W w L)[r:Rn k n j1 [] L l X b c l1 (cJ P os.toArray Q ⟨dst,.call ⟨ce,args.toArray,pH⟩,ty,ps,af,g⟩ K)][e:Gd os l1 g true][ev:oI P l1 ce args f vs][wa:sW n l1 dst bp F]
   (hq:Calls P f vs.toArray w λr w'=>∃ x y z,r=.returned (I6 x y z)∧S3 x y z w') (h:∀ x y z a w,Fr a n (F (I6 x y z))→S3 x y z w→K a w) (hb:(b&&bp)=true:=by kernel_rfl) (hf:hQ P f=true:=by kernel_rfl) (hc:c:=by (repeat' refine And.intro ?_ ?_) <;> first | exact True.intro | omega | exact (rfl:_=_) | decide):X a w:=by
 simp only[fq]at hb;exact r.rn hb.1 hc E I k5 λa E=>xZ E hq hb.2 hf λe w' ⟨x,y,z,h1,h2⟩=>⟨_,h1,λa E=>h x y z a w' E h2⟩
end
theorem j3 (k:Nat)(E:Fr a n l)(I:U W w L)[r:Rn k n j1 [] L l X b c l1 (cJ P os.toArray Q ⟨dst,.call ⟨ce,args.toArray,pH⟩,ty,ps,af,g⟩ K)][e:Gd os l1 g true][ev:oI P l1 ce args f vs][wa:sW n l1 dst bp F]{Z:Ending→World→Prop}
   (hq:Calls P f vs.toArray w Z) (h:∀ e w,Z e w→∃ v,e=.returned v∧∀ a,Fr a n (F v)→K a w) (hb:(b&&bp)=true:=by kernel_rfl) (hf:hQ P f=true:=by kernel_rfl) (hc:c:=by (repeat' refine And.intro ?_ ?_) <;> first | exact True.intro | omega | exact (rfl:_=_) | decide):X a w:=by
 simp only[fq]at hb;exact r.rn hb.1 hc E I k5 λa E=>xZ E hq hb.2 hf h
variable {cs mx:List Value}{Am:TypeId}{S:List SP}
theorem ST (k:Nat)(E:Fr a n l)(I:U W w L)[r:Rn k n j1 [] L l X b c l1 (cJ P os.toArray Q ⟨none,.store t xo Al,ty,ps,af,g⟩ K)][rD:Gd os l1 g true][ev:Ev l1 xo (.pointer (some ⟨bb,off,none⟩))][um:Ev l1 Al v][hi:TI P t zv 1 a1][qt:Cells v [v]][o1:One v]
   [Dm:fI L bb Am cs S] [sc:qp cs off v mx] (h:∀ a w,Fr a n l1→U W w (aa bb Am mx::S)→K a w) (hb:b=true:=by kernel_rfl) (hc:c:=by (repeat' refine And.intro ?_ ?_) <;> first | exact True.intro | omega | exact (rfl:_=_) | decide) (hlt:off<cs.length:=by first | exact Nat.afd rfl | omega | simp):X a w :=
 r.rn hb hc E I k5 λa E=>Ij E (rD.h E) I hi o1.h hlt h
theorem SA (k:Nat)(E:Fr a n l)(I:U W w L)[r:Rn k n j1 [] L l X b c l1 (cJ P os.toArray Q ⟨none,.store t xo Al,ty,ps,af,g⟩ K)][rD:Gd os l1 g true][ev:Ev l1 xo (.pointer (some ⟨bb,0,none⟩))][um:Ev l1 Al v][hi:TI P t zv m a1][qt:Cells v vs][le:mC vs m][o1:sX vs]
   [Dm:fI L bb Am cs S] [R6:mC cs m] (h:∀ a w,Fr a n l1→U W w (aa bb Am vs::S)→K a w) (hb:b=true:=by kernel_rfl) (hc:c:=by (repeat' refine And.intro ?_ ?_) <;> first | exact True.intro | omega | exact (rfl:_=_) | decide):X a w :=
 r.rn hb hc E I k5 λa E=>Qo E (rD.h E) I (by rw[le.h];exact hi) o1.h (by rw[le.h,R6.h]) h
theorem AL (k:Nat)(E:Fr a n l)(I:U W w L)[r:Rn k n j1 [] L l X b c l1 (cJ P os.toArray Q ⟨some d,.alloc t,ty,ps,af,g⟩ K)][rD:Gd os l1 g true][hi:TI P t zv m a1][qt:Cells zv vs][q:gZ l1 d l2]
   (h:∀ b a w',Fr a n ((d,.pointer (some ⟨b,0,none⟩))::l2)→U W w' (aa b t vs::L)→K a w') (hb:(b&&okB d n l2)=true:=by kernel_rfl) (hc:c:=by (repeat' refine And.intro ?_ ?_) <;> first | exact True.intro | omega | exact (rfl:_=_) | decide):X a w:=by
 rw[fq]at hb;exact r.rn hb.1 hc E I k5 λa E=>e0 (E.del d) (rD.h E) I hi hb.2 λb a w E I _=>h b a w E I
theorem BX (k:Nat)(E:Fr a n l)(I:U W w L)[r:Rn k n j1 [] L l X b c l1 (cJ P os.toArray Q ⟨some d,.box t xo,ty,ps,af,g⟩ K)][rD:Gd os l1 g true][ev:Ev l1 xo v][qt:Cells v vs][q:gZ l1 d l2]
   (h:∀ b a w',Fr a n ((d,.pointer (some ⟨b,0,none⟩))::l2)→U W w' (aa b t vs::L)→K a w') (hb:(b&&okB d n l2)=true:=by kernel_rfl) (hc:c:=by (repeat' refine And.intro ?_ ?_) <;> first | exact True.intro | omega | exact (rfl:_=_) | decide):X a w:=by
 rw[fq]at hb;refine r.rn hb.1 hc E I k5 λa E=>?_;have:=ev.ev a n E;refine bm (v:=.pointer (some ⟨w.heap.size,0,none⟩)) (w':=w.alloc (.cells vs.toArray t)) (E.del d) (rD.h E) ?_ hb.2 (λa' de=>h _ _ _ de (I.alloc _));simp[execOp,Instr.box,this,newVar,newRow,newObj,Sem.run,qt.h,Sem.run_bind]
theorem SX (k:Nat)(E:Fr a n l)(I:U W w L)[r:Rn k n j1 [] L l X b c l1 (cJ P os.toArray Q ⟨some d,op,ty,ps,af,g⟩ K)][rD:Gd os l1 g true][s:Sx P L l1 op eu v][q:gZ l1 d l2](h1:eu)
   (h:∀ a,Fr a n ((d,v)::l2)→K a w) (hb:(b&&okB d n l2)=true:=by kernel_rfl) (hc:c:=by (repeat' refine And.intro ?_ ?_) <;> first | exact True.intro | omega | exact (rfl:_=_) | decide):X a w:=by
 rw[fq]at hb;exact r.rn hb.1 hc E I k5 λa E=>bm (E.del d) (rD.h E) (s.ex h1 E (Lk.of I)) hb.2 h
theorem QP [p:oH os i ⟨some d,op,ty,ps,af,g⟩][pk:nd Q][e:Gd os l g true][q:gZ l d l1](E:Fr a n l)(hr:∀ w,(execOp a.eval ⟨some d,op,ty,ps,af,g⟩).run P w=.ok (.value v) w)
   (h:∀ a,Fr a n ((d,v)::l1)→gh P os.toArray Q C2 bh od fuel (mD m i) a w) (hb:(m6 os.toArray (lb os.toArray.size m) bh true i&&!bh.contains i&&okB d n l1)=true:=by kernel_rfl):gh P os.toArray Q C2 bh (i::od) (fuel+1) m a w:=by
 simp only[fq,Bool.not_eq_true']at hb;exact IJ (qC _ _ _) (by rw[getElem?_toArray];exact p.h) hb.1.1 hb.1.2 pk.h (E.del d) (e.h E) hr hb.2 h
theorem QH [p:oH os i ⟨some d,op,ty,ps,af,g⟩][pk:nd Q][e:Gd os l g true][q:gZ l d l1](E:Fr a n l)(hr:∀ w,C2 w→(execOp a.eval ⟨some d,op,ty,ps,af,g⟩).run P w=.ok (.value v) w)(hC:C2 w)
   (h:∀ a,Fr a n ((d,v)::l1)→gh P os.toArray Q C2 bh od fuel (mD m i) a w) (hb:(m6 os.toArray (lb os.toArray.size m) bh false i&&okB d n l1)=true:=by kernel_rfl):gh P os.toArray Q C2 bh ((i+3000)::od) (fuel+1) m a w:=by
 simp only[fq]at hb;exact IK (qC _ _ _) (by rw[getElem?_toArray];exact p.h) hb.1 pk.h (E.del d) (e.h E) hr hC hb.2 h
theorem aX (k:Nat)(C:World→World→Prop)(bh od:List Nat)(E:Fr a n l)(I:U W w L)[r:Rn k n j1 [] L l X b c l1 ((Code.region i os.toArray true).wp P Q)][pk:nd Q][x4:Ak P]
   (h:∀ a w,Fr a n l1→U W w L→Hd (C w) []→gh P os.toArray Q (C w) bh od os.length 0 a w) (hb:b=true:=by kernel_rfl) (hc:c:=by (repeat' refine And.intro ?_ ?_) <;> first | exact True.intro | omega | exact (rfl:_=_) | decide):X a w :=
 r.rn hb hc E I k5 λa E=>Go.Proofs.YteoldcfapaiobaaGreat.DW (C w.drew) bh od x4.h pk.h (λ_=>h a _ E I.drew (Hd.any _)) List.size_toArray
theorem rE (k:Nat)(C:World→Prop)(bh od:List Nat)(E:Fr a n l)(I:U W w L)[r:Rn k n j1 [] L l X b c l1 ((Code.region i os.toArray true).wp P Q)][pk:nd Q][x4:Ak P]
   (h:∀ a,Fr a n l1→gh P os.toArray Q C bh od os.length 0 a w.drew) (hb:b=true:=by kernel_rfl) (hc:c:=by (repeat' refine And.intro ?_ ?_) <;> first | exact True.intro | omega | exact (rfl:_=_) | decide):X a w :=
 r.rn hb hc E I k5 λa E=>Go.Proofs.YteoldcfapaiobaaGreat.DW C bh od x4.h pk.h (λ_=>h a E) List.size_toArray
theorem bS (k:Nat)(bh od:List Nat)(E:Fr a n l)(I:U W w L)[r:Rn k n j1 [] L l X b c l1 ((Code.region i os.toArray true).wp P Q)][pk:nd Q][x4:Ak P]
   (h:∀ a w,Fr a n l1→U W w L→Hd (Old w) L→Old w w→gh P os.toArray Q (Old w) bh od os.length 0 a w) (hb:b=true:=by kernel_rfl) (hc:c:=by (repeat' refine And.intro ?_ ?_) <;> first | exact True.intro | omega | exact (rfl:_=_) | decide):X a w :=
 r.rn hb hc E I k5 λa E=>Go.Proofs.YteoldcfapaiobaaGreat.DW (Old w.drew) bh od x4.h pk.h (λ_=>h a _ E I.drew (Hd.gD I.drew) (Old.refl _)) List.size_toArray
end
section
variable {P:Program}{ops:Array Oper}{Q:Exit→Act→World→Prop}{C:World→Prop}{bh:List Nat}{fuel m:Nat}{a:Act}{w:World}
def x5 (P:Program)(ops:Array Oper)(Q:Exit→Act→World→Prop)(C:World→Prop)(bh:List Nat)(fuel m:Nat)(a:Act)(w:World):List (Nat×List Nat)→Prop
 | []=>True
 | (i,od)::r=>(∃ o,ops[i]?=some o∧cJ P ops Q o (CN (bh.contains i) C (gh P ops Q C bh od fuel (mD m i))) a w)∧x5 P ops Q C bh fuel m a w r
theorem x5.get:∀ {l:List (Nat×List Nat)} {i:Nat},x5 P ops Q C bh fuel m a w l→i∈l.map (·.1)→∃ (o:Oper) (od:List Nat),ops[i]?=some o∧cJ P ops Q o (CN (bh.contains i) C (gh P ops Q C bh od fuel (mD m i))) a w
 | [],_,_,h=>by simp at h
 | (j,od)::r,i,⟨⟨o,h1,h2⟩,h3⟩,h=>by
  rw[map_cons]at h;rcases List.mem_cons.1 h with rfl | h
  ·exact⟨o,od,h1,h2⟩
  ·exact x5.get h3 h
theorem DN {od:List Nat}(l:List (Nat×List Nat))(hr:Region.ready .any ops (lb ops.size m)=l.map (·.1))(bD:l.isEmpty=false)(h:x5 P ops Q C bh fuel m a w l):gh P ops Q C bh od (fuel+1) m a w:=by
 refine⟨λh0=>?_,λj hj=>?_⟩
 ·rw[hr]at h0;cases l with
  | nil=>cases bD
  | cons x r=>cases h0
 ·rw[hr]at hj;obtain⟨o,od,h1,h2⟩:=h.get hj;simp only[wpOp,h1,qC];exact h2
end
end
section
abbrev pt (b:Nat):Value:=.pointer (some ⟨b,0,none⟩)
theorem Hd.at {C:World→Prop}{L:List SP}(_:Hd C L)(w:World)(h:C w):C w:=h
theorem ae {P:Program}{a:Act}{w:World}{n:Nat}{l:List (Nat × Value)}{x ad t v dst ty ps af g}(E:Fr a n l)(hc:w.cell? ad=some v)[u:Dq P t][ev:Ev l x (.pointer (some ad))]:(execOp a.eval ⟨dst,.load t x,ty,ps,af,g⟩).run P w=.ok (.value v) w:=by
 obtain ⟨eh,h1,h2⟩:=u.h;exact Ih E h1 h2 hc
theorem SS {P:Program}{ops:Array Oper}{Q:Exit→Act→World→Prop}{a:Act}{w:World}{K:Act→World→Prop}{n d:Nat}{l:List (Nat × Value)}{v:Value}{op ty ps af g}(E:Fr a n l)(hr:(execOp a.eval ⟨some d,op,ty,ps,af,g⟩).run P w=.ok (.value v) w)(h:∀ a',Fr a' n ((d,v)::l)→K a' w)(hw:Region.wanted ⟨some d,op,ty,ps,af,g⟩ (yielded ops a.tmps)=true:=by rfl)(hf:okB d n l=true:=by rfl):cJ P ops Q ⟨some d,op,ty,ps,af,g⟩ K a w:=bm E hw hr hf h
end
section
instance Ty.t2:TI prog 2 (.int .i64 0) 1 8:=TI.of (by kernel_rfl)
instance Ty.t3:TI prog 3 (.int .i64 0) 1 8:=TI.of (by kernel_rfl)
instance Ty.t4:TI prog 4 (.bool false) 1 1:=TI.of (by kernel_rfl)
instance Ty.t5:TI prog 5 (.int .u8 0) 1 1:=TI.of (by kernel_rfl)
instance Ty.t9:TI prog 9 (.string ⟨#[]⟩) 1 16:=TI.of (by kernel_rfl)
instance Ty.t21:TI prog 21 (.int .i32 0) 1 4:=TI.of (by kernel_rfl)
instance Ty.t22:TI prog 22 (.slice none 0 0) 1 24:=TI.of (by kernel_rfl)
instance Ty.t28:TI prog 28 (.agg #[.int .i64 0,.int .i64 0,.int .i64 0,.int .i64 0,.int .i64 0,.int .i64 0,.int .i64 0,.int .i64 0,.int .i64 0,.int .i64 0]) 10 80:=TI.of (by kernel_rfl)
instance Ty.t31:TI prog 31 (.pointer none) 1 8:=TI.of (by kernel_rfl)
instance Ty.t33:TI prog 33 (.agg #[.pointer none,.int .i64 0,.bool false]) 3 24:=TI.of (by kernel_rfl)
instance Ty.t34:TI prog 34 (.pointer none) 1 8:=TI.of (by kernel_rfl)
instance Ty.t35:TI prog 35 (.pointer none) 1 8:=TI.of (by kernel_rfl)
instance Ty.t36:TI prog 36 (.slice none 0 0) 1 24:=TI.of (by kernel_rfl)
instance Ty.t37:TI prog 37 (.slice none 0 0) 1 24:=TI.of (by kernel_rfl)
instance Ty.t38:TI prog 38 (.slice none 0 0) 1 24:=TI.of (by kernel_rfl)
instance Ty.t40:TI prog 40 (.agg #[.pointer none,.slice none 0 0,.slice none 0 0,.slice none 0 0]) 4 80:=TI.of (by kernel_rfl)
instance Ty.t42:TI prog 42 (.pointer none) 1 8:=TI.of (by kernel_rfl)
instance Ty.t43:TI prog 43 (.slice none 0 0) 1 24:=TI.of (by kernel_rfl)
instance Ty.t45:TI prog 45 (.agg #[.string ⟨#[]⟩,.slice none 0 0]) 2 40:=TI.of (by kernel_rfl)
instance Ty.t47:TI prog 47 (.agg #[.int .i64 0,.int .i64 0,.slice none 0 0]) 3 40:=TI.of (by kernel_rfl)
instance Ty.t49:TI prog 49 (.agg #[.int .i32 0,.int .i32 0,.int .i32 0,.int .i32 0,.int .i32 0,.int .i32 0,.int .i32 0,.int .i32 0,.int .i32 0,.int .i32 0,.int .i32 0,.int .i32 0,.int .i32 0,.int .i32 0,.int .i32 0,.int .i32 0,.int .i32 0,.int .i32 0,.int .i32 0,.int .i32 0,.int .i32 0,.int .i32 0,.int .i32 0,.int .i32 0,.int .i32 0,.int .i32 0,.int .i32 0,.int .i32 0,.int .i32 0,.int .i32 0,.int .i32 0,.int .i32 0]) 32 128:=TI.of (by kernel_rfl)
instance Ty.t51:TI prog 51 (.agg ((.pointer none::.string ⟨#[]⟩::.slice none 0 0::.int .i64 0::.int .i64 0::.slice none 0 0::.int .i32 0::.int .i32 0::.int .i32 0::.int .i32 0::.int .i32 0::.int .i32 0::.int .i32 0::.int .i32 0::.int .i32 0::.int .i32 0::.int .i32 0::.int .i32 0::.int .i32 0::.int .i32 0::.int .i32 0::.int .i32 0::.int .i32 0::.int .i32 0::.int .i32 0::.int .i32 0::.int .i32 0::.int .i32 0::.int .i32 0::.int .i32 0::.int .i32 0::.int .i32 0::.int .i32 0::.int .i32 0::.int .i32 0::.int .i32 0::.int .i32 0::.int .i32 0::[]):List Value).toArray) 38 216:=TI.of (by kernel_rfl)
instance Ty.t53:TI prog 53 (.slice none 0 0) 1 24:=TI.of (by kernel_rfl)
instance Ty.t58:TI prog 58 (.agg #[.int .i64 0,.int .i64 0,.int .i64 0,.int .i64 0]) 4 32:=TI.of (by kernel_rfl)
instance Ty.t60:TI prog 60 (.agg #[.int .i64 0,.int .i64 0,.slice none 0 0]) 3 40:=TI.of (by kernel_rfl)
instance Ty.t62:TI prog 62 (.pointer none) 1 8:=TI.of (by kernel_rfl)
instance Ty.t65:TI prog 65 (.agg #[.slice none 0 0]) 1 24:=TI.of (by kernel_rfl)
instance Ty.t66:TI prog 66 (.slice none 0 0) 1 24:=TI.of (by kernel_rfl)
instance Ty.t67:TI prog 67 (.slice none 0 0) 1 24:=TI.of (by kernel_rfl)
instance Ty.t68:TI prog 68 (.slice none 0 0) 1 24:=TI.of (by kernel_rfl)
instance Ty.t69:TI prog 69 (.slice none 0 0) 1 24:=TI.of (by kernel_rfl)
instance Ty.t70:TI prog 70 (.slice none 0 0) 1 24:=TI.of (by kernel_rfl)
instance Ty.t72:TI prog 72 (.agg #[.int .i64 0,.int .i64 0,.int .i64 0,.int .i64 0,.int .i64 0,.int .i64 0,.int .i64 0,.int .i64 0,.int .i64 0,.int .i64 0,.slice none 0 0,.int .i64 0,.slice none 0 0,.slice none 0 0,.slice none 0 0,.slice none 0 0,.slice none 0 0,.slice none 0 0,.bool false]) 19 264:=TI.of (by kernel_rfl)
instance Ty.t81:TI prog 81 (.nilIface) 1 16:=TI.of (by kernel_rfl)
instance Ty.t90:TI prog 90 (.slice none 0 0) 1 24:=TI.of (by kernel_rfl)
instance Ty.t100:TI prog 100 (.int .u32 0) 1 4:=TI.of (by kernel_rfl)
instance Ty.t102:TI prog 102 (.agg #[.int .i64 0,.int .i64 0,.int .i64 0]) 3 24:=TI.of (by kernel_rfl)
instance Ty.t104:TI prog 104 (.slice none 0 0) 1 24:=TI.of (by kernel_rfl)
instance Ty.t105:TI prog 105 (.slice none 0 0) 1 24:=TI.of (by kernel_rfl)
instance Ty.t107:TI prog 107 (.agg #[.slice none 0 0,.pointer none,.slice none 0 0]) 3 56:=TI.of (by kernel_rfl)
instance Ty.t108:TI prog 108 (.slice none 0 0) 1 24:=TI.of (by kernel_rfl)
instance Ty.t110:TI prog 110 (.agg #[.slice none 0 0]) 1 24:=TI.of (by kernel_rfl)
instance Ty.t114:TI prog 114 (.agg #[.int .i64 0,.int .i64 0,.int .i64 0,.int .i64 0]) 4 32:=TI.of (by kernel_rfl)
instance Ty.t124:TI prog 124 (.agg #[.int .i64 0,.int .i64 0,.slice none 0 0]) 3 40:=TI.of (by kernel_rfl)
instance Ty.t133:TI prog 133 (.nilIface) 1 16:=TI.of (by kernel_rfl)
instance Ty.t135:TI prog 135 (.agg #[.nilIface]) 1 16:=TI.of (by kernel_rfl)
instance Ty.t139:TI prog 139 (.pointer none) 1 8:=TI.of (by kernel_rfl)
instance Ty.t158:TI prog 158 (.pointer none) 1 8:=TI.of (by kernel_rfl)
instance Ty.t162:TI prog 162 (.pointer none) 1 8:=TI.of (by kernel_rfl)
instance Ty.t164:TI prog 164 (.agg (List.replicate 201 (.int .i64 0)).toArray) 201 1608:=TI.of (by kernel_rfl)
instance Ty.t166:TI prog 166 (.int .i64 0) 1 8:=TI.of (by kernel_rfl)
instance Ty.t168:TI prog 168 (.slice none 0 0) 1 24:=TI.of (by kernel_rfl)
instance Ty.t169:TI prog 169 (.pointer none) 1 8:=TI.of (by kernel_rfl)
instance Ty.t173:TI prog 173 (.pointer none) 1 8:=TI.of (by kernel_rfl)
instance Ty.t175:TI prog 175 (.slice none 0 0) 1 24:=TI.of (by kernel_rfl)
instance Ty.t177:TI prog 177 (.agg #[.pointer none,.string ⟨#[]⟩,.slice none 0 0,.pointer none,.pointer none,.pointer none,.slice none 0 0,.int .i64 0,.int .i64 0]) 9 112:=TI.of (by kernel_rfl)
instance Ty.t179:TI prog 179 (.pointer none) 1 8:=TI.of (by kernel_rfl)
instance Ty.t183:TI prog 183 (.agg #[.int .i32 0,.int .i32 0,.int .i32 0,.int .i32 0,.int .i32 0,.int .i32 0,.int .i32 0,.int .i32 0,.int .i32 0,.int .i32 0,.int .i32 0,.int .i32 0,.int .i32 0,.int .i32 0,.int .i32 0,.int .i32 0,.int .i32 0,.int .i32 0,.int .i32 0,.int .i32 0,.int .i32 0,.int .i32 0,.int .i32 0,.int .i32 0,.int .i32 0,.int .i32 0,.int .i32 0,.int .i32 0,.int .i32 0,.int .i32 0,.int .i32 0,.int .i32 0]) 32 128:=TI.of (by kernel_rfl)
instance Ty.t186:TI prog 186 (.agg #[.int .i64 0,.int .i64 0,.slice none 0 0]) 3 40:=TI.of (by kernel_rfl)
instance Ty.t187:TI prog 187 (.pointer none) 1 8:=TI.of (by kernel_rfl)
instance Ty.t192:TI prog 192 (.agg ((.pointer none::.string ⟨#[]⟩::.slice none 0 0::.int .i64 0::.int .i64 0::.slice none 0 0::.int .i32 0::.int .i32 0::.int .i32 0::.int .i32 0::.int .i32 0::.int .i32 0::.int .i32 0::.int .i32 0::.int .i32 0::.int .i32 0::.int .i32 0::.int .i32 0::.int .i32 0::.int .i32 0::.int .i32 0::.int .i32 0::.int .i32 0::.int .i32 0::.int .i32 0::.int .i32 0::.int .i32 0::.int .i32 0::.int .i32 0::.int .i32 0::.int .i32 0::.int .i32 0::.int .i32 0::.int .i32 0::.int .i32 0::.int .i32 0::.int .i32 0::.int .i32 0::[]):List Value).toArray) 38 216:=TI.of (by kernel_rfl)
instance Ty.t203:TI prog 203 (.agg #[.int .i64 0,.int .i64 0,.int .i64 0,.int .i64 0,.int .i64 0,.slice none 0 0,.int .i64 0,.int .i64 0,.int .u32 0]) 9 88:=TI.of (by kernel_rfl)
instance Ty.t207:TI prog 207 (.slice none 0 0) 1 24:=TI.of (by kernel_rfl)
instance Ty.t210:TI prog 210 (.agg #[.int .i64 0]) 1 8:=TI.of (by kernel_rfl)
instance Ty.t211:TI prog 211 (.agg #[.int .i64 0]) 1 8:=TI.of (by kernel_rfl)
instance Ty.t213:TI prog 213 (.agg #[.int .i64 0,.int .i64 0]) 2 16:=TI.of (by kernel_rfl)
instance Ty.t218:TI prog 218 (.map none) 1 8:=TI.of (by kernel_rfl)
instance Ty.t219:TI prog 219 (.pointer none) 1 8:=TI.of (by kernel_rfl)
instance Ty.t221:TI prog 221 (.agg #[.pointer none,.map none,.int .i64 0]) 3 24:=TI.of (by kernel_rfl)
instance Ty.t222:TI prog 222 (.slice none 0 0) 1 24:=TI.of (by kernel_rfl)
instance Ty.t224:TI prog 224 (.agg #[.slice none 0 0]) 1 24:=TI.of (by kernel_rfl)
instance Ty.t225:TI prog 225 (.agg #[.int .i32 0,.int .i32 0,.int .i32 0,.int .i32 0,.int .i32 0,.int .i32 0,.int .i32 0,.int .i32 0]) 8 32:=TI.of (by kernel_rfl)
instance Ty.t227:TI prog 227 (.agg #[.int .i32 0,.int .i32 0,.int .i32 0,.int .i32 0,.int .i32 0,.int .i32 0,.int .i32 0,.int .i32 0,.int .i64 0]) 9 40:=TI.of (by kernel_rfl)
instance Ty.t230:TI prog 230 (.agg #[.int .i64 0,.int .i64 0,.int .i64 0,.int .i64 0]) 4 32:=TI.of (by kernel_rfl)
instance Ty.t232:TI prog 232 (.agg #[.int .i64 0,.int .i64 0,.int .i64 0,.int .i64 0,.int .i64 0]) 5 40:=TI.of (by kernel_rfl)
instance Ty.t236:TI prog 236 (.agg #[.pointer none,.int .i64 0,.slice none 0 0,.int .i64 0,.int .i64 0]) 5 56:=TI.of (by kernel_rfl)
instance Ty.t238:TI prog 238 (.agg #[.int .i64 0,.int .i64 0,.slice none 0 0,.int .i64 0,.int .i64 0]) 5 56:=TI.of (by kernel_rfl)
instance Ty.t241:TI prog 241 (.slice none 0 0) 1 24:=TI.of (by kernel_rfl)
instance Ty.t243:TI prog 243 (.agg #[.slice none 0 0]) 1 24:=TI.of (by kernel_rfl)
instance Ty.t245:TI prog 245 (.agg #[.int .i64 0,.int .i64 0]) 2 16:=TI.of (by kernel_rfl)
instance Ty.t247:TI prog 247 (.agg #[.string ⟨#[]⟩,.slice none 0 0,.pointer none,.pointer none,.pointer none,.bool false,.int .i64 0,.int .i64 0,.int .i64 0,.int .i64 0,.bool false]) 11 112:=TI.of (by kernel_rfl)
instance Ty.t253:TI prog 253 (.pointer none) 1 8:=TI.of (by kernel_rfl)
instance Ty.t255:TI prog 255 (.slice none 0 0) 1 24:=TI.of (by kernel_rfl)
instance Ty.t257:TI prog 257 (.agg #[.int .i64 0,.int .i64 0,.int .i64 0,.int .i64 0,.int .i64 0,.int .i64 0,.int .i64 0,.int .i64 0,.int .i64 0,.int .i64 0,.pointer none,.slice none 0 0,.slice none 0 0,.slice none 0 0,.int .i64 0,.bool false]) 16 176:=TI.of (by kernel_rfl)
instance Ty.t259:TI prog 259 (.agg #[.int .i64 0,.int .i64 0,.int .i64 0,.int .u32 0,.bool false]) 5 32:=TI.of (by kernel_rfl)
instance Ty.t286:TI prog 286 (.slice none 0 0) 1 24:=TI.of (by kernel_rfl)
instance Ty.t288:TI prog 288 (.agg #[.slice none 0 0]) 1 24:=TI.of (by kernel_rfl)
instance Ty.t289:TI prog 289 (.pointer none) 1 8:=TI.of (by kernel_rfl)
instance Ty.t296:TI prog 296 (.agg ((.int .i32 0::.int .i32 0::.int .i32 0::.int .i32 0::.int .i32 0::.int .i32 0::.int .i32 0::.int .i32 0::.int .i32 0::.int .i32 0::.int .i32 0::.int .i32 0::.int .i32 0::.int .i32 0::.int .i32 0::.int .i32 0::.int .i32 0::.int .i32 0::.int .i32 0::.int .i32 0::.int .i32 0::.int .i32 0::.int .i32 0::.int .i32 0::.int .i32 0::.int .i32 0::.int .i32 0::.int .i32 0::.int .i32 0::.int .i32 0::.int .i32 0::.int .i32 0::[]):List Value).toArray) 32 128:=TI.of (by kernel_rfl)
instance Ty.t307:TI prog 307 (.agg #[.pointer none,.int .i64 0,.bool false]) 3 24:=TI.of (by kernel_rfl)
instance Ty.t313:TI prog 313 (.agg #[.int .i64 0,.int .u32 0]) 2 16:=TI.of (by kernel_rfl)
instance Ty.t320:TI prog 320 (.agg (List.replicate 256 (.int .i64 0)).toArray) 256 2048:=TI.of (by kernel_rfl)
instance Ty.t322:TI prog 322 (.agg (List.replicate 256 (.bool false)).toArray) 256 256:=TI.of (by kernel_rfl)
instance Ty.t328:TI prog 328 (.agg #[.slice none 0 0]) 1 24:=TI.of (by kernel_rfl)
instance Ty.t333:TI prog 333 (.nilIface) 1 16:=TI.of (by kernel_rfl)
instance Ty.t336:TI prog 336 (.agg #[.string ⟨#[]⟩,.slice none 0 0,.nilIface,.int .i64 0,.slice none 0 0,.int .i64 0]) 6 96:=TI.of (by kernel_rfl)
instance Ty.t345:TI prog 345 (.agg #[.int .i64 0,.int .i64 0,.int .i64 0,.int .i64 0]) 4 32:=TI.of (by kernel_rfl)
instance Ty.t423:TI prog 423 (.agg #[.int .u8 0,.int .u8 0]) 2 2:=TI.of (by kernel_rfl)
instance Ty.t427:TI prog 427 (.agg #[.slice none 0 0,.bool false]) 2 32:=TI.of (by kernel_rfl)
instance Ty.t429:TI prog 429 (.agg #[.int .i64 0,.int .i64 0,.int .i64 0]) 3 24:=TI.of (by kernel_rfl)
instance Ty.I7:ek prog 28 [(0,1),(1,1),(2,1),(3,1),(4,1),(5,1),(6,1),(7,1),(8,1),(9,1)]:=⟨_,underlying28,λw=>by kernel_rfl⟩
instance Ty.jO:ek prog 33 [(0,1),(1,1),(2,1)]:=⟨_,underlying33,λw=>by kernel_rfl⟩
instance Ty.I8:ek prog 40 [(0,1),(1,1),(2,1),(3,1)]:=⟨_,underlying40,λw=>by kernel_rfl⟩
instance Ty.b45:ek prog 45 [(0,1),(1,1)]:=⟨_,underlying45,λw=>by kernel_rfl⟩
instance Ty.b47:ek prog 47 [(0,1),(1,1),(2,1)]:=⟨_,underlying47,λw=>by kernel_rfl⟩
instance Ty.R8:ek prog 51 [(0,1),(1,2),(3,3),(6,32)]:=⟨_,underlying51,λw=>by kernel_rfl⟩
instance Ty.b58:ek prog 58 [(0,1),(1,1),(2,1),(3,1)]:=⟨_,underlying58,λw=>by kernel_rfl⟩
instance Ty.R9:ek prog 60 [(0,1),(1,1),(2,1)]:=⟨_,underlying60,λw=>by kernel_rfl⟩
instance Ty.Sa:ek prog 65 [(0,1)]:=⟨_,underlying65,λw=>by kernel_rfl⟩
instance Ty.b72:ek prog 72 [(0,10),(10,1),(11,1),(12,1),(13,1),(14,1),(15,1),(16,1),(17,1),(18,1)]:=⟨_,underlying72,λw=>by kernel_rfl⟩
instance Ty.afe:ek prog 102 [(0,1),(1,1),(2,1)]:=⟨_,underlying102,λw=>by kernel_rfl⟩
instance Ty.aff:ek prog 107 [(0,1),(1,1),(2,1)]:=⟨_,underlying107,λw=>by kernel_rfl⟩
instance Ty.Sb:ek prog 110 [(0,1)]:=⟨_,underlying110,λw=>by kernel_rfl⟩
instance Ty.Sc:ek prog 114 [(0,1),(1,1),(2,1),(3,1)]:=⟨_,underlying114,λw=>by kernel_rfl⟩
instance Ty.afg:ek prog 124 [(0,1),(1,1),(2,1)]:=⟨_,underlying124,λw=>by kernel_rfl⟩
instance Ty.afh:ek prog 135 [(0,1)]:=⟨_,underlying135,λw=>by kernel_rfl⟩
instance Ty.afi:ek prog 177 [(0,1),(1,2),(3,1),(4,1),(5,1),(6,1),(7,1),(8,1)]:=⟨_,underlying177,λw=>by kernel_rfl⟩
instance Ty.afj:ek prog 186 [(0,1),(1,1),(2,1)]:=⟨_,underlying186,λw=>by kernel_rfl⟩
instance Ty.afk:ek prog 192 [(0,1),(1,2),(3,3),(6,32)]:=⟨_,underlying192,λw=>by kernel_rfl⟩
instance Ty.afl:ek prog 203 [(0,1),(1,1),(2,1),(3,1),(4,1),(5,1),(6,1),(7,1),(8,1)]:=⟨_,underlying203,λw=>by kernel_rfl⟩
instance Ty.afm:ek prog 210 [(0,1)]:=⟨_,underlying210,λw=>by kernel_rfl⟩
instance Ty.afn:ek prog 211 [(0,1)]:=⟨_,underlying211,λw=>by kernel_rfl⟩
instance Ty.afo:ek prog 213 [(0,1),(1,1)]:=⟨_,underlying213,λw=>by kernel_rfl⟩
instance Ty.afp:ek prog 221 [(0,1),(1,1),(2,1)]:=⟨_,underlying221,λw=>by kernel_rfl⟩
instance Ty.afq:ek prog 224 [(0,1)]:=⟨_,underlying224,λw=>by kernel_rfl⟩
instance Ty.afr:ek prog 227 [(0,8),(8,1)]:=⟨_,underlying227,λw=>by kernel_rfl⟩
instance Ty.afs:ek prog 236 [(0,1),(1,1),(2,1),(3,1),(4,1)]:=⟨_,underlying236,λw=>by kernel_rfl⟩
instance Ty.aft:ek prog 238 [(0,1),(1,1),(2,1),(3,1),(4,1)]:=⟨_,underlying238,λw=>by kernel_rfl⟩
instance Ty.afu:ek prog 243 [(0,1)]:=⟨_,underlying243,λw=>by kernel_rfl⟩
instance Ty.afv:ek prog 245 [(0,1),(1,1)]:=⟨_,underlying245,λw=>by kernel_rfl⟩
instance Ty.afw:ek prog 247 [(0,2),(2,1),(3,1),(4,1),(5,1),(6,2),(8,1),(9,1),(10,1)]:=⟨_,underlying247,λw=>by kernel_rfl⟩
instance Ty.afx:ek prog 257 [(0,10),(10,1),(11,1),(12,1),(13,1),(14,1),(15,1)]:=⟨_,underlying257,λw=>by kernel_rfl⟩
instance Ty.afy:ek prog 259 [(0,1),(1,1),(2,1),(3,1),(4,1)]:=⟨_,underlying259,λw=>by kernel_rfl⟩
instance Ty.afz:ek prog 288 [(0,1)]:=⟨_,underlying288,λw=>by kernel_rfl⟩
instance Ty.Sd:ek prog 296 [(0,32)]:=⟨_,underlying296,λw=>by kernel_rfl⟩
instance Ty.afA:ek prog 307 [(0,1),(1,1),(2,1)]:=⟨_,underlying307,λw=>by kernel_rfl⟩
instance Ty.afB:ek prog 313 [(0,1),(1,1)]:=⟨_,underlying313,λw=>by kernel_rfl⟩
instance Ty.afC:ek prog 328 [(0,1)]:=⟨_,underlying328,λw=>by kernel_rfl⟩
instance Ty.afD:ek prog 336 [(0,2),(2,1),(3,1),(4,1),(5,1)]:=⟨_,underlying336,λw=>by kernel_rfl⟩
instance Ty.afE:ek prog 427 [(0,1),(1,1)]:=⟨_,underlying427,λw=>by kernel_rfl⟩
abbrev U2:=aJ.of underlying2
abbrev U3:=aJ.of underlying3
abbrev U4:=aJ.of underlying4
abbrev U5:=aJ.of underlying5
abbrev U9:=aJ.of underlying9
abbrev Se:=aJ.of underlying21
abbrev Sf:=aJ.of underlying22
abbrev Sg:=aJ.of underlying28
abbrev Sh:=aJ.of underlying31
abbrev Si:=aJ.of underlying33
abbrev Sj:=aJ.of underlying34
abbrev Sk:=aJ.of underlying35
abbrev Sm:=aJ.of underlying36
abbrev Sp:=aJ.of underlying37
abbrev Sq:=aJ.of underlying38
abbrev Sr:=aJ.of underlying40
abbrev Ss:=aJ.of underlying42
abbrev St:=aJ.of underlying43
abbrev Su:=aJ.of underlying45
abbrev Sv:=aJ.of underlying47
abbrev Sw:=aJ.of underlying49
abbrev Sy:=aJ.of underlying51
abbrev Sz:=aJ.of underlying53
abbrev SB:=aJ.of underlying54
abbrev SC:=aJ.of underlying55
abbrev SD:=aJ.of underlying58
abbrev SE:=aJ.of underlying60
abbrev SF:=aJ.of underlying62
abbrev SG:=aJ.of underlying65
abbrev SH:=aJ.of underlying66
abbrev SI:=aJ.of underlying67
abbrev SJ:=aJ.of underlying68
abbrev SL:=aJ.of underlying69
abbrev SM:=aJ.of underlying70
abbrev SN:=aJ.of underlying72
abbrev SO:=aJ.of underlying74
abbrev SQ:=aJ.of underlying78
abbrev SR:=aJ.of underlying81
abbrev SU:=aJ.of underlying84
abbrev SV:=aJ.of underlying90
abbrev SW:=aJ.of underlying100
abbrev SY:=aJ.of underlying102
abbrev SZ:=aJ.of underlying104
abbrev S4:=aJ.of underlying105
abbrev S5:=aJ.of underlying107
abbrev S6:=aJ.of underlying108
abbrev S7:=aJ.of underlying110
abbrev S8:=aJ.of underlying114
abbrev S9:=aJ.of underlying124
abbrev Ta:=aJ.of underlying133
abbrev Tb:=aJ.of underlying135
abbrev Tc:=aJ.of underlying139
abbrev Td:=aJ.of underlying158
abbrev Te:=aJ.of underlying160
abbrev Tf:=aJ.of underlying162
abbrev Tg:=aJ.of underlying164
abbrev Th:=aJ.of underlying166
abbrev Ti:=aJ.of underlying168
abbrev Tj:=aJ.of underlying169
abbrev Tk:=aJ.of underlying173
abbrev Tm:=aJ.of underlying175
abbrev Tn:=aJ.of underlying177
abbrev To:=aJ.of underlying179
abbrev Tp:=aJ.of underlying183
abbrev Tq:=aJ.of underlying186
abbrev Ts:=aJ.of underlying187
abbrev Tt:=aJ.of underlying192
abbrev Tu:=aJ.of underlying203
abbrev Tv:=aJ.of underlying207
abbrev Tw:=aJ.of underlying210
abbrev Tx:=aJ.of underlying211
abbrev Tz:=aJ.of underlying213
abbrev TA:=aJ.of underlying218
abbrev TB:=aJ.of underlying219
abbrev TC:=aJ.of underlying221
abbrev TD:=aJ.of underlying222
abbrev TF:=aJ.of underlying224
abbrev TG:=aJ.of underlying225
abbrev TH:=aJ.of underlying227
abbrev TJ:=aJ.of underlying230
abbrev TL:=aJ.of underlying232
abbrev TM:=aJ.of underlying233
abbrev TO:=aJ.of underlying236
abbrev TP:=aJ.of underlying238
abbrev TQ:=aJ.of underlying241
abbrev TT:=aJ.of underlying243
abbrev TU:=aJ.of underlying245
abbrev TW:=aJ.of underlying247
abbrev TX:=aJ.of underlying253
abbrev TY:=aJ.of underlying255
abbrev TZ:=aJ.of underlying257
abbrev T4:=aJ.of underlying259
abbrev T5:=aJ.of underlying270
abbrev T6:=aJ.of underlying286
abbrev T7:=aJ.of underlying288
abbrev T8:=aJ.of underlying289
abbrev T9:=aJ.of underlying294
abbrev Ua:=aJ.of underlying296
abbrev Ub:=aJ.of underlying305
abbrev Uc:=aJ.of underlying307
abbrev Ud:=aJ.of underlying313
abbrev Ue:=aJ.of underlying314
abbrev Uf:=aJ.of underlying319
abbrev Ug:=aJ.of underlying320
abbrev Uh:=aJ.of underlying322
abbrev Ui:=aJ.of underlying328
abbrev Uj:=aJ.of underlying333
abbrev Uk:=aJ.of underlying336
abbrev Ul:=aJ.of underlying343
abbrev Um:=aJ.of underlying345
abbrev Un:=aJ.of underlying351
abbrev Uo:=aJ.of underlying366
abbrev Up:=aJ.of underlying423
abbrev Uq:=aJ.of underlying427
abbrev Ur:=aJ.of underlying429
attribute [instance] U2 U3 U4 U5 U9 Se Sf Sg Sh Si Sj Sk Sm Sp Sq Sr Ss St Su Sv Sw Sy Sz SB SC SD SE SF SG SH SI SJ SL SM SN SO SQ SR SU SV SW SY SZ S4 S5 S6 S7 S8 S9 Ta Tb Tc Td Te Tf Tg Th Ti Tj Tk Tm Tn To Tp Tq Ts Tt Tu Tv Tw Tx Tz TA TB TC TD TF TG TH TJ TL TM TO TP TQ TT TU TW TX TY TZ T4 T5 T6 T7 T8 T9 Ua Ub Uc Ud Ue Uf Ug Uh Ui Uj Uk Ul Um Un Uo Up Uq Ur
theorem Ty.mixed:prog.follows .mixedOrders=true:=by kernel_rfl
instance:Ak prog:=⟨Ty.mixed⟩
end
section
theorem U.cv {W w:World}{L R:List SP}{n c e:Nat}{cs:List Value}(I:U W w L)(ad:Option Addr)(bs:List UInt8)[k:fQ L ad n c e 1 cs R](h:cs=bc bs)(hn:bs.length=n):aW w ad n bs:=by
 subst h;refine⟨hn,λe=>?_,λx hx hp=>?_⟩
 ·rcases lH n with h0 | h0
  ·exact h0
  ·obtain⟨b,off,e2,_⟩:=I.bU ad h0;rw[e]at e2;cases e2
 ·obtain⟨b,off,e2,hr⟩:=I.bU ad hp;exact⟨b,off,by rw[hx]at e2;cases e2;rfl,hr⟩
theorem aW.nil {w:World}{ad:Option Addr}:aW w ad 0 []:=⟨rfl,λ_=>rfl,λ_ _ h=>absurd h (by decide)⟩
theorem aW.gD {W w:World}{L:List SP}{ad:Option Addr}{m:Nat}{bs:List UInt8}(h:aW W ad m bs)(I:U W w L):aW w ad m bs:=by
 refine⟨h.1,h.2.1,λx hx h0=>?_⟩;obtain⟨b,off,rfl,hr⟩:=h.2.2 x hx h0;refine⟨b,off,rfl,λj v hj=>?_⟩;have h1:=hr j v hj;rw[I.gD (a:=⟨b,off+j,none⟩) (World.block_lt_of_cell? _ _ h1)];exact h1
theorem rF (ad:Option Addr)(c sz:Nat):ft ad 0 c sz=ad:=by
 unfold ft;split
 ·rfl
 ·cases ad with
  | none=>rfl
  | some a=>simp[Addr.add]
def k6 (w:World)(ad:Option Addr)(m:Nat)(p:List (List UInt8)):Prop :=
 p.length=m∧(0<m→∃ b off,ad=some ⟨b,off,none⟩∧∀ j bs,p[j]?=some bs→∃ av c',w.cell? ⟨b,off+j,none⟩=some (.slice av bs.length c')∧aW w av bs.length bs)
theorem k6.take {w:World}{ad:Option Addr}{m n:Nat}{p:List (List UInt8)}(h:k6 w ad m p)(hn:n≤m):k6 w ad n (p.take n):=by
 refine⟨by rw[et,h.1];omega,λh0=>?_⟩;obtain⟨b,off,h1,h2⟩:=h.2 (by omega);refine⟨b,off,h1,λj bs hj=>?_⟩;rw[vP]at hj;by_cases qE:j<n
 ·rw[ak qE]at hj;exact h2 j bs hj
 ·rw[ag qE]at hj;cases hj
abbrev ec:=Option Addr×Nat×List UInt8
def aL (x:ec):Value:=.slice x.1 x.2.2.length x.2.1
def a7 (x:ec):SP:=Sl 5 1 x.1 x.2.2.length x.2.1 (bc x.2.2)
def ch (ad:Option Addr)(n c:Nat)(p:List (List UInt8)):SP:=λh=>∃ xs:List ec,(xs.map (·.2.2)=p∧p.length=n)∧cn [Sl 22 1 ad n c (xs.map aL),ah a7 xs] h
section
variable {W w:World}{L L' R:List SP}{ad:Option Addr}{n c:Nat}{p:List (List UInt8)}{xs:List ec}
theorem ch.open (I:U W w (ch ad n c p::L)):∃ xs:List ec,xs.map (·.2.2)=p∧p.length=n∧U W w (Sl 22 1 ad n c (xs.map aL)::ah a7 xs::L):=by
 obtain⟨xs,⟨h1,h2⟩,h3⟩:=I.jL (ι:=List ec) (p:=λxs=>xs.map (·.2.2)=p∧p.length=n) (B:=λxs h=>cn [Sl 22 1 ad n c (xs.map aL),ah a7 xs] h) (λh ⟨xs,h1,h2⟩=>⟨xs,h1,h2⟩);exact⟨xs,h1,h2,h3.open λ_ h=>h⟩
theorem ch.close (I:U W w L)[k:fJ L (Sl 22 1 ad n c (xs.map aL)::ah a7 xs::L') R](h1:xs.map (·.2.2)=p)(h2:p.length=n):U W w (ch ad n c p::L') :=
 U.shut (M:=[_,_]) (I.sub (M:=Sl 22 1 ad n c (xs.map aL)::ah a7 xs::L')) (λ_ x=>⟨xs,⟨h1,h2⟩,x⟩)
theorem ch.le (I:U W w (ch ad n c p::L)):p.length=n∧n≤c:=by
 obtain⟨xs,h1,h2,h3⟩:=ch.open I;exact⟨h2,(h3.sl ad).2⟩
theorem ch.nil (I:U W w L):U W w (ch none 0 0 []::L):=by
 have h:U W w (Sl 22 1 none 0 0 (([]:List ec).map aL)::ah a7 []::L):=(I.iY (f:=a7)).bN 22 1 none;exact ch.close (xs:=[]) h rfl rfl
theorem ch.rd (I:U W w (ch ad n c p::L)):k6 w ad n p:=by
 obtain⟨xs,h1,h2,h3⟩:=ch.open I;refine⟨h2,λh0=>?_⟩;obtain⟨b,off,rfl,hr⟩:=h3.bU ad h0;refine⟨b,off,rfl,λj bs hj=>?_⟩;rw[← h1,bn]at hj;obtain⟨x,hx,rfl⟩:=rG.1 hj;obtain⟨ca,g5⟩:=a2.1 hx;refine⟨x.1,x.2.1,hr j _ (by rw[bn,hx];rfl),?_⟩;have h4:=(h3.perm (cZ _ _ _)).fy ca;rw[g5]at h4;have h5:U W w (Sl 5 1 x.1 x.2.2.length x.2.1 (bc x.2.2)::_):=h4;exact h5.cv x.1 x.2.2 rfl rfl
theorem sY {bs:List UInt8}{m:Nat}(I:U W w L)(hr:∀ w',U W w' L→aW w' ad m bs)(hb:m≤1099511627776) :
   Calls prog 95 #[.slice ad m c] w λe w'=>∃ av c',e=.returned (.slice av m c')∧U W w' (Sl 5 1 av m c' (bc bs)::L):=by
 obtain⟨h1,h2,h3⟩:=hr _ I;cases ad with
 | none =>
  obtain rfl:=h2 rfl;obtain rfl:bs=[]:=g4 h1;refine EN func95 ntmps95 rfl rfl λa E=>?_;refine RN 6 E I λa E=>?_;replace E:=E.ei 4;refine RT 3 E I ?_;exact⟨_,_,rfl,I.bN _ _ _⟩
 | some a =>
  rcases lH m with h0 | h0
  ·subst h0;obtain rfl:bs=[]:=g4 h1;refine EN func95 ntmps95 rfl rfl λa E=>?_;refine RN 6 E I λa E=>?_;replace E:=E.aM 4;refine RN 2 E I λa E=>?_;refine ux E rfl I underlying22 Ty.t5 rfl λb5 a w E I ho=>?_;clear ho;refine RN 1 E I λa E=>?_;refine Dn E rfl underlying22 Ty.t5 rfl (bf _) λa E=>?_;refine RT 1 E I ?_;exact⟨_,_,rfl,I⟩
  ·obtain⟨b,off,rfl,_⟩:=h3 a rfl h0;refine EN func95 ntmps95 rfl rfl λa E=>?_;refine RN 6 E I λa E=>?_;replace E:=E.aM 4;refine RN 2 E I λa E=>?_;refine ux E rfl I underlying22 Ty.t5 rfl λb5 a w E I ho=>?_;clear ho;refine RN 1 E I λa E=>?_;obtain⟨b',dG,hx,c7⟩:=(hr _ I.tail).2.2 _ rfl h0;cases hx;refine cQ E rfl I underlying22 Ty.t5 rfl rfl c7 (by rw[dy,h1,fU]) (ep bs) h0 (by decide) (by omega) λsZ rH a w E I=>?_;rw[eE]at E I;refine RT 1 E I ?_;exact⟨_,_,rfl,I⟩
theorem qF (a b:List UInt8):((⟨a.toArray⟩:ByteArray).data.toList==(⟨b.toArray⟩:ByteArray).data.toList)=(a==b):=rfl
theorem I9 {a b:List UInt8}{ad2:Option Addr}{m n c2:Nat}(de:aW w ad m a)(lJ:aW w ad2 n b) :
   Calls prog 313 #[.slice ad m c,.slice ad2 n c2] w λe w'=>e=.returned (.bool (a==b))∧w'=w:=by
 have I:=U.start w;refine EN func313 ntmps313 rfl rfl λa E=>?_;refine RN 4 E I λa E=>?_;refine SS E (lK E underlying22 underlying5 underlying9 (de)) λa E=>?_;refine RN 1 E I λa E=>?_;refine SS E (lK E underlying22 underlying5 underlying9 (lJ)) λa E=>?_;refine RN 0 E I λa E=>?_;refine SS E (sQ E) λa E=>?_;refine RT 1 E I ?_;exact⟨by rw[qF],rfl⟩
theorem Us {p q:List (List UInt8)}{k:Nat}{x y:List UInt8}(h:p.take k=q.take k)(hx:p[k]?=some x)(hy:q[k]?=some y):(p.take (k+1)=q.take (k+1))↔x=y:=by
 obtain⟨h1,rfl⟩:=a2.1 hx;obtain⟨h2,rfl⟩:=a2.1 hy;rw[jw h1,jw h2,h];exact⟨λe=>by have:=List.append_cancel_left e;simpa using this,λe=>by rw[e]⟩
theorem Ut {p q:List (List UInt8)}{ad2:Option Addr}{m c2:Nat}(hp:k6 w ad m p)(hq:k6 w ad2 m q)(hb:m≤1099511627776) :
   Calls prog 312 #[.slice ad m c,.slice ad2 m c2,.func (.func 313) #[] #[]] w λe w'=>e=.returned (.bool (p==q))∧w'=w:=by
 have eF:=hp.1;have Uu:=hq.1;obtain⟨W,x6⟩:∃ W,w=W:=⟨w,rfl⟩;have I:U W w []:=x6 ▸ U.start w;refine EN func312 ntmps312 rfl rfl λa E=>?_;refine RN 9 E I λa E=>?_;rw[Ru]at E;replace E:=E.aM 14;refine RN 6 E I λa E=>?_;refine aQ (λμ a w=>∃ k:Nat,(μ=m-k∧k≤m∧p.take k=q.take k∧w=W)∧Fr a 32 [(1,.slice ad2 m c2),(2,.func (.func 313) #[] #[]),(15,.slice ad m c),(16,.int .i64 m),(17,.int .i64 k)]∧U W w []) (m) (⟨0,⟨by simp,by simp,by simp,x6⟩,E.ab [1,2,15,16,17],I⟩) ?_;clear E I;rintro μ a w ⟨k,⟨rfl,hk,DJ,An⟩,E,I⟩;subst An x6;refine IF 3 E I (λao a E=>?_) λao a E=>?_
 ·
  refine RN 2 E I λa E=>?_;obtain⟨b1,o1,rfl,h1⟩:=hp.2 (by omega);obtain⟨b2,qG,rfl,h2⟩:=hq.2 (by omega);have ew:p[k]?=some p[k]:=aD (by omega);have dj:q[k]?=some q[k]:=aD (by omega);obtain⟨cH,c1',Uv,fg⟩:=h1 k _ ew;obtain⟨dq,c2',Uw,e5⟩:=h2 k _ dj;have Ja:=Us DJ ew dj;refine RN 2 E I λa E=>?_;refine SS E (ae E (Uv)) λa E=>?_;refine RN 6 E I λa E=>?_;refine SS E (ae E (Uw)) λa E=>?_;refine CL 5 E I (I9 fg e5) λa w E hx=>?_;obtain rfl:=hx;refine IF 1 E (U.start _) (λay a E=>?_) λay a E=>?_
  ·
   have bD:¬ p[k]=q[k]:=by simpa using ay
   refine RT 2 E (U.start _) ?_;refine⟨?_,rfl⟩;have:(p==q)=false:=by
    rw[l5];intro e;exact bD (Ja.1 (by rw[e]))
   rw[this]
  have heq:p[k]=q[k]:=by simpa using ay
  refine RN 2 E (U.start _) λa E=>?_;exact⟨m-(k+1),by omega,k+1,⟨rfl,by omega,Ja.2 heq,rfl⟩,E.ab [1,2,15,16,17],U.start _⟩
 refine RT 2 E I ?_;obtain rfl:k=m:=by omega
 rw[gg (by omega),gg (by omega)]at DJ;subst DJ;exact⟨by rw[beq_self_eq_true],rfl⟩
def iK (w:World)(ad:Option Addr)(xs:List ec):Prop:=(0<xs.length→∃ b off,ad=some ⟨b,off,none⟩∧Rd w b off (xs.map aL))∧∀ x∈xs,aW w x.1 x.2.2.length x.2.2
theorem iK.bb (h:iK w ad xs):k6 w ad xs.length (xs.map (·.2.2)):=by
 refine⟨by simp,λh0=>?_⟩;obtain⟨b,off,h1,h2⟩:=h.1 h0;refine⟨b,off,h1,λj bs hj=>?_⟩;rw[bn]at hj;obtain⟨x,hx,rfl⟩:=rG.1 hj;exact⟨x.1,x.2.1,h2 j _ (by rw[bn,hx];rfl),h.2 x (bH hx)⟩
theorem U.mF {m:Nat}(I:U W w (Sl 22 1 ad m c (xs.map aL)::ah a7 xs::L)):iK w ad xs:=by
 have hm:xs.length=m:=by have:=(I.sl ad).1;simpa using this
 refine⟨λh0=>I.bU ad (by omega),λx hx=>?_⟩;obtain⟨i,hi,rfl⟩:=List.mem_iff_getElem.1 hx;have h4:=(I.perm (cZ _ _ _)).fy hi;have h5:U W w (Sl 5 1 xs[i].1 xs[i].2.2.length xs[i].2.1 (bc xs[i].2.2)::_):=h4;exact h5.cv xs[i].1 xs[i].2.2 rfl rfl
end
end
end Go.Proofs.YteoldcfapaiobaaGreat
