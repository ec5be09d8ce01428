/- Rows of structs: a list laid out flat, so many cells each. -/
import Derived.Test.YteoldcfapaiobaaGreatE00Sl
import Derived.Laws.RangeAny
import Derived.Laws.Strings
import Derived.Laws.MakeOwn
import Derived.KernelRfl
import Derived.Test.YteoldcfapaiobaaGreatProg
namespace Go.Proofs.YteoldcfapaiobaaGreat
open Tryz
open List (all_eq_true drop_zero take_succ_cons getElem?_take getElem?_drop set_eq_take_append_cons_drop perm_middle drop_drop take_append nil_append map_cons set_append_right set_append_left getElem?_cons_succ mem_range getElem?_toArray drop_eq_nil_of_le ext_getElem getElem_map eraseIdx_eq_take_drop_succ cons_append getElem_set_self eraseIdx_set_eq take_length append_nil)
open Go.RowKit
set_option linter.unusedVariables false
set_option linter.unusedSimpArgs false
set_option maxRecDepth 10000
set_option synthInstance.maxSize 4000
set_option synthInstance.maxHeartbeats 400000
section
theorem Qv {x:Int}:decide (x≠x)=false:=by simp
def rows {α:Type}(f:α→List Value)(l:List α):List Value:=l.flatMap f
section
variable {α:Type}{f:α→List Value}{sz:Nat}
theorem nX (x:α)(l:List α):rows f (x::l)=f x++rows f l:=rfl
theorem kj (l m:List α):rows f (l++m)=rows f l++rows f m:=by simp[rows]
theorem zk (h1:∀ x,∀ v∈f x,v.oneCell'=true)(l:List α):∀ v∈rows f l,v.oneCell'=true:=by
 intro v hv;simp only[rows,List.mem_flatMap]at hv;obtain⟨x,_,hx⟩:=hv;exact h1 x v hx
theorem ja (hf:∀ x,(f x).length=sz)(l:List α):(rows f l).length=l.length*sz:=by
 induction l with
 | nil=>simp[rows]
 | cons x l ih=>rw[nX,aL,hf,ih,eO,Nat.succ_mul,Nat.add_comm]
theorem HW (hf:∀ x,(f x).length=sz)(l:List α)(i:Nat):(rows f l).drop (i*sz)=rows f (l.drop i):=by
 induction i generalizing l with
 | zero=>simp
 | succ i ih =>
  cases l with
  | nil=>simp[rows]
  | cons x l=>rw[nX,Nat.succ_mul,Nat.add_comm,← drop_drop,List.drop_left' (hf x),ih,List.drop_succ_cons]
theorem Qw (hf:∀ x,(f x).length=sz)(l:List α)(i:Nat):(rows f l).take (i*sz)=rows f (l.take i):=by
 induction i generalizing l with
 | zero=>simp[rows]
 | succ i ih =>
  cases l with
  | nil=>simp[rows]
  | cons x l =>
   rw[nX,Nat.succ_mul,Nat.add_comm,take_append,hf,fX (by rw[hf];omega),show sz+i*sz-sz=i*sz from by omega,ih,take_succ_cons,nX]
theorem vh (hf:∀ x,(f x).length=sz)(l:List α)(i:Nat)(h:i<l.length):((rows f l).drop (i*sz)).take sz=f l[i]:=by
 rw[HW hf,kl h,nX,List.take_left' (hf _)]
theorem Cy (hf:∀ x,(f x).length=sz)(l:List α){i k:Nat}{v:Value}(h:i<l.length)(hv:(f l[i])[k]?=some v):(rows f l)[i*sz+k]?=some v:=by
 have hk:k<sz:=by rw[← hf l[i]];exact (a2.1 hv).1
 have:=vh hf l i h;rw[← this,getElem?_take,ak hk,getElem?_drop]at hv;exact hv
theorem HX (hf:∀ x,(f x).length=sz)(l:List α){i:Nat}(x:α)(h:i<l.length):cG (rows f l) (i*sz) (f x)=rows f (l.set i x):=by
 rw[set_eq_take_append_cons_drop,ak h,kj,nX,cG,Qw hf,hf,show i*sz+sz=(i+1)*sz from by rw[Nat.succ_mul],HW hf,ds]
theorem p7 (hf:∀ x,(f x).length=sz)(l:List α){i k:Nat}{v:Value}(x:α)(h:i<l.length)(hk:k<sz)(hx:(f l[i]).set k v=f x):(rows f l).set (i*sz+k) v=rows f (l.set i x):=by
 have h0:l=l.take i++l[i]::l.drop (i+1):=by rw[← kl h,jK]
 have vi:l.set i x=l.take i++x::l.drop (i+1):=by rw[set_eq_take_append_cons_drop,ak h]
 rw[vi,kj,nX]
 conv=>lhs;rw[h0,kj,nX]
 have hl:(rows f (l.take i)).length=i*sz:=by rw[ja hf];simp;rw[Nat.min_eq_left (by omega)]
 rw[set_append_right _ _ (by omega),hl,show i*sz+k-i*sz=k from by omega,set_append_left _ _ (by rw[hf];exact hk),hx]
theorem Qx (A B C vs:List Value)(k:Nat)(hk:k+vs.length≤B.length):cG (A++(B++C)) (A.length+k) vs=A++(cG B k vs++C):=by
 have e1:(A++(B++C)).take (A.length+k)=A++B.take k:=by
  rw[take_append,fX (by omega),show A.length+k-A.length=k from by omega,List.take_append_of_le_length (by omega)]
 have e2:(A++(B++C)).drop (A.length+k+vs.length)=B.drop (k+vs.length)++C:=by
  rw[List.drop_append,drop_eq_nil_of_le (by omega),show A.length+k+vs.length-A.length=k+vs.length from by omega,List.drop_append_of_le_length (by omega),nil_append]
 rw[cG,e1,e2,cG];simp only[ds]
theorem Qy (hf:∀ x,(f x).length=sz)(l:List α){i k:Nat}{vs:List Value}(x:α)(h:i<l.length)(hk:k+vs.length≤sz)(hx:cG (f l[i]) k vs=f x):cG (rows f l) (i*sz+k) vs=rows f (l.set i x):=by
 have h0:rows f l=rows f (l.take i)++(f l[i]++rows f (l.drop (i+1))):=by
  rw[← nX,← kj,← kl h,jK]
 have vi:l.set i x=l.take i++x::l.drop (i+1):=by rw[set_eq_take_append_cons_drop,ak h]
 have hl:(rows f (l.take i)).length=i*sz:=by rw[ja hf];simp;rw[Nat.min_eq_left (by omega)]
 rw[vi,kj,nX,h0,← hl,Qx _ _ _ _ _ (by rw[hf];exact hk),hx]
theorem Qz (hf:∀ x,(f x).length=sz)(l:List α){i k m:Nat}(h:i<l.length)(hk:k+m≤sz):((rows f l).drop (i*sz+k)).take m=((f l[i]).drop k).take m:=by
 have:=vh hf l i h;rw[← this,List.drop_take,List.take_take,drop_drop,Nat.min_eq_left (by omega)]
end
def fn (m:Nat)(g:Nat→Value):List Value:=(List.range m).map g
theorem HY (m:Nat)(g:Nat→Value):(fn m g).length=m:=by simp[fn]
theorem HZ {m k:Nat}(g:Nat→Value)(h:k<m):(fn m g)[k]?=some (g k):=by simp[fn,h]
theorem Cz {m:Nat}{g g':Nat→Value}(h:∀ k,k<m→g k=g' k):fn m g=fn m g':=by
 simp only[fn];exact List.map_congr_left λk hk=>h k (mem_range.1 hk)
theorem H0 {m k:Nat}(g:Nat→Value)(v:Value):(fn m g).set k v=fn m (λj=>if j=k then v else g j):=by
 apply ext_getElem (by simp[fn]);intro i h1 h2;simp only[fn,List.getElem_set,getElem_map,List.getElem_range];by_cases h:k=i
 ·simp[h]
 ·rw[ag h,ag (λe=>h e.symm)]
theorem QA {m:Nat}{g:Nat→Value}(h:∀ k,(g k).oneCell'=true):∀ v∈fn m g,v.oneCell'=true:=by
 intro v hv;simp only[fn,cV]at hv;obtain⟨k,_,rfl⟩:=hv;exact h k
theorem QB {m k n:Nat}(g:Nat→Value)(h:k+n≤m):((fn m g).drop k).take n=fn n (λj=>g (k+j)):=by
 apply ext_getElem (by simp[fn];omega);intro i h1 h2;simp[fn]
def ck (g:Nat→Int)(c:Nat)(v:Int):Nat→Int:=λj=>if j=c then v else g j
def ints (k:IntKind)(m:Nat)(g:Nat→Int):List Value:=fn m (λj=>.int k (g j))
theorem dd (k:IntKind)(m:Nat)(g:Nat→Int):(ints k m g).length=m:=HY _ _
theorem fN {k:IntKind}{m j:Nat}(g:Nat→Int)(h:j<m):(ints k m g)[j]?=some (.int k (g j)):=HZ _ h
theorem tD {k:IntKind}{m:Nat}{g:Nat→Int}:∀ v∈ints k m g,v.oneCell'=true:=QA λ_=>rfl
theorem ints_set {k:IntKind}{m j:Nat}(g:Nat→Int)(v:Int):(ints k m g).set j (.int k v)=ints k m (λi=>if i=j then v else g i):=by
 rw[ints,H0];exact Cz λi _=>by by_cases h:i=j <;> simp[h]
theorem QC {k:IntKind}{m j n:Nat}(g:Nat→Int)(h:j+n≤m):((ints k m g).drop j).take n=ints k n (λi=>g (j+i)):=QB _ h
theorem xf {k:IntKind}{m:Nat}{g g':Nat→Int}(h:∀ j,j<m→g j=g' j):ints k m g=ints k m g':=Cz λj hj=>by rw[h j hj]
class vj (fL:List (List Value))(out:outParam (List Value)):Prop where h:fL.flatten=out
instance vj.nil:vj [] []:=⟨rfl⟩
instance vj.one {x fL out}[k:vj fL out]:vj ([x]::fL) (x::out):=⟨by rw[List.flatten_cons,k.h];rfl⟩
instance l6.ints {k m g}:l6 (ints k m g) m:=⟨dd k m g⟩
section
variable {P:Program}{ops:Array Oper}{Q:Exit→Act→World→Prop}{a:Act}{w w' W:World}{K:Act→World→Prop}{n d:Nat}{l:List (Nat×Value)}{v:Value}{L R:List SP}
theorem vk {x y k i j t u dst ty ps af g}(E:Fr a n l)(h:j≠0)(hi:k.wrap (i.tdiv j)=i.tdiv j)[e:Ev l x (.int k i)][f:Ev l y (.int k j)] :
   (execOp a.eval ⟨dst,.binOp .quo t x y u,ty,ps,af,g⟩).run P w=.ok (.value (.int k (i.tdiv j))) w:=by
 have:k.wrap (i.tdiv j)=i.tdiv j:=hi;simp[execOp,e.ev a n E,f.ev a n E,eqGuard,binOp,Op.intDiv,h,this]
theorem zl {x y k i j t u dst ty ps af g}(E:Fr a n l)(h:j≠0)[e:Ev l x (.int k i)][f:Ev l y (.int k j)] :
   (execOp a.eval ⟨dst,.binOp .rem t x y u,ty,ps,af,g⟩).run P w=.ok (.value (.int k (i.tmod j))) w:=by
 simp[execOp,e.ev a n E,f.ev a n E,eqGuard,binOp,Op.intDiv,h]
theorem qO (i:Nat)(j:Nat):(i:Int).tdiv (j:Int)=((i/j:Nat):Int):=by rw[Int.natCast_ediv,Int.tdiv_eq_ediv_of_nonneg (by omega)]
theorem nY (i:Nat)(j:Nat):(i:Int).tmod (j:Int)=((i%j:Nat):Int):=by rw[Int.natCast_emod,Int.tmod_eq_emod_of_nonneg (by omega)]
theorem r5 {x y k i j vs t el m ee z a1 dst ty ps af g}(E:Fr a n l)(hu:P.underlying t=some (.array m el))(hd:P.underlying el=some ee)(h1:nS ee=true)(hi:TI P el z 1 a1)
   [ev:Ev l x (.agg (List.toArray vs))] [gV:Ev l y (.int k i)] [nj:en i j] (hlt:j<m) (hv:vs[j]?=some v) :
   (execOp a.eval ⟨dst,.index t x y,ty,ps,af,g⟩).run P w=.ok (.value v) w:=by
 have:=nj.h;subst this;have xg:(part el vs.toArray j).run P w=.ok v w:=by
  have CA:(isAgg el).run P w=.ok false w:=by
   simp only[isAgg,Sem.run_bind,eL hd,Result.andThen_ok];cases ee <;> first | rfl | (simp[nS]at h1)
  simp[part,CA,hv]
 simp[execOp,ev.ev a n E,gV.ev a n E,Instr.index,asIntOf,eL hu,l3 hi,hlt,xg]
theorem QD {x b off m t el z sz a1 dst ty ps af g}(E:Fr a n l)[ev:Ev l x (.pointer (some ⟨b,off,none⟩))](ht:P.underlying t=some (.array m el))(hi:TI P el z sz a1) :
   (execOp a.eval ⟨dst,.slice t x none none none,ty,ps,af,g⟩).run P w=.ok (.value (.slice (some ⟨b,off,none⟩) m m)) w:=by
 simp[execOp,ev.ev a n E,Instr.sliceAt,Instr.sliceBounds,eL ht,l3 hi,Instr.sureAddr,la]
theorem gj {x k k' i s t dst ty ps af g}(E:Fr a n l)(I:P.underlying s=some (.int k))(ht:P.underlying t=some (.int k'))[ev:Ev l x (.int k i)] :
   (execOp a.eval ⟨dst,.convert s t x,ty,ps,af,g⟩).run P w=.ok (.value (.int k' (k'.wrap i))) w:=by
 simp[execOp,ev.ev a n E,convert,eL I,eL ht,Conv.intToInt]
theorem o3 {x k k' i s t dst ty ps af g}(E:Fr a n l)(I:P.underlying s=some (.int k))(ht:P.underlying t=some (.int k'))(hw:k'.wrap i=i)[ev:Ev l x (.int k i)] :
   (execOp a.eval ⟨dst,.convert s t x,ty,ps,af,g⟩).run P w=.ok (.value (.int k' i)) w:=by
 rw[gj E I ht,hw]
theorem CB {t el m z zs sz a1 QE zm be parts fL out dst ty ps af g}(E:Fr a n l)(hu:P.underlying t=some (.array m el))(hi:TI P t z sz a1)[Cp:Cells z zs](he:TI P el QE zm be)
   [rX:tz l parts 0 fL] (hc:(fL.all λc=>c.length==zm)=true) (hz:zs.length=fL.length*zm) [iL:vj fL out] :
   (execOp a.eval ⟨dst,.build t (List.toArray parts),ty,ps,af,g⟩).run P w=.ok (.value (.agg out.toArray)) w:=by
 obtain⟨vs,e1,e2⟩:=rX.h a n E;have hf:=Cn (sz:=zm) fL vs 0 [] zs e2 (λc w9=>by simpa using all_eq_true.1 hc c w9) (by simp) hz;simp only[nil_append]at hf;rw[iL.h]at hf;simp only[execOp,Sem.run_bind,Instr.build,tv hi,Result.andThen_ok,eL hu,l3 he,Cp.h,List.map_toArray,e1];simp[hf]
theorem QF {x y b off m t el z sz a1 k i j dst ty ps af g}(E:Fr a n l)[ev:Ev l x (.pointer (some ⟨b,off,none⟩))](ht:P.underlying t=some (.array m el))(hi:TI P el z sz a1)[gV:Ev l y (.int k i)][nj:en i j](h:j<m) :
   (execOp a.eval ⟨dst,.slice t x (some y) none none,ty,ps,af,g⟩).run P w=.ok (.value (.slice (some ⟨b,off+j*sz,none⟩) (m-j) (m-j))) w:=by
 have:=nj.h;subst this;have h2:¬ (m=j):=by omega
 simp[execOp,ev.ev a n E,gV.ev a n E,Instr.sliceAt,Instr.sliceBounds,Instr.sliceBound,asIntOf,eL ht,l3 hi,Instr.sureAddr,la,Nat.le_of_lt h,h2]
theorem QG {x y t t2 el z sz a1 b off m c b2 gN zn c2 k vs e cs ty ps af g}(E:Fr a n l)(hw:Region.wanted ⟨some d,.call ⟨.builtin .copy,#[x,y],#[t,t2]⟩,ty,ps,af,g⟩ (yielded ops a.tmps)=true)(I:U W w L)
   (ht:P.underlying t=some (.slice el)) (hi:TI P el z sz a1) (hf:okB d n l=true) [ev:Ev l x (.slice (some ⟨b,off,none⟩) m c)] [gV:Ev l y (.slice (some ⟨b2,gN,none⟩) zn c2)] [Ct:fC L b e cs R]
   (hk:min zn m=k) (hr:Rd w b2 gN vs) (hl:vs.length=k*sz) (h1:∀ v∈vs,v.oneCell'=true) (hle:off+vs.length≤cs.length)
   (h:∀ a' w',Fr a' n ((d,.int .i64 k)::l)→U W w' (aa b e (cG cs off vs)::R)→K a' w'):cI P ops Q ⟨some d,.call ⟨.builtin .copy,#[x,y],#[t,t2]⟩,ty,ps,af,g⟩ K a w:=by
 obtain⟨i,ld,dH,kH,p0⟩:=info_parts hi.h;have gU:=I.jJ b;have nT:∀ j v,vs[j]?=some v→w.cell? ((⟨b2,gN,none⟩:Addr).add j)=some v:=λj v hj=>by rw[la];exact hr j v hj
 have iZ:=run_firstCells_some (P:=P) w sz k ⟨b2,gN,none⟩ zn c2 vs hl nT;have aS:=run_storeCells_at (P:=P) b off e vs 0 cs.toArray w gU.has.2 (by simpa using hle) h1;have qL:(storeCells ⟨b,off,none⟩ vs).run P w=.ok () (w.setRow b (cG cs off vs).toArray):=by simpa [cG] using aS
 refine bo (v:=.int .i64 k) (w':=w.setRow b (cG cs off vs).toArray) E hw ?_ hf (λa' db=>h a' _ db gU.setRow);simp[execOp,resolve,ev.ev a n E,gV.ev a n E,invoke,builtin,Builtin.copy_,eL ht,sizeOf,typeInfo,ld,kH,Builtin.lenOf,hk,iZ,qL,goInt]
end
def ah {α:Type}(f:α→SP)(l:List α):SP:=λh=>cn (l.map f) h
section
variable {α:Type}{f:α→SP}{W w:World}{L:List SP}
theorem r7 {β:Type}(l:List β){i:Nat}(h:i<l.length):l.Perm (l[i]::l.eraseIdx i):=by
 conv=>lhs;rw[← jK i l,kl h]
 rw[eraseIdx_eq_take_drop_succ];exact perm_middle
theorem U.iN (I:U W w L):U W w (ah f []::L) :=
 ⟨I.below,let ⟨h,p,q⟩:=I.sat;⟨h,p,λ_=>none,h,λ_=>.inl rfl,λ_ _ e=>(by cases e),Hp.Sub.refl _,trivial,q⟩⟩
theorem U.fu {l:List α}(I:U W w (ah f l::L)){i:Nat}(h:i<l.length):U W w (f l[i]::ah f (l.eraseIdx i)::L):=by
 have h1:=I.open (M:=l.map f) (λ_ x=>x);have hp:=((r7 l h).map f).append_right L;have h2:=h1.perm hp;simp only[map_cons,cons_append]at h2;refine U.perm (L:=ah f (l.eraseIdx i)::f l[i]::L) ?_ (List.Perm.swap _ _ _);exact U.shut (M:=(l.eraseIdx i).map f) (h2.perm perm_middle.symm) (λ_ x=>x)
theorem U.vl {l:List α}{x:α}(I:U W w (f x::ah f l::L)):U W w (ah f (x::l)::L):=by
 have h1:=(I.perm (List.Perm.swap _ _ _)).open (M:=l.map f) (λ_ x=>x);exact U.shut (M:=(x::l).map f) (h1.perm perm_middle) (λ_ x=>x)
theorem U.H2 {l l':List α}(I:U W w (ah f l::L))(hp:l.Perm l'):U W w (ah f l'::L):=by
 have h1:=I.open (M:=l.map f) (λ_ x=>x);exact U.shut (M:=l'.map f) (h1.perm ((hp.map f).append_right L)) (λ_ x=>x)
theorem U.kI {l:List α}{x:α}{i:Nat}(h:i<l.length)(I:U W w (f x::ah f (l.eraseIdx i)::L)):U W w (ah f (l.set i x)::L):=by
 refine I.vl.H2 ?_;have hi:i<(l.set i x).length:=by simpa using h
 have:=r7 (l.set i x) hi;rw[getElem_set_self,eraseIdx_set_eq]at this;exact this.symm
theorem U.jM {l:List α}{x:α}(I:U W w (f x::ah f l::L)):U W w (ah f (l++[x])::L) :=
 I.vl.H2 (List.perm_append_comm (l₁:=[x]))
end
end
section
def o4 (s:ByteArray)(pos:Nat):List Value:=if pos<s.size then [.bool true,.int .i64 pos,.int .i32 (Utf8.decode s pos).1] else [.bool false]
def dX (s:ByteArray)(pos:Nat):Nat:=if pos<s.size then pos+(Utf8.decode s pos).2 else pos
theorem CC (s:ByteArray)(pos:Nat):(o4 s pos)[0]?=some (.bool (decide (pos<s.size))):=by
 by_cases h:pos<s.size <;> simp[o4,h]
theorem QI {s:ByteArray}{pos:Nat}(h:pos<s.size):(o4 s pos)[1]?=some (.int .i64 pos):=by simp[o4,h]
theorem CD {s:ByteArray}{pos:Nat}(h:pos<s.size):(o4 s pos)[2]?=some (.int .i32 (Utf8.decode s pos).1):=by simp[o4,h]
section
variable {P:Program}{ops:Array Oper}{Q:Exit→Act→World→Prop}{a:Act}{w w' W:World}{K:Act→World→Prop}{o:Oper}{n d:Nat}{l:List (Nat×Value)}{v:Value}{L R:List SP}
theorem CE {t x s ty ps af g}(E:Fr a n l)(hw:Region.wanted ⟨some d,.range t x,ty,ps,af,g⟩ (yielded ops a.tmps)=true)(I:U W w L)(ht:P.underlying t=some .string)[ev:Ev l x (.string s)]
   (hf:okB d n l=true) (h:∀ b a' w',Fr a' n ((d,.pointer (some ⟨b,0,none⟩))::l)→U W w' (kG b (.stringIter s 0)::L)→Old w w'→K a' w'):cI P ops Q ⟨some d,.range t x,ty,ps,af,g⟩ K a w:=by
 refine bo (v:=.pointer (some ⟨w.heap.size,0,none⟩)) (w':=w.alloc (.stringIter s 0)) E hw ?_ hf (λa' db=>h _ _ _ db (I.alloc _) (Old.alloc _ _));have:=run_range_string (P:=P) w t s ht;simp[execOp,ev.ev a n E,this,World.iter]
class CF (L:List SP)(b:Nat)(o:outParam Obj)(R:outParam (List SP)):Prop where perm:L.Perm (kG b o::R)
instance CF.head {L b o}:CF (kG b o::L) b o L:=⟨List.Perm.refl _⟩
theorem CG {x s pos b ty ps af g}(E:Fr a n l)(hw:Region.wanted ⟨some d,.next x true,ty,ps,af,g⟩ (yielded ops a.tmps)=true)(I:U W w L)[ev:Ev l x (.pointer (some ⟨b,0,none⟩))][k:CF L b (.stringIter s pos) R]
   (hf:okB d n l=true) (h:∀ a' w',Fr a' n ((d,.tuple (List.toArray (o4 s pos)))::l)→U W w' (kG b (.stringIter s (dX s pos))::R)→K a' w'):cI P ops Q ⟨some d,.next x true,ty,ps,af,g⟩ K a w:=by
 have nV:=I.perm k.perm;have hb:=nV.has.2;by_cases hp:pos<s.size
 ·have du:=nV.ck (o':=.stringIter s (dX s pos)) (w':={ w with heap:=w.heap.setIfInBounds b (.stringIter s (dX s pos)) }) rfl rfl rfl rfl;refine bo (v:=.tuple (List.toArray (o4 s pos))) (w':={ w with heap:=w.heap.setIfInBounds b (.stringIter s (dX s pos)) }) E hw ?_ hf (λa' db=>h a' _ db du);simp[execOp,ev.ev a n E,Instr.next,getObj,setObj,Sem.run,hb,hp,goInt,o4,dX,Sem.run_bind]
 ·have e:dX s pos=pos:=by simp[dX,hp]
  refine bo (v:=.tuple (List.toArray (o4 s pos))) (w':=w) E hw ?_ hf (λa' db=>h a' _ db (by rw[e];exact nV));simp[execOp,ev.ev a n E,Instr.next,getObj,Sem.run,hb,hp,o4,Sem.run_bind]
theorem QJ {x s t dst ty ps af g}(E:Fr a n l)[ev:Ev l x (.string s)](hu:P.underlying t=some .string) :
   (execOp a.eval ⟨dst,.call ⟨.builtin .len,#[x],#[t]⟩,ty,ps,af,g⟩).run P w=.ok (.value (.int .i64 s.size)) w:=by
 simp[execOp,resolve,ev.ev a n E,invoke,builtin,Builtin.len_,eL hu,goInt]
theorem zo {x y s k i j t dst ty ps af g}(E:Fr a n l)(hu:P.underlying t=some .string)[ev:Ev l x (.string s)][gV:Ev l y (.int k i)][nj:en i j](h:j<s.size) :
   (execOp a.eval ⟨dst,.index t x y,ty,ps,af,g⟩).run P w=.ok (.value (.int .u8 (s[j]'h).toNat)) w:=by
 have:=nj.h;subst this;have h2:=run_index_string (P:=P) w t s k (j:Int) hu;have h3:0≤(j:Int)∧(j:Int)<s.size:=by omega
 rw[dif_pos h3]at h2;simp[execOp,ev.ev a n E,gV.ev a n E,h2]
theorem CH {x y s k i j t dst ty ps af g}(E:Fr a n l)(hu:P.underlying t=some .string)[ev:Ev l x (.string s)][gV:Ev l y (.int k i)][nj:en i j](h:j≤s.size) :
   (execOp a.eval ⟨dst,.slice t x (some y) none none,ty,ps,af,g⟩).run P w=.ok (.value (.string (s.extract j s.size))) w:=by
 have:=nj.h;subst this;have h2:=run_slice_string_l (P:=P) w t s hu k (j:Int) (by omega) (by omega);simp only[Int.toNat_natCast]at h2;simp[execOp,ev.ev a n E,gV.ev a n E,run_sliceAt_string (P:=P) (w:=w) t _ _ _ _ hu,h2]
theorem H3 {x y k i k' j jn t u dst ty ps af g}(E:Fr a n l)[e:Ev l x (.int k i)][f:Ev l y (.int k' j)][nj:en j jn](h:jn≤k.bits) :
   (execOp a.eval ⟨dst,.binOp .shl t x y u,ty,ps,af,g⟩).run P w=.ok (.value (.int k (k.wrap (i*2 ^ jn)))) w:=by
 have:=nj.h;subst this;have h2:min jn k.bits=jn:=Nat.min_eq_left h;have h3:¬ ((jn:Int)<0):=by omega
 simp[execOp,e.ev a n E,f.ev a n E,eqGuard,binOp,Op.shift,h2,h3]
theorem QK {x y k i k' j jn t u dst ty ps af g}(E:Fr a n l)[e:Ev l x (.int k i)][f:Ev l y (.int k' j)][nj:en j jn](h:jn≤k.bits) :
   (execOp a.eval ⟨dst,.binOp .shr t x y u,ty,ps,af,g⟩).run P w=.ok (.value (.int k (i.fdiv (2 ^ jn)))) w:=by
 have:=nj.h;subst this;have h2:min jn k.bits=jn:=Nat.min_eq_left h;have h3:¬ ((jn:Int)<0):=by omega
 simp[execOp,e.ev a n E,f.ev a n E,eqGuard,binOp,Op.shift,h2,h3]
theorem QL {x y k i j t u dst ty ps af g}(E:Fr a n l)[e:Ev l x (.int k i)][f:Ev l y (.int k j)] :
   (execOp a.eval ⟨dst,.binOp .or t x y u,ty,ps,af,g⟩).run P w=.ok (.value (.int k (k.wrap ((BitVec.ofInt k.bits i ||| BitVec.ofInt k.bits j).toNat)))) w:=by
 simp[execOp,e.ev a n E,f.ev a n E,eqGuard,binOp,Op.intBits]
theorem QM {x y k i j t u dst ty ps af g}(E:Fr a n l)[e:Ev l x (.int k i)][f:Ev l y (.int k j)] :
   (execOp a.eval ⟨dst,.binOp .and t x y u,ty,ps,af,g⟩).run P w=.ok (.value (.int k (k.wrap ((BitVec.ofInt k.bits i &&& BitVec.ofInt k.bits j).toNat)))) w:=by
 simp[execOp,e.ev a n E,f.ev a n E,eqGuard,binOp,Op.intBits]
theorem QN {x y k i j t u dst ty ps af g}(E:Fr a n l)[e:Ev l x (.int k i)][f:Ev l y (.int k j)] :
   (execOp a.eval ⟨dst,.binOp .xor t x y u,ty,ps,af,g⟩).run P w=.ok (.value (.int k (k.wrap ((BitVec.ofInt k.bits i ^^^ BitVec.ofInt k.bits j).toNat)))) w:=by
 simp[execOp,e.ev a n E,f.ev a n E,eqGuard,binOp,Op.intBits]
theorem QO {x k i t dst ty ps af g}(E:Fr a n l)[e:Ev l x (.int k i)] :
   (execOp a.eval ⟨dst,.unOp .xor t x,ty,ps,af,g⟩).run P w=.ok (.value (.int k (k.wrap ((BitVec.ofInt k.bits (if k.signed then -1 else k.max) ^^^ BitVec.ofInt k.bits i).toNat)))) w:=by
 simp[execOp,e.ev a n E,Op.unary,Op.intBits]
theorem QQ {x k i t dst ty ps af g}(E:Fr a n l)[e:Ev l x (.int k i)] :
   (execOp a.eval ⟨dst,.unOp .neg t x,ty,ps,af,g⟩).run P w=.ok (.value (.int k (k.wrap (0-i)))) w:=by
 simp[execOp,e.ev a n E,Op.unary,Op.intArith]
theorem H4 {x y k i j t u dst ty ps af g}(E:Fr a n l)(h:j≠0)[e:Ev l x (.int k i)][f:Ev l y (.int k j)] :
   (execOp a.eval ⟨dst,.binOp .quo t x y u,ty,ps,af,g⟩).run P w=.ok (.value (.int k (k.wrap (i.tdiv j)))) w:=by
 simp[execOp,e.ev a n E,f.ev a n E,eqGuard,binOp,Op.intDiv,h]
theorem QR {t t':TypeId} {ms}(ht:P.underlying t=some (.interface ms))(v:Value)(k:Nat):(Op.equalIn (k+1) t (.iface t' v) .nilIface).run P w=.ok false w:=by
 simp[Op.equalIn,eL ht]
theorem QS {x t v t' ms u dst ty ps af g}(E:Fr a n l)(ht:P.underlying t=some (.interface ms))[e:Ev l x (.iface t' v)] :
   (execOp a.eval ⟨dst,.binOp .eql t x (.const .nilIface) u,ty,ps,af,g⟩).run P w=.ok (.value (.bool false)) w:=by
 have hc:a.eval (.const .nilIface)=.nilIface:=rfl;have h2:(Op.equal t (.iface t' v) .nilIface).run P w=.ok false w:=QR ht v 9999;simp only[execOp,e.ev a n E,hc,Sem.run_bind];simp[eqGuard,binOp,h2]
theorem QT {x t ee dst ty ps af g}(E:Fr a n l)(ht:P.underlying t=some ee)(hd:(match ee with | .interface _=>false | _=>true)=true)[e:Ev l x v] :
   (execOp a.eval ⟨dst,.makeInterface t x,ty,ps,af,g⟩).run P w=.ok (.value (.iface t v)) w:=by
 cases ee <;> first | (simp at hd) | skip
 all_goals simp[execOp,e.ev a n E,Instr.makeInterface,eL ht]
def o5 (P:Program)(t:TypeId)(name:String)(f:FuncId):Prop:=∀ (ad:Option Addr) (w:World),(method (P.types.size+Made.depth) t (.pointer ad) name).run P w=.ok (f,.pointer ad) w
theorem jA {x t ad name f args o6 ty ps af g vs all}{X:Ending→World→Prop}(E:Fr a n l)(hw:Region.wanted ⟨some d,.call ⟨.invoke x name,List.toArray args,o6⟩,ty,ps,af,g⟩ (yielded ops a.tmps)=true)
   [ex:Ev l x (.iface t (.pointer ad))] (hm:o5 P t name f) (hb:g9 P f=true) (hf:okB d n l=true) [ev:nq l args vs] (hc:Calls P f (List.toArray all) w X) (hS:.pointer ad::vs=all)
   (h:∀ e w',X e w'→∃ v,e=.returned v∧∀ a',Fr a' n ((d,v)::l)→K a' w') :
   cI P ops Q ⟨some d,.call ⟨.invoke x name,List.toArray args,o6⟩,ty,ps,af,g⟩ K a w:=by
 subst hS;refine Hu hw ?_ hc λe w' hx=>let ⟨v,he,hv⟩:=h e w' hx;⟨v,he,hv _ (E.put hf v)⟩;have h3:=hm ad w;simp[execOp,resolve,ex.ev a n E,invoke,callMethod,ev.ev a n E,h3,zf hb,program,Sem.run]
end
end
section
section
variable {P:Program}{a:Act}{w:World}{n:Nat}{l:List (Nat×Value)}{v:Value}
theorem H5 {x vs t f fs iL ee dst ty ps af g}(E:Fr a n l)(hu:P.underlying t=some (.struct fs))(hf:fs[f]?=some iL)(hd:P.underlying iL.type=some ee)(h1:nS ee=true)
   [ev:Ev l x (.agg (List.toArray vs))] (hv:vs[iL.offset]?=some v) :
   (execOp a.eval ⟨dst,.field t x f,ty,ps,af,g⟩).run P w=.ok (.value v) w:=by
 have xg:(part iL.type vs.toArray iL.offset).run P w=.ok v w:=by
  have CA:(isAgg iL.type).run P w=.ok false w:=by
   simp only[isAgg,Sem.run_bind,eL hd,Result.andThen_ok];cases ee <;> first | rfl | (simp[nS]at h1)
  simp[part,CA,hv]
 simp[execOp,ev.ev a n E,Instr.field,eL hu,hf,asAgg,xg]
end
end
section
section
variable {P:Program}{a:Act}{w W:World}{n:Nat}{l:List (Nat×Value)}{L R:List SP}
theorem CI {x u z3 k' xc i' xd j' nx ad m c t el z sz a1 dst ty ps af g}(E:Fr a n l)(ht:P.underlying t=some (.slice el))(hi:TI P el z sz a1)[ev:Ev l x (.slice ad m c)][tx:Ev l u (.int k' i')][Cq:Ev l z3 (.int xc xd)]
   [w8:en i' j'] [Cr:en xd nx] (h':j'≤nx) (Qg:nx≤c) :
   (execOp a.eval ⟨dst,.slice t x none (some u) (some z3),ty,ps,af,g⟩).run P w=.ok (.value (.slice (fl ad 0 nx sz) j' nx)) w:=by
 have lf:=w8.h;subst lf;have Cs:=Cr.h;subst Cs;have e1:=(p3 ht).1;have e2:=(p3 ht).2;have:=run_slice_hm (P:=P) (w:=w) t ad m c e1 k' xc (j':Int) (nx:Int) (by omega) (by omega) (by omega);rw[e2,l3 hi]at this;simp only[Result.andThen_ok,Int.toNat_natCast]at this;simp[execOp,ev.ev a n E,tx.ev a n E,Cq.ev a n E,run_sliceAt_slice (P:=P) (w:=w) t _ _ _ _ e1,this,sliced,fl]
theorem U.H6 {e sz k c:Nat}{cs:List Value}(I:U W w L)(ad:Option Addr)(m:Nat)[pk:fK L ad k c e sz cs R](hm:m≤k):U W w (Sl e sz (fl ad 0 m sz) m m (cs.take (m*sz))::R):=by
 have h1:=I.perm pk.perm;rcases Nat.eq_zero_or_pos m with h0 | h0
 ·subst h0;simpa using h1.tail.bN e sz (fl ad 0 0 sz)
 ·have hc:=(I.sl ad);obtain⟨b,pre,post,⟨g1,iA,l8,lH⟩,h2⟩:=h1.lG (by omega);subst l8;rw[oZ (by omega),Nat.zero_mul,Nat.add_zero];have l9:m*sz≤cs.length:=by rw[g1];exact Nat.mul_le_mul_right _ hm
  rw[show pre++cs++post=pre++cs.take (m*sz)++(cs.drop (m*sz)++post) from by
   conv=>lhs;rw[← jK (m*sz) cs]
   simp only[ds]]at h2
  exact U.iM h2 (by rw[ep];omega) (a7 _) (by simp)
end
end
section
section
variable {P:Program}{ops:Array Oper}{Q:Exit→Act→World→Prop}{a:Act}{w w' W:World}{K:Act→World→Prop}{n d:Nat}{l:List (Nat×Value)}{L:List SP}
theorem qP {t el z sz a1 x y k k' i j ty ps af g}(E:Fr a n l)(hw:Region.wanted ⟨some d,.makeSlice t x y,ty,ps,af,g⟩ (yielded ops a.tmps)=true)(I:U W w L)(ht:P.underlying t=some (.slice el))
   (hi:TI P el z sz a1) (hf:okB d n l=true) (hb:a1*j≤281474976710656) (hj:j≤9223372036854775807) [e:Ev l x (.int k i)] [e2:Ev l y (.int k' i)] [nj:en i j]
   (h:∀ b a' w',Fr a' n ((d,.slice (some ⟨b,0,none⟩) j j)::l)→U W w' (aa b el (madeCells z.cells (j*sz)).toList::L)→Old w w'→K a' w') :
   cI P ops Q ⟨some d,.makeSlice t x y,ty,ps,af,g⟩ K a w:=by
 have QU:=nj.h;subst QU;obtain⟨H7,ld,dH,kH,p0⟩:=info_parts hi.h;have QV:(H7.bytes:Int)*(j:Int)≤281474976710656:=by
  rw[p0];have:((a1*j:Nat):Int)≤281474976710656:=by omega
  rwa [Int.natCast_mul]at this
 have hr:=run_make (P:=P) w t el H7 z ht ld dH k k' (j:Int) (j:Int) (by omega) (Int.le_refl _) QV (by omega);rw[Int.toNat_natCast,kH]at hr;refine bo (v:=.slice (some ⟨w.heap.size,0,none⟩) j j) (w':=w.alloc (.cells (madeCells z.cells (j*sz)) el)) E hw ?_ hf (λa' db=>h _ _ _ db (by
  have:=I.alloc (.cells (madeCells z.cells (j*sz)) el);simpa [aa] using this) (Old.alloc _ _))
 simp[execOp,e.ev a n E,e2.ev a n E,hr]
end
end
section
class tE (os:List Oper)(j:Nat)(s:outParam Nat):Prop where h:(os[j]?).bind (·.dst)=some s
instance tE.zero {s op ty ps af g r}:tE (⟨some s,op,ty,ps,af,g⟩::r) 0 s:=⟨rfl⟩
instance tE.succ {o r j s}[h:tE r j s]:tE (o::r) (j+1) s:=⟨by rw[getElem?_cons_succ];exact h.h⟩
class nZ (os:List Oper)(j:Nat)(o:outParam Oper):Prop where h:os[j]?=some o
instance nZ.zero {o r}:nZ (o::r) 0 o:=⟨rfl⟩
instance nZ.succ {x r j o}[h:nZ r j o]:nZ (x::r) (j+1) o:=⟨by rw[getElem?_cons_succ];exact h.h⟩
class GB (v:Value)(b:Bool)(r:outParam Bool):Prop where h:((match v with | .bool c=>Option.some c | _=>none)==Option.some b)=r
instance GB.adF:GB (.bool true) true true:=⟨rfl⟩
instance GB.adG:GB (.bool true) false false:=⟨rfl⟩
instance GB.adH:GB (.bool false) true false:=⟨rfl⟩
instance GB.adI:GB (.bool false) false true:=⟨rfl⟩
instance GB.u {b}:GB undef b false:=⟨rfl⟩
class Gd (os:List Oper)(l:List (Nat×Value))(g:Option (Nat×Bool))(r:outParam Bool):Prop where
 h:∀ {a n},Fr a n l→∀ {dst op ty ps af},Region.wanted ⟨dst,op,ty,ps,af,g⟩ (yielded os.toArray a.tmps)=r
instance Gd.none {os l}:Gd os l none true:=⟨λ_=>rfl⟩
instance Gd.some {os l j b s v r}[d:tE os j s][k:fj l s v][x:GB v b r]:Gd os l (some (j,b)) r:=⟨λ{a n} E dst op ty ps af=>by
 have h1:=E.has _ k.mem;have h2:(os.toArray[j]?).bind (·.dst)=Option.some s:=by rw[getElem?_toArray];exact d.h
 rw[← x.h];simp only[Region.wanted,yielded,h2,Option.bind_some,h1];cases v <;> rfl⟩
class qQ (p q:Prop)(r:outParam Prop):Prop where h:r→p∧q
instance qQ.l {q}:qQ True q q:=⟨λh=>⟨trivial,h⟩⟩
instance qQ.r {p}:qQ p True p:=⟨λh=>⟨h,trivial⟩⟩
instance (priority:=low) qQ.b {p q}:qQ p q (p∧q):=⟨id⟩
class r8 (cs:List Value)(i:Nat)(v:outParam Value):Prop where h:cs[i]?=some v
instance r8.zero {v cs}:r8 (v::cs) 0 v:=⟨rfl⟩
instance r8.succ {c cs i v}[h:r8 cs i v]:r8 (c::cs) (i+1) v:=⟨by rw[getElem?_cons_succ];exact h.h⟩
instance r8.apZ {v xs ys}:r8 ((v::xs)++ys) 0 v:=⟨rfl⟩
class mO (o j sz:Nat)(r:outParam Nat):Prop where h:o+j*sz=r
instance (priority:=10) mO.any {o j sz}:mO o j sz (o+j*sz):=⟨rfl⟩
instance (priority:=20) mO.one {o j}:mO o j 1 (o+j):=⟨by rw[Nat.mul_one]⟩
instance (priority:=25) mO.at0 {o sz}:mO o 0 sz (o+0):=⟨by rw[Nat.zero_mul]⟩
instance (priority:=50) mO.adJ {sz}:mO 0 0 sz 0:=⟨by rw[Nat.zero_mul]⟩
instance (priority:=30) mO.zero {j sz}:mO 0 j sz (j*sz):=⟨Nat.zero_add _⟩
instance (priority:=40) mO.both {j}:mO 0 j 1 j:=⟨by omega⟩
class aI (P:Program)(t:TypeId)(d:outParam TypeDesc):Prop where h:P.underlying t=some d
theorem aI.of {P:Program}{t:TypeId}{d:TypeDesc}(h:P.underlying t=some d):aI P t d:=⟨h⟩
class mP (d:TypeDesc)(r:outParam Bool):Prop where h:nS d=r
instance Ex.adK {P:Program} {l x v1 v2 v3} [Ev l x (.tuple #[v1,v2,v3])]:Ex P l (.extract x 0) v1:=⟨λ_ _ E _ _ _ _ _ _=>nW E rfl⟩
instance Ex.adM {P:Program} {l x v1 v2 v3} [Ev l x (.tuple #[v1,v2,v3])]:Ex P l (.extract x 1) v2:=⟨λ_ _ E _ _ _ _ _ _=>nW E rfl⟩
instance Ex.adO {P:Program} {l x v1 v2 v3} [Ev l x (.tuple #[v1,v2,v3])]:Ex P l (.extract x 2) v3:=⟨λ_ _ E _ _ _ _ _ _=>nW E rfl⟩
instance:mP .bool true:=⟨rfl⟩
instance:mP .string true:=⟨rfl⟩
instance {k}:mP (.int k) true:=⟨rfl⟩
instance {t}:mP (.pointer t) true:=⟨rfl⟩
instance {t}:mP (.slice t) true:=⟨rfl⟩
instance {t u}:mP (.map t u) true:=⟨rfl⟩
instance {p r b}:mP (.func p r b) true:=⟨rfl⟩
instance {m}:mP (.interface m) true:=⟨rfl⟩
instance {f}:mP (.struct f) false:=⟨rfl⟩
instance {m t}:mP (.array m t) false:=⟨rfl⟩
class CJ (d:TypeDesc):Prop where h:(match d with | .interface _=>false | _=>true)=true
instance {t}:CJ (.pointer t):=⟨rfl⟩
instance {f}:CJ (.struct f):=⟨rfl⟩
class H8 (m:Nat)(k:outParam Nat):Prop where h:m=k+1
instance {k}:H8 (k+1) k:=⟨rfl⟩
class vm (fs:List Field)(f:Nat)(t k:outParam Nat):Prop where h:∃ iL,fs[f]?=some iL∧iL.type=t∧iL.offset=k
instance vm.zero {QW t k e QX pp kJ r}:vm (⟨QW,t,k,e,QX,pp,kJ⟩::r) 0 t k:=⟨_,rfl,rfl,rfl⟩
instance vm.succ {x r f t k}[h:vm r f t k]:vm (x::r) (f+1) t k:=⟨by rw[getElem?_cons_succ];exact h.h⟩
section
variable {P:Program}{t u el k sz a1 f:Nat}{d:TypeDesc}{z:Value}{fs:List Field}
instance [h:aI P t (.pointer el)]:xe P t:=⟨_,h.h⟩
instance [h:aI P t (.slice el)]:Cv P t:=⟨_,h.h⟩
instance [h:aI P t d][g:mP d true]:Cw P t:=⟨_,h.h,g.h⟩
instance {m:Nat}[h:aI P t (.struct fs.toArray)][g:vm fs f u k][hi:TI P u z m a1][q:H8 m sz]:Cx P t f k:=by
 obtain⟨iL,h1,h2,h3⟩:=g.h;rw[q.h]at hi;exact⟨_,iL,z,sz,a1,h.h,by rw[getElem?_toArray];exact h1,by rw[h2];exact hi,h3⟩
end
def Lk (L:List SP)(w:World):Prop:=∃ W w0,U W w0 L∧Old w0 w
theorem Lk.of {W w:World}{L:List SP}(I:U W w L):Lk L w:=⟨W,w,I,Old.refl _⟩
theorem Lk.nil (w:World):Lk [] w:=⟨w,w,U.start _,Old.refl _⟩
theorem Lk.bz {w:World}{L R:List SP}{b e off:Nat}{cs:List Value}{v:Value}(h:Lk L w)[k:fC L b e cs R](hv:cs[off]?=some v):w.cell? ⟨b,off,none⟩=some v:=by
 obtain⟨W,w0,I,ho⟩:=h;exact ho.cell (I.bz hv)
theorem Lk.pX {w:World}{L R:List SP}{b e off:Nat}{cs:List Value}(h:Lk L w)[k:fC L b e cs R](m:Nat){vs:List Value}[sc:lZ cs off m vs]:Rd w b off vs:=by
 obtain⟨W,w0,I,ho⟩:=h;exact ho.rd (I.pX m)
instance lZ.whole {cs m}[h:l6 cs m]:lZ cs 0 m cs:=⟨by rw[drop_zero,← h.h,take_length]⟩
class tF (ad:Option Addr)(r:outParam Bool):Prop where h:ad.isNone=r
instance tF.n:tF none true:=⟨rfl⟩
instance tF.s {a}:tF (some a) false:=⟨rfl⟩
instance (priority:=low) tF.any {ad}:tF ad ad.isNone:=⟨rfl⟩
theorem H9 {P:Program}{a:Act}{w:World}{n:Nat}{l:List (Nat×Value)}{fn:Func} {t u x v v2 v3}{X:Ending→World→Prop}(E:Fr a n l)(hr:fn.results=#[.tmp t,.tmp u,.tmp x])[k:fj l t v][k2:fj l u v2][k3:fj l x v3](h:X (.returned (.tuple #[v,v2,v3])) w):bodyPost P fn X .ret a w:=by
 refine bodyPost_ret ?_ E.defers h;have h1:=E.has _ k.mem;have h2:=E.has _ k2.mem;have h3:=E.has _ k3.mem;simp[results,hr,Array.getD_eq_getD_getElem?,h1,h2,h3]
theorem Fr.eh {a:Act}{n:Nat}{l l':List (Nat×Value)}(E:Fr a n l)(s:Nat){b:Bool}[k:fj l s (.bool b)][e:gT l s l'](h:b=true:=by first | rfl | decide):Fr a n ((s,.bool true)::l') :=
 E.bool (s:=s) (λ_ h=>h) (λe _=>by rw[h]at e;cases e)
theorem Fr.aM {a:Act}{n:Nat}{l l':List (Nat×Value)}(E:Fr a n l)(s:Nat){b:Bool}[k:fj l s (.bool b)][e:gT l s l'](h:b=false:=by first | rfl | decide):Fr a n ((s,.bool false)::l') :=
 E.bool (s:=s) (λe _=>by rw[h]at e;cases e) (λ_ h=>h)
class Sx (P:Program)(L:List SP)(l:List (Nat×Value))(op:Go.Op)(c:outParam Prop)(v:outParam Value):Prop where
 ex:c→∀ {a n w},Fr a n l→Lk L w→∀ {dst ty ps af g},(execOp a.eval ⟨dst,op,ty,ps,af,g⟩).run P w=.ok (.value v) w
section
variable {P:Program}{L R:List SP}{l:List (Nat×Value)}{x y z:Operand}{v u zv:Value}{k k':IntKind}{i j i':Int}{m m' qR c:Nat}{t t' el sz a1 b off r:Nat}{ad:Option Addr}{s:ByteArray}{p q:Bool}{vs ws zs:List Value}
instance (priority:=high) Sx.of {op}[h:Ex P l op v]:Sx P L l op True v:=⟨λ_ _ _ _ E _ _ _ _ _ _=>h.ex _ _ E _ _ _ _ _ _⟩
instance Sx.adQ [Ev l x (.bool true)] [Ev l y v]:Sx P L l (.pick x y z) True v:=⟨λ_ _ _ _ E _ _ _ _ _ _=>O7 E⟩
instance Sx.adR [Ev l x (.bool false)] [Ev l z v]:Sx P L l (.pick x y z) True v:=⟨λ_ _ _ _ E _ _ _ _ _ _=>O8 E⟩
instance Sx.load {e cs} [Ev l x (.pointer (some ⟨b,off,none⟩))][u:Cw P t] [fC L b e cs R][n:r8 cs off v]:Sx P L l (.load t x) True v :=
 ⟨λ_ _ _ _ E I _ _ _ _ _=>by obtain⟨ee,h1,h2⟩:=u.h;exact Hq E h1 h2 (I.bz n.h)⟩
instance Sx.adS {e cs d} [Ev l x (.pointer (some ⟨b,off,none⟩))][u:aI P t d][g:mP d false][hi:TI P t zv m a1] [fC L b e cs R] [lZ cs off m vs][k:l6 vs m]:Sx P L l (.load t x) True (.agg vs.toArray) :=
 ⟨λ_ _ _ _ E I _ _ _ _ _=>bS E u.h g.h (by rw[k.h];exact hi) (I.pX m)⟩
instance Sx.add [Ev l x (.int .i64 i)] [Ev l y (.int .i64 j)]:Sx P L l (.binOp .add t x y t') (-9223372036854775808≤i+j∧i+j≤9223372036854775807) (.int .i64 (i+j)) :=
 ⟨λh _ _ _ E _ _ _ _ _ _=>Pa E h.1 h.2⟩
instance Sx.sub [Ev l x (.int .i64 i)] [Ev l y (.int .i64 j)]:Sx P L l (.binOp .sub t x y t') (-9223372036854775808≤i-j∧i-j≤9223372036854775807) (.int .i64 (i-j)) :=
 ⟨λh _ _ _ E _ _ _ _ _ _=>Pb E h.1 h.2⟩
instance Sx.mul [Ev l x (.int .i64 i)] [Ev l y (.int .i64 j)]:Sx P L l (.binOp .mul t x y t') (-9223372036854775808≤i*j∧i*j≤9223372036854775807) (.int .i64 (i*j)) :=
 ⟨λh _ _ _ E _ _ _ _ _ _=>Pc E h.1 h.2⟩
instance (priority:=low) Sx.adU [Ev l x (.int k i)] [Ev l y (.int k j)]:Sx P L l (.binOp .add t x y t') (True) (.int k (k.wrap (i+j))):=⟨λ_ _ _ _ E _ _ _ _ _ _=>Hn E⟩
instance (priority:=low) Sx.adV [Ev l x (.int k i)] [Ev l y (.int k j)]:Sx P L l (.binOp .sub t x y t') (True) (.int k (k.wrap (i-j))):=⟨λ_ _ _ _ E _ _ _ _ _ _=>zd E⟩
instance (priority:=low) Sx.adW [Ev l x (.int k i)] [Ev l y (.int k j)]:Sx P L l (.binOp .mul t x y t') (True) (.int k (k.wrap (i*j))):=⟨λ_ _ _ _ E _ _ _ _ _ _=>Ho E⟩
instance Sx.rem [Ev l x (.int k i)] [Ev l y (.int k j)]:Sx P L l (.binOp .rem t x y t') (j≠0) (.int k (i.tmod j)):=⟨λg _ _ _ E _ _ _ _ _ _=>zl E g⟩
instance Sx.or [Ev l x (.int k i)] [Ev l y (.int k j)]:Sx P L l (.binOp .or t x y t') (True) (.int k (k.wrap ((BitVec.ofInt k.bits i ||| BitVec.ofInt k.bits j).toNat))):=⟨λ_ _ _ _ E _ _ _ _ _ _=>QL E⟩
instance Sx.and [Ev l x (.int k i)] [Ev l y (.int k j)]:Sx P L l (.binOp .and t x y t') (True) (.int k (k.wrap ((BitVec.ofInt k.bits i &&& BitVec.ofInt k.bits j).toNat))):=⟨λ_ _ _ _ E _ _ _ _ _ _=>QM E⟩
instance (priority:=low) Sx.xor [Ev l x (.int k i)] [Ev l y (.int k j)]:Sx P L l (.binOp .xor t x y t') (True) (.int k (k.wrap ((BitVec.ofInt k.bits i ^^^ BitVec.ofInt k.bits j).toNat))):=⟨λ_ _ _ _ E _ _ _ _ _ _=>QN E⟩
instance Sx.adX {i j:UInt8} [Ev l x (.int .u8 (i.toNat:Int))] [Ev l y (.int .u8 (j.toNat:Int))]:Sx P L l (.binOp .xor t x y t') True (.int .u8 ((i ^^^ j).toNat:Int)):=⟨λ_ _ _ _ E _ _ _ _ _ _=>Ql E⟩
instance Sx.min {tB} [Ev l x (.int k i)] [Ev l y (.int k j)]:Sx P L l (.call ⟨.builtin .min,#[x,y],tB⟩) (True) (.int k (min i j)):=⟨λ_ _ _ _ E _ _ _ _ _ _=>Qd E⟩
instance Sx.max {tB} [Ev l x (.int k i)] [Ev l y (.int k j)]:Sx P L l (.call ⟨.builtin .max,#[x,y],tB⟩) (True) (.int k (max i j)):=⟨λ_ _ _ _ E _ _ _ _ _ _=>Qe E⟩
instance Sx.shl [Ev l x (.int k i)] [Ev l y (.int k' j)] [en j m]:Sx P L l (.binOp .shl t x y t') (m≤k.bits) (.int k (k.wrap (i*2 ^ m))):=⟨λg _ _ _ E _ _ _ _ _ _=>H3 E g⟩
instance Sx.shr [Ev l x (.int k i)] [Ev l y (.int k' j)] [en j m]:Sx P L l (.binOp .shr t x y t') (m≤k.bits) (.int k (i.fdiv (2 ^ m))):=⟨λg _ _ _ E _ _ _ _ _ _=>QK E g⟩
instance Sx.com [Ev l x (.int k i)]:Sx P L l (.unOp .xor t x) True (.int k (k.wrap ((BitVec.ofInt k.bits (if k.signed then -1 else k.max) ^^^ BitVec.ofInt k.bits i).toNat))):=⟨λ_ _ _ _ E _ _ _ _ _ _=>QO E⟩
instance Sx.neg [Ev l x (.int k i)]:Sx P L l (.unOp .neg t x) True (.int k (k.wrap (0-i))):=⟨λ_ _ _ _ E _ _ _ _ _ _=>QQ E⟩
instance Sx.adY [h:aI P t (.slice el)] [Ev l x (.slice ad m c)][q:tF ad p]:Sx P L l (.binOp .eql t x (.const (.slice none 0 0)) t') True (.bool p):=⟨λ_ _ _ _ E _ _ _ _ _ _=>by rw[← q.h];exact Qh E h.h⟩
instance Sx.adZ [h:aI P t .string] [Ev l x (.string s)]:Sx P L l (.call ⟨.builtin .len,#[x],#[t]⟩) (True) (.int .i64 s.size):=⟨λ_ _ _ _ E _ _ _ _ _ _=>QJ E h.h⟩
instance Sx.ad0 [h:aI P t .bool] [Ev l x (.bool p)] [Ev l y (.bool q)]:Sx P L l (.binOp .eql t x y t') (True) (.bool (p==q)):=⟨λ_ _ _ _ E _ _ _ _ _ _=>Qb E h.h⟩
instance Sx.ad1 [h:aI P t .bool] [Ev l x (.bool p)] [Ev l y (.bool q)]:Sx P L l (.binOp .neq t x y t') (True) (.bool (p != q)):=⟨λ_ _ _ _ E _ _ _ _ _ _=>Qc E h.h⟩
instance Sx.ad3 {fn xs ys} [nq l xs vs] [nq l ys ws]:Sx P L l (.makeFunc fn xs.toArray ys.toArray) (True) (.func fn vs.toArray ws.toArray):=⟨λ_ _ _ _ E _ _ _ _ _ _=>Py E⟩
instance Sx.ad4 {d}[h:aI P t d][g:CJ d] [Ev l x v]:Sx P L l (.makeInterface t x) (True) (.iface t v):=⟨λ_ _ _ _ E _ _ _ _ _ _=>QT E h.h (by have:=g.h;cases d <;> first | rfl | (simp at this))⟩
instance Sx.ad5 {ms}[h:aI P t (.interface ms)] [Ev l x (.iface m v)]:Sx P L l (.binOp .eql t x (.const .nilIface) t') (True) (.bool false):=⟨λ_ _ _ _ E _ _ _ _ _ _=>QS E h.h⟩
instance Sx.index [h:aI P t (.slice el)][hi:TI P el zv sz a1] [Ev l x (.slice (some ⟨b,off,none⟩) m c)] [Ev l y (.int k i)] [en i m'][q:mO off m' sz r]:Sx P L l (.indexAddr t x y) (m'<m) (.pointer (some ⟨b,r,none⟩)):=⟨λg _ _ _ E _ _ _ _ _ _=>by rw[← q.h];exact Ht E h.h hi g⟩
instance Sx.ad6 [h:aI P t (.array m el)][hi:TI P el zv sz a1] [Ev l x (.pointer (some ⟨b,off,none⟩))] [Ev l y (.int k i)] [en i m'][q:mO off m' sz r]:Sx P L l (.indexAddr t x y) (m'<m) (.pointer (some ⟨b,r,none⟩)):=⟨λg _ _ _ E _ _ _ _ _ _=>by rw[← q.h];exact Pw E h.h hi g⟩
instance Sx.ad7 [h:aI P t (.slice el)][hi:TI P el zv sz a1] [Ev l x (.slice ad m c)] [Ev l y (.int k i)] [en i m']:Sx P L l (.slice t x (some y) none none) (m'≤m) (.slice (fl ad m' c sz) (m-m') (c-m')):=⟨λg _ _ _ E _ _ _ _ _ _=>PK E h.h hi g⟩
instance Sx.ad8 [h:aI P t (.slice el)][hi:TI P el zv sz a1] [Ev l x (.slice ad m c)] [Ev l y (.int k i)] [en i m']:Sx P L l (.slice t x none (some y) none) (m'≤c) (.slice (fl ad 0 c sz) (m'-0) (c-0)):=⟨λg _ _ _ E _ _ _ _ _ _=>PL E h.h hi g⟩
instance Sx.ad9 [h:aI P t (.slice el)][hi:TI P el zv sz a1] [Ev l x (.slice ad m c)] [Ev l y (.int k i)] [en i m'] [Ev l z (.int k' i')] [en i' qR]:Sx P L l (.slice t x (some y) (some z) none) (m'≤qR∧qR≤c) (.slice (fl ad m' c sz) (qR-m') (c-m')):=⟨λg _ _ _ E _ _ _ _ _ _=>PM E h.h hi g.1 g.2⟩
instance Sx.aea [h:aI P t (.slice el)][hi:TI P el zv sz a1] [Ev l x (.slice ad m c)] [Ev l y (.int k i)] [en i m'] [Ev l z (.int k' i')] [en i' qR]:Sx P L l (.slice t x none (some y) (some z)) (m'≤qR∧qR≤c) (.slice (fl ad 0 qR sz) m' qR):=⟨λg _ _ _ E _ _ _ _ _ _=>CI E h.h hi g.1 g.2⟩
instance Sx.aeb [h:aI P t (.array m el)][hi:TI P el zv sz a1] [Ev l x (.pointer (some ⟨b,off,none⟩))]:Sx P L l (.slice t x none none none) (True) (.slice (some ⟨b,off,none⟩) m m):=⟨λ_ _ _ _ E _ _ _ _ _ _=>QD E h.h hi⟩
instance Sx.conv [h:aI P t (.int k)][q:aI P t' (.int k')] [Ev l x (.int k i)]:Sx P L l (.convert t t' x) (k'.wrap i=i) (.int k' i):=⟨λg _ _ _ E _ _ _ _ _ _=>o3 E h.h q.h g⟩
instance Sx.build {ki parts}[hb:eg P t ki][hi:TI P t zv sz a1] [Cells zv zs] [tA ki zs l parts vs]:Sx P L l (.build t (List.toArray parts)) ((ki.all λp=>Nat.ble (p.1+p.2) zs.length)=true) (.agg vs.toArray):=⟨λg _ _ _ E _ _ _ _ _ _=>HU E hb hi g⟩
end
def Hd (C:World→Prop)(L:List SP):Prop:=∀ w',C w'→Lk L w'
theorem Hd.any (C:World→Prop):Hd C []:=λw' _=>Lk.nil w'
theorem Hd.gy {W w:World}{L:List SP}(I:U W w L):Hd (Old w) L:=λ_ h=>⟨W,w,I,h⟩
def CN (b:Bool)(C:World→Prop)(K:Act→World→Prop):Act→World→Prop:=λa w=>(b=true→C w)∧K a w
def r9 (X:Ending→World→Prop)(v:Value):Act→World→Prop:=λ_ w=>X (.returned v) w
def qS (P:Program)(rs:List ResultVar)(X:Ending→World→Prop):Exit→Act→World→Prop:=λe a w=>∀ fn:Func,fn.results=rs.toArray→bodyPost P fn X e a w
class mQ (Q:Exit→Act→World→Prop):Prop where h:lg Q
instance {K Q}[h:mQ Q]:mQ (Exit.then K Q):=⟨PR h.h⟩
instance {i Q}[h:mQ Q]:mQ (Exit.inBlock i Q):=⟨PS h.h⟩
instance {P rs X}:mQ (qS P rs X):=⟨λc a o v w h fn hr=>PT c a o v w (h fn hr)⟩
class zp (P:Program):Prop where h:P.follows .mixedOrders=true
class Rn (k n:Nat)(C:World→Prop)(L0 L:List SP)(l:List (Nat×Value))(X:Act→World→Prop)(b:outParam Bool)(c:outParam Prop)(l':outParam (List (Nat×Value)))(Y:outParam (Act→World→Prop)):Prop where
 rn:b=true→c→∀ {a W w},Fr a n l→U W w L→Hd C L0∧C w→(∀ a,Fr a n l'→Y a w)→X a w
class Way (v:Value)(x y:Code)(z:outParam Code):Prop where h:∃ b,v=.bool b∧z=if b then x else y
instance {x y}:Way (.bool true) x y x:=⟨true,rfl,rfl⟩
instance {x y}:Way (.bool false) x y y:=⟨false,rfl,rfl⟩
def CK (os:List Oper)(m i:Nat):Bool:=match Region.ready .any os.toArray (lb os.toArray.size m) with | [j]=>Nat.beq j i | _=>false
theorem QY {os:List Oper}{m i:Nat}(h:CK os m i=true):Region.ready .any os.toArray (lb os.toArray.size m)=[i]:=by
 unfold CK at h;split at h
 ·rename_i j e;rw[e,Nat.eq_of_beq_eq_true h]
 ·cases h
def QZ (os:List Oper)(m:Nat):Bool:=(Region.ready .any os.toArray (lb os.toArray.size m)).isEmpty
section
variable {P:Program}{k n d i j m fuel:Nat}{C C2:World→Prop}{L0 L:List SP}{l l1 l':List (Nat×Value)}{X Y K:Act→World→Prop}{b b2:Bool}{c dL c2:Prop}{os rest:List Oper}{Q:Exit→Act→World→Prop}{op:Go.Op}{v:Value}{ty:TypeId}{ps:String}{af:Array Edge}{g:Option (Nat×Bool)}{x y z:Code}{o:Operand}{bg od:List Nat}
instance (priority:=1) Rn.stop:Rn 0 n C L0 L l X true True l X:=⟨λ_ _ _ _ _ E _ _ h=>h _ E⟩
instance Rn.oper [e:Gd os l g true][s:Sx P L l op dL v][q:gT l d l1][r:Rn k n C L0 L ((d,v)::l1) K b2 c2 l' Y][p:qQ dL c2 c] :
   Rn (k+1) n C L0 L l (cI P os.toArray Q ⟨some d,op,ty,ps,af,g⟩ K) (okB d n l1&&b2) c l' Y:=⟨λhb hc a W w E I hx h=>by
 rw[fk]at hb;obtain⟨h1,h2⟩:=p.h hc;exact bo (E.del d) (e.h E) (s.ex h1 E (Lk.of I)) hb.1 λa E=>r.rn hb.2 h2 E I hx h⟩
instance Rn.off {jb}[e:Gd os l (some jb) false][q:gT l d l1][r:Rn k n C L0 L ((d,undef)::l1) K b2 c l' Y] :
   Rn (k+1) n C L0 L l (cI P os.toArray Q ⟨some d,op,ty,ps,af,some jb⟩ K) (okB d n l1&&b2) c l' Y:=⟨λhb hc a W w E I hx h=>by
 rw[fk]at hb;exact O3 (E.del d) (e.h E) hb.1 λa E=>r.rn hb.2 hc E I hx h⟩
instance Rn.cons {ops}{o:Oper}[r:Rn k n C L0 L l (cI P ops Q o (wpList P ops Q rest)) b c l' Y]:Rn k n C L0 L l (wpList P ops Q (o::rest)) b c l' Y:=⟨λhb hc _ _ _ E I hx h=>(r.rn hb hc E I hx h)⟩
instance Rn.nil {ops}[r:Rn k n C L0 L l (Q .normal) b c l' Y]:Rn k n C L0 L l (wpList P ops Q []) b c l' Y:=⟨λhb hc _ _ _ E I hx h=>Qm (r.rn hb hc E I hx h)⟩
instance Rn.seq [r:Rn k n C L0 L l (x.wp P (Exit.then (y.wp P Q) Q)) b c l' Y]:Rn (k+1) n C L0 L l ((Code.seq x y).wp P Q) b c l' Y:=⟨λhb hc _ _ _ E I hx h=>wp_seq (r.rn hb hc E I hx h)⟩
instance Rn.region {id}[r:Rn k n C L0 L l (wpList P os.toArray Q os) b c l' Y]:Rn k n C L0 L l ((Code.region id os.toArray false).wp P Q) b c l' Y:=⟨λhb hc _ _ _ E I hx h=>wp_region_lit (r.rn hb hc E I hx h)⟩
instance Rn.skip [r:Rn k n C L0 L l (Q .normal) b c l' Y]:Rn k n C L0 L l (Code.skip.wp P Q) b c l' Y:=⟨λhb hc _ _ _ E I hx h=>wp_skip (r.rn hb hc E I hx h)⟩
instance Rn.block [r:Rn k n C L0 L l (x.wp P (Exit.inBlock i Q)) b c l' Y]:Rn k n C L0 L l ((Code.block i x).wp P Q) b c l' Y:=⟨λhb hc _ _ _ E I hx h=>wp_block (r.rn hb hc E I hx h)⟩
instance Rn.exit [r:Rn k n C L0 L l (Q (.exit i)) b c l' Y]:Rn k n C L0 L l ((Code.exit i).wp P Q) b c l' Y:=⟨λhb hc _ _ _ E I hx h=>wp_exit (r.rn hb hc E I hx h)⟩
instance Rn.ret [r:Rn k n C L0 L l (Q .ret) b c l' Y]:Rn k n C L0 L l (Code.ret.wp P Q) b c l' Y:=⟨λhb hc _ _ _ E I hx h=>wp_ret (r.rn hb hc E I hx h)⟩
instance Rn.cond [e:Ev l o v][q:Way v x y z][r:Rn k n C L0 L l (z.wp P Q) b c l' Y]:Rn (k+1) n C L0 L l ((Code.cond o x y).wp P Q) b c l' Y:=⟨λhb hc _ _ _ E I hx h=>by
 obtain⟨t,rfl,rfl⟩:=q.h;exact wp_cond (e.ev _ _ E) (r.rn hb hc E I hx h)⟩
instance Rn.aec [r:Rn k n C L0 L l (K) b c l' Y]:Rn k n C L0 L l (Exit.then K Q .normal) b c l' Y:=⟨λhb hc _ _ _ E I hx h=>TN (r.rn hb hc E I hx h)⟩
instance Rn.aed [r:Rn k n C L0 L l (Q .ret) b c l' Y]:Rn k n C L0 L l (Exit.then K Q .ret) b c l' Y:=⟨λhb hc _ _ _ E I hx h=>TR (r.rn hb hc E I hx h)⟩
instance Rn.aee [r:Rn k n C L0 L l (Q (.exit i)) b c l' Y]:Rn k n C L0 L l (Exit.then K Q (.exit i)) b c l' Y:=⟨λhb hc _ _ _ E I hx h=>TE (r.rn hb hc E I hx h)⟩
instance Rn.aef [r:Rn k n C L0 L l (Q .normal) b c l' Y]:Rn k n C L0 L l (Exit.inBlock i Q .normal) b c l' Y:=⟨λhb hc _ _ _ E I hx h=>Qn (r.rn hb hc E I hx h)⟩
instance Rn.aeg [r:Rn k n C L0 L l (Q .ret) b c l' Y]:Rn k n C L0 L l (Exit.inBlock i Q .ret) b c l' Y:=⟨λhb hc _ _ _ E I hx h=>Qo (r.rn hb hc E I hx h)⟩
instance (priority:=high) Rn.aeh [r:Rn k n C L0 L l (Q .normal) b c l' Y]:Rn k n C L0 L l (Exit.inBlock i Q (.exit i)) b c l' Y:=⟨λhb hc _ _ _ E I hx h=>PC (r.rn hb hc E I hx h)⟩
instance Rn.aei [r:Rn k n C L0 L l (Q (.exit j)) b c l' Y]:Rn k n C L0 L l (Exit.inBlock i Q (.exit j)) (!Nat.beq j i&&b) c l' Y:=⟨λhb hc _ _ _ E I hx h=>by
 rw[fk,Bool.not_eq_true']at hb;exact PD hb.1 (r.rn hb.2 hc E I hx h)⟩
variable {t u r3:Nat}{v2 v3 zv:Value}{vs cs:List Value}{R:Ending→World→Prop}{bb off e sz a1:Nat}{RR:List SP}{ee:TypeDesc}
instance Rn.Hy:Rn 0 n C L0 L l (qS P [] R .normal) true True l (r9 R (.tuple #[])):=⟨λ_ _ _ _ _ E _ _ h _ hr=>Go.Proofs.YteoldcfapaiobaaGreat.Hy E hr (h _ E)⟩
instance Rn.Hx:Rn 0 n C L0 L l (qS P [] R .ret) true True l (r9 R (.tuple #[])):=⟨λ_ _ _ _ _ E _ _ h _ hr=>Go.Proofs.YteoldcfapaiobaaGreat.Hx E hr (h _ E)⟩
instance Rn.Hv [fj l t v]:Rn 0 n C L0 L l (qS P [.tmp t] R .ret) true True l (r9 R v):=⟨λ_ _ _ _ _ E _ _ h _ hr=>Go.Proofs.YteoldcfapaiobaaGreat.Hv E hr (h _ E)⟩
instance Rn.Hw [fj l t v] [fj l u v2]:Rn 0 n C L0 L l (qS P [.tmp t,.tmp u] R .ret) true True l (r9 R (.tuple #[v,v2])):=⟨λ_ _ _ _ _ E _ _ h _ hr=>Go.Proofs.YteoldcfapaiobaaGreat.Hw E hr (h _ E)⟩
instance Rn.H9 [fj l t v] [fj l u v2] [fj l r3 v3]:Rn 0 n C L0 L l (qS P [.tmp t,.tmp u,.tmp r3] R .ret) true True l (r9 R (.tuple #[v,v2,v3])):=⟨λ_ _ _ _ _ E _ _ h _ hr=>Go.Proofs.YteoldcfapaiobaaGreat.H9 E hr (h _ E)⟩
instance Rn.aej [fj l t (.pointer (some ⟨bb,off,none⟩))][q:aI P u ee][p2:mP ee false][hi:TI P u zv sz a1] [fC L bb e cs RR] [lZ cs off sz vs][p:l6 vs sz]:Rn 0 n C L0 L l (qS P [.cell t u] R .ret) true True l (r9 R (.agg vs.toArray)):=⟨λ_ _ _ _ _ E I _ h _ hr =>
 Go.Proofs.YteoldcfapaiobaaGreat.Pz E hr (Ck q.h p2.h (by rw[p.h];exact hi) (I.pX sz)) (h _ E)⟩
instance Rn.aek [fj l t (.pointer (some ⟨bb,off,none⟩))][q:aI P u ee][p2:mP ee false][hi:TI P u zv sz a1] [fC L bb e cs RR] [lZ cs off sz vs][p:l6 vs sz] [fj l r3 v2]:Rn 0 n C L0 L l (qS P [.cell t u,.tmp r3] R .ret) true True l (r9 R (.tuple #[.agg vs.toArray,v2])):=⟨λ_ _ _ _ _ E I _ h _ hr =>
 Go.Proofs.YteoldcfapaiobaaGreat.PA E hr (Ck q.h p2.h (by rw[p.h];exact hi) (I.pX sz)) (h _ E)⟩
instance Rn.tG [r:Rn k n C L0 L l K b c l' Y]:Rn k n C L0 L l (CN b2 C K) b c l' Y:=⟨λhb hc _ _ _ E I hx h=>⟨λ_=>hx.2,r.rn hb hc E I hx h⟩⟩
instance (priority:=low) Rn.cnF [r:Rn k n C L0 L l K b c l' Y]:Rn k n C L0 L l (CN b2 C2 K) (!b2&&b) c l' Y:=⟨λhb hc _ _ _ E I hx h=>by
 rw[fk,Bool.not_eq_true']at hb;exact⟨λe=>(by rw[hb.1]at e;cases e),r.rn hb.2 hc E I hx h⟩⟩
instance Rn.one {o}[p:nZ os i o][r:Rn k n C L0 L l (cI P os.toArray Q o (CN (bg.contains i) C2 (fY P os.toArray Q C2 bg od fuel (l7 m i)))) b c l' Y] :
   Rn k n C L0 L l (fY P os.toArray Q C2 bg ((i+1000)::od) (fuel+1) m) (CK os m i&&b) c l' Y:=⟨λhb hc a W w E I hx h=>by
 rw[fk]at hb;show fY P os.toArray Q C2 bg (i::od) (fuel+1) m a w;exact Qp (by rw[getElem?_toArray];exact p.h) (r.rn hb.2 hc E I hx h) (QY hb.1)⟩
instance (priority:=low) Rn.pure [p:nZ os i ⟨some d,op,ty,ps,af,g⟩][pk:mQ Q][e:Gd os l g true][s:Sx P [] l op dL v][q:gT l d l1][r:Rn k n C L0 L ((d,v)::l1) (fY P os.toArray Q C2 bg od fuel (l7 m i)) b2 c2 l' Y][CM:qQ dL c2 c] :
   Rn (k+1) n C L0 L l (fY P os.toArray Q C2 bg (i::od) (fuel+1) m) (mM os.toArray (lb os.toArray.size m) bg true i&&!bg.contains i&&okB d n l1&&b2) c l' Y:=⟨λhb hc a W w E I hx h=>by
 simp only[fk,Bool.not_eq_true']at hb;obtain⟨h1,h2⟩:=CM.h hc;exact HQ (p6 _ _ _) (by rw[getElem?_toArray];exact p.h) hb.1.1.1 hb.1.1.2 pk.h (E.del d) (e.h E) (λw=>s.ex h1 E (Lk.nil w)) hb.1.2 λa E=>r.rn hb.2 h2 E I hx h⟩
instance (priority:=low) Rn.ael {jb}[p:nZ os i ⟨some d,op,ty,ps,af,some jb⟩][pk:mQ Q][e:Gd os l (some jb) false][q:gT l d l1][r:Rn k n C L0 L ((d,undef)::l1) (fY P os.toArray Q C2 bg od fuel (l7 m i)) b2 c l' Y] :
   Rn (k+1) n C L0 L l (fY P os.toArray Q C2 bg (i::od) (fuel+1) m) (mM os.toArray (lb os.toArray.size m) bg true i&&!bg.contains i&&okB d n l1&&b2) c l' Y:=⟨λhb hc a W w E I hx h=>by
 simp only[fk,Bool.not_eq_true']at hb;exact P0 (p6 _ _ _) (by rw[getElem?_toArray];exact p.h) hb.1.1.1 hb.1.1.2 pk.h (E.del d) (e.h E) hb.1.2 λa E=>r.rn hb.2 hc E I hx h⟩
instance (priority:=high) Rn.held [p:nZ os i ⟨some d,op,ty,ps,af,g⟩][pk:mQ Q][e:Gd os l g true][s:Sx P L0 l op dL v][q:gT l d l1][r:Rn k n C L0 L ((d,v)::l1) (fY P os.toArray Q C bg od fuel (l7 m i)) b2 c2 l' Y][CM:qQ dL c2 c] :
   Rn (k+1) n C L0 L l (fY P os.toArray Q C bg ((i+3000)::od) (fuel+1) m) (mM os.toArray (lb os.toArray.size m) bg false i&&okB d n l1&&b2) c l' Y:=⟨λhb hc a W w E I hx h=>by
 simp only[fk]at hb;obtain⟨h1,h2⟩:=CM.h hc;exact HR (p6 _ _ _) (by rw[getElem?_toArray];exact p.h) hb.1.1 pk.h (E.del d) (e.h E) (λw hw=>s.ex h1 E (hx.1 w hw)) hx.2 hb.1.2 λa E=>r.rn hb.2 h2 E I hx h⟩
instance (priority:=high) Rn.aem {jb}[p:nZ os i ⟨some d,op,ty,ps,af,some jb⟩][pk:mQ Q][e:Gd os l (some jb) false][q:gT l d l1][r:Rn k n C L0 L ((d,undef)::l1) (fY P os.toArray Q C bg od fuel (l7 m i)) b2 c l' Y] :
   Rn (k+1) n C L0 L l (fY P os.toArray Q C bg ((i+3000)::od) (fuel+1) m) (mM os.toArray (lb os.toArray.size m) bg false i&&okB d n l1&&b2) c l' Y:=⟨λhb hc a W w E I hx h=>by
 simp only[fk]at hb;exact P1 (p6 _ _ _) (by rw[getElem?_toArray];exact p.h) hb.1.1 pk.h (E.del d) (e.h E) hx.2 hb.1.2 λa E=>r.rn hb.2 hc E I hx h⟩
instance Rn.done [r:Rn k n C L0 L l (Q .normal) b c l' Y]:Rn k n C L0 L l (fY P os.toArray Q C2 bg [] fuel m) (QZ os m&&b) c l' Y:=⟨λhb hc _ _ _ E I hx h=>by
 rw[fk]at hb;exact Qt (r.rn hb.2 hc E I hx h) (List.isEmpty_iff.1 hb.1)⟩
class Zp (vs:List Value)(ks:List Nat)(l:outParam (List (Nat×Value))):Prop where h:ks.zip vs=l
instance Zp.nil {ks}:Zp [] ks []:=⟨by simp⟩
instance Zp.cons {v vs k ks l}[h:Zp vs ks l]:Zp (v::vs) (k::ks) ((k,v)::l):=⟨by rw[List.zip_cons_cons,h.h]⟩
class App (xs ys:List Value)(zs:outParam (List Value)):Prop where h:xs++ys=zs
instance App.nil {ys}:App [] ys ys:=⟨rfl⟩
instance App.cons {x xs ys zs}[h:App xs ys zs]:App (x::xs) ys (x::zs):=⟨by rw[cons_append,h.h]⟩
instance Zp.app {xs ys zs ks l}[q:App xs ys zs][h:Zp zs ks l]:Zp (xs++ys) ks l:=⟨by rw[q.h];exact h.h⟩
class sa (n:Nat)(l:List (Nat×Value))(d:Option Tmp)(b:outParam Bool)(F:outParam (Value→List (Nat×Value))):Prop where h:b=true→∀ {a v},Fr a n l→Fr (a.put d v) n (F v)
instance sa.some {n l d l1}[q:gT l d l1]:sa n l (some d) (okB d n l1) (λv=>(d,v)::l1):=⟨λh _ v E=>(E.del d).put h v⟩
class n0 (P:Program)(l:List (Nat×Value))(ce:Callee)(args:List Operand)(f:outParam Nat)(vs:outParam (List Value)):Prop where
 h:g9 P f=true→∀ {a n w},Fr a n l→∀ {dst o6 ty ps af g},(execOp a.eval ⟨dst,.call ⟨ce,args.toArray,o6⟩,ty,ps,af,g⟩).run P w=.ok (.enter f vs.toArray) w
instance n0.fn {P l f args vs}[ev:nq l args vs]:n0 P l (.value (.func f)) args f vs:=⟨λhb a n w E _ _ _ _ _ _=>by
 have h2:a.eval (.func f)=.func (.func f) #[] #[]:=rfl;simp[execOp,resolve,h2,Deferred.ofValue,invoke,ev.ev a n E,zf hb]⟩
instance n0.km {P l x f us args vs zs}[ex:Ev l (.tmp x) (.func (.func f) #[] (List.toArray us))][ev:nq l args vs][q:App vs us zs]:n0 P l (.value (.tmp x)) args f zs:=⟨λhb a n w E _ _ _ _ _ _=>by
 rw[← q.h];simp[execOp,resolve,ex.ev a n E,Deferred.ofValue,invoke,ev.ev a n E,zf hb]⟩
class sb (vs:List Value):Prop where h:∀ v∈vs,v.oneCell'=true
instance sb.nil:sb []:=⟨by simp⟩
instance sb.ints {k m g}:sb (ints k m g):=⟨tD⟩
class One (v:Value):Prop where h:v.oneCell'=true
instance {k i}:One (.int k i):=⟨rfl⟩
instance {b}:One (.bool b):=⟨rfl⟩
instance {s}:One (.string s):=⟨rfl⟩
instance {p}:One (.pointer p):=⟨rfl⟩
instance {p n c}:One (.slice p n c):=⟨rfl⟩
instance {t v}:One (.iface t v):=⟨rfl⟩
instance sb.cons {v vs}[h:One v][k:sb vs]:sb (v::vs):=⟨λx hx=>by
 rcases List.mem_cons.1 hx with rfl | hx
 ·exact h.h
 ·exact k.h x hx⟩
variable {a:Act}{w W:World}{l2:List (Nat×Value)}{p q:Prop}{bp:Bool}{F:Value→List (Nat×Value)}{dst:Option Tmp}{ce:Callee}{args:List Operand}{f:Nat}{o6:Array TypeId}{xo zq:Operand}
abbrev jN:World→Prop:=λ_=>True
theorem kK {w:World}:Hd jN []∧jN w:=⟨Hd.any _,trivial⟩
theorem EN {fn:Func}{Ia:Code}{rs:List ResultVar}{X:Ending→World→Prop}(hf:P.funcs[f]?=some fn)(hn:fn.ntmps=m)(hb:fn.body=some Ia)(hr:fn.results=rs.toArray)[z:Zp vs [0,1,2,3,4,5,6,7,8,9,10,11] l](h:∀ a,Fr a m l→Ia.wp P (qS P rs X) a w)
   (hm:(Nat.ble vs.length m&&Nat.ble vs.length 12)=true:=by rfl):Calls P f vs.toArray w X:=by
 rw[fk]at hm;refine PB hf hb hn (Nat.le_of_ble_eq_true hm.1) λa E=>wp_mono (h a ?_) λ_ _ _ hq=>hq fn hr;have CO:=Nat.le_of_ble_eq_true hm.2;rw[← z.h];have e:((List.range vs.length).zip vs)=[0,1,2,3,4,5,6,7,8,9,10,11].zip vs:=by
  have h3:[0,1,2,3,4,5,6,7,8,9,10,11]=List.range (vs.length+(12-vs.length)):=by rw[show vs.length+(12-vs.length)=12 from by omega];rfl
  rw[h3,List.range_add];have h4:=List.zip_append (l₁:=List.range vs.length) (l₂:=vs) (r₁:=(List.range (12-vs.length)).map (vs.length+·)) (r₂:=[]) (by simp);rw[append_nil]at h4;rw[h4];simp
 rw[← e];exact E
theorem RN (k:Nat)(E:Fr a n l)(I:U W w L)[r:Rn k n jN [] L l X b c l' Y](h:∀ a,Fr a n l'→Y a w)(hb:b=true:=by kernel_rfl)(hc:c:=by (repeat' refine And.intro ?_ ?_) <;> first | exact True.intro | omega | exact (rfl:_=_) | decide):X a w:=r.rn hb hc E I kK h
theorem RH (k:Nat)(E:Fr a n l)(I:U W w L)(hH:Hd C L0)(hC:C w)[r:Rn k n C L0 L l X b c l' Y](h:∀ a,Fr a n l'→Y a w)(hb:b=true:=by kernel_rfl)(hc:c:=by (repeat' refine And.intro ?_ ?_) <;> first | exact True.intro | omega | exact (rfl:_=_) | decide):X a w:=r.rn hb hc E I ⟨hH,hC⟩ h
theorem RT (k:Nat)(E:Fr a n l)(I:U W w L)[r:Rn k n jN [] L l X b c l' (r9 R v)](h:R (.returned v) w)(hb:b=true:=by kernel_rfl)(hc:c:=by (repeat' refine And.intro ?_ ?_) <;> first | exact True.intro | omega | exact (rfl:_=_) | decide):X a w:=r.rn hb hc E I kK λ_ _=>h
theorem IF (k:Nat)(E:Fr a n l)(I:U W w L)[r:Rn k n jN [] L l X b c l1 ((Code.cond (.tmp t) x y).wp P Q)][g1:fj l1 t (.bool b2)][iA:gT l1 t l2][l8:BP b2 p q]
   (ht:p→∀ a,Fr a n ((t,.bool true)::l2)→x.wp P Q a w) (hf:q→∀ a,Fr a n ((t,.bool false)::l2)→y.wp P Q a w) (hb:b=true:=by kernel_rfl) (hc:c:=by (repeat' refine And.intro ?_ ?_) <;> first | exact True.intro | omega | exact (rfl:_=_) | decide):X a w :=
 r.rn hb hc E I kK λa E=>E.by (s:=t) (λh E=>Hz E (ht h _ E)) (λh E=>HA E (hf h _ E))
theorem Q0 (k:Nat)(E:Fr a n l)(I:U W w L)[r:Rn k n jN [] L l X b c l1 ((Code.cond (.tmp t) x y).wp P Q)][g1:fj l1 t (.bool b2)][iA:gT l1 t l2]
   (ht:b2=true→∀ a,Fr a n ((t,.bool true)::l2)→x.wp P Q a w) (hf:b2=false→∀ a,Fr a n ((t,.bool false)::l2)→y.wp P Q a w) (hb:b=true:=by kernel_rfl) (hc:c:=by (repeat' refine And.intro ?_ ?_) <;> first | exact True.intro | omega | exact (rfl:_=_) | decide):X a w :=
 r.rn hb hc E I kK λa E=>E.bool (s:=t) (λh E=>Hz E (ht h _ E)) (λh E=>HA E (hf h _ E))
theorem BY (k:Nat)(E:Fr a n l)(I:U W w L)[r:Rn k n jN [] L l X b c l1 (cI P os.toArray Q ⟨dst,op,ty,ps,af,some (j,bp)⟩ K)][d1:tE os j t][g1:fj l1 t (.bool b2)][iA:gT l1 t l2][l8:BP b2 p q]
   (ht:p→∀ a,Fr a n ((t,.bool true)::l2)→cI P os.toArray Q ⟨dst,op,ty,ps,af,some (j,bp)⟩ K a w) (hf:q→∀ a,Fr a n ((t,.bool false)::l2)→cI P os.toArray Q ⟨dst,op,ty,ps,af,some (j,bp)⟩ K a w)
   (hb:b=true:=by kernel_rfl) (hc:c:=by (repeat' refine And.intro ?_ ?_) <;> first | exact True.intro | omega | exact (rfl:_=_) | decide):X a w :=
 r.rn hb hc E I kK λa E=>E.by (s:=t) (λh E=>ht h _ E) (λh E=>hf h _ E)
theorem xh (E:Fr a n l)[e:Gd os l g true][ev:n0 P l ce args f vs][vn:sa n l dst bp F]{X:Ending→World→Prop}(hc:Calls P f vs.toArray w X)(CP:bp=true)(hf:g9 P f=true)
   (h:∀ e w',X e w'→∃ v,e=.returned v∧∀ a',Fr a' n (F v)→K a' w'):cI P os.toArray Q ⟨dst,.call ⟨ce,args.toArray,o6⟩,ty,ps,af,g⟩ K a w :=
 Hu (e.h E) (ev.h hf E) hc λe w' hx=>let ⟨v,he,hv⟩:=h e w' hx;⟨v,he,hv _ (vn.h CP E)⟩
section
variable {α β γ:Type}{S0:World→Prop}{S1:α→World→Prop}{S2:α→β→World→Prop}{S3:α→β→γ→World→Prop}{v1:α→Value}{Ib:α→β→Value}{Ic:α→β→γ→Value}
theorem CL (k:Nat)(E:Fr a n l)(I:U W w L)[r:Rn k n jN [] L l X b c l1 (cI P os.toArray Q ⟨dst,.call ⟨ce,args.toArray,o6⟩,ty,ps,af,g⟩ K)][e:Gd os l1 g true][ev:n0 P l1 ce args f vs][vn:sa n l1 dst bp F]
   (hq:Calls P f vs.toArray w λr w'=>r=.returned v∧S0 w') (h:∀ a w,Fr a n (F v)→S0 w→K a w) (hb:(b&&bp)=true:=by kernel_rfl) (hf:g9 P f=true:=by kernel_rfl) (hc:c:=by (repeat' refine And.intro ?_ ?_) <;> first | exact True.intro | omega | exact (rfl:_=_) | decide):X a w:=by
 simp only[fk]at hb;exact r.rn hb.1 hc E I kK λa E=>xh E hq hb.2 hf λe w' ⟨h1,h2⟩=>⟨_,h1,λa E=>h a w' E h2⟩
theorem bh (k:Nat)(E:Fr a n l)(I:U W w L)[r:Rn k n jN [] L l X b c l1 (cI P os.toArray Q ⟨dst,.call ⟨ce,args.toArray,o6⟩,ty,ps,af,g⟩ K)][e:Gd os l1 g true][ev:n0 P l1 ce args f vs][vn:sa n l1 dst bp F]
   (hq:Calls P f vs.toArray w λr w'=>∃ x,r=.returned (v1 x)∧S1 x w') (h:∀ x a w,Fr a n (F (v1 x))→S1 x w→K a w) (hb:(b&&bp)=true:=by kernel_rfl) (hf:g9 P f=true:=by kernel_rfl) (hc:c:=by (repeat' refine And.intro ?_ ?_) <;> first | exact True.intro | omega | exact (rfl:_=_) | decide):X a w:=by
 simp only[fk]at hb;exact r.rn hb.1 hc E I kK λa E=>xh E hq hb.2 hf λe w' ⟨x,h1,h2⟩=>⟨_,h1,λa E=>h x a w' E h2⟩
theorem aY (k:Nat)(E:Fr a n l)(I:U W w L)[r:Rn k n jN [] L l X b c l1 (cI P os.toArray Q ⟨dst,.call ⟨ce,args.toArray,o6⟩,ty,ps,af,g⟩ K)][e:Gd os l1 g true][ev:n0 P l1 ce args f vs][vn:sa n l1 dst bp F]
   (hq:Calls P f vs.toArray w λr w'=>∃ x y,r=.returned (Ib x y)∧S2 x y w') (h:∀ x y a w,Fr a n (F (Ib x y))→S2 x y w→K a w) (hb:(b&&bp)=true:=by kernel_rfl) (hf:g9 P f=true:=by kernel_rfl) (hc:c:=by (repeat' refine And.intro ?_ ?_) <;> first | exact True.intro | omega | exact (rfl:_=_) | decide):X a w:=by
 simp only[fk]at hb;exact r.rn hb.1 hc E I kK λa E=>xh E hq hb.2 hf λe w' ⟨x,y,h1,h2⟩=>⟨_,h1,λa E=>h x y a w' E h2⟩
theorem jO (k:Nat)(E:Fr a n l)(I:U W w L)[r:Rn k n jN [] L l X b c l1 (cI P os.toArray Q ⟨dst,.call ⟨ce,args.toArray,o6⟩,ty,ps,af,g⟩ K)][e:Gd os l1 g true][ev:n0 P l1 ce args f vs][vn:sa n l1 dst bp F]
   (hq:Calls P f vs.toArray w λr w'=>∃ x y z,r=.returned (Ic x y z)∧S3 x y z w') (h:∀ x y z a w,Fr a n (F (Ic x y z))→S3 x y z w→K a w) (hb:(b&&bp)=true:=by kernel_rfl) (hf:g9 P f=true:=by kernel_rfl) (hc:c:=by (repeat' refine And.intro ?_ ?_) <;> first | exact True.intro | omega | exact (rfl:_=_) | decide):X a w:=by
 simp only[fk]at hb;exact r.rn hb.1 hc E I kK λa E=>xh E hq hb.2 hf λe w' ⟨x,y,z,h1,h2⟩=>⟨_,h1,λa E=>h x y z a w' E h2⟩
end
theorem jP (k:Nat)(E:Fr a n l)(I:U W w L)[r:Rn k n jN [] L l X b c l1 (cI P os.toArray Q ⟨dst,.call ⟨ce,args.toArray,o6⟩,ty,ps,af,g⟩ K)][e:Gd os l1 g true][ev:n0 P l1 ce args f vs][vn:sa n l1 dst bp F]{Z:Ending→World→Prop}
   (hq:Calls P f vs.toArray w Z) (h:∀ e w,Z e w→∃ v,e=.returned v∧∀ a,Fr a n (F v)→K a w) (hb:(b&&bp)=true:=by kernel_rfl) (hf:g9 P f=true:=by kernel_rfl) (hc:c:=by (repeat' refine And.intro ?_ ?_) <;> first | exact True.intro | omega | exact (rfl:_=_) | decide):X a w:=by
 simp only[fk]at hb;exact r.rn hb.1 hc E I kK λa E=>xh E hq hb.2 hf h
variable {cs lY:List Value}{zr:TypeId}{S:List SP}
theorem ST (k:Nat)(E:Fr a n l)(I:U W w L)[r:Rn k n jN [] L l X b c l1 (cI P os.toArray Q ⟨none,.store t xo zq,ty,ps,af,g⟩ K)][qT:Gd os l1 g true][ev:Ev l1 xo (.pointer (some ⟨bb,off,none⟩))][tw:Ev l1 zq v][hi:TI P t zv 1 a1][pY:Cells v [v]][o1:One v]
   [Ct:fC L bb zr cs S] [sc:pW cs off v lY] (h:∀ a w,Fr a n l1→U W w (aa bb zr lY::S)→K a w) (hb:b=true:=by kernel_rfl) (hc:c:=by (repeat' refine And.intro ?_ ?_) <;> first | exact True.intro | omega | exact (rfl:_=_) | decide) (hlt:off<cs.length:=by first | exact Nat.aen rfl | omega | simp):X a w :=
 r.rn hb hc E I kK λa E=>Hs E (qT.h E) I hi o1.h hlt h
theorem SA (k:Nat)(E:Fr a n l)(I:U W w L)[r:Rn k n jN [] L l X b c l1 (cI P os.toArray Q ⟨none,.store t xo zq,ty,ps,af,g⟩ K)][qT:Gd os l1 g true][ev:Ev l1 xo (.pointer (some ⟨bb,0,none⟩))][tw:Ev l1 zq v][hi:TI P t zv m a1][pY:Cells v vs][le:l6 vs m][o1:sb vs]
   [Ct:fC L bb zr cs S] [Q1:l6 cs m] (h:∀ a w,Fr a n l1→U W w (aa bb zr vs::S)→K a w) (hb:b=true:=by kernel_rfl) (hc:c:=by (repeat' refine And.intro ?_ ?_) <;> first | exact True.intro | omega | exact (rfl:_=_) | decide):X a w :=
 r.rn hb hc E I kK λa E=>Pt E (qT.h E) I (by rw[le.h];exact hi) o1.h (by rw[le.h,Q1.h]) h
theorem AL (k:Nat)(E:Fr a n l)(I:U W w L)[r:Rn k n jN [] L l X b c l1 (cI P os.toArray Q ⟨some d,.alloc t,ty,ps,af,g⟩ K)][qT:Gd os l1 g true][hi:TI P t zv m a1][pY:Cells zv vs][q:gT l1 d l2]
   (h:∀ b a w',Fr a n ((d,.pointer (some ⟨b,0,none⟩))::l2)→U W w' (aa b t vs::L)→K a w') (hb:(b&&okB d n l2)=true:=by kernel_rfl) (hc:c:=by (repeat' refine And.intro ?_ ?_) <;> first | exact True.intro | omega | exact (rfl:_=_) | decide):X a w:=by
 rw[fk]at hb;exact r.rn hb.1 hc E I kK λa E=>eV (E.del d) (qT.h E) I hi hb.2 λb a w E I _=>h b a w E I
theorem BX (k:Nat)(E:Fr a n l)(I:U W w L)[r:Rn k n jN [] L l X b c l1 (cI P os.toArray Q ⟨some d,.box t xo,ty,ps,af,g⟩ K)][qT:Gd os l1 g true][ev:Ev l1 xo v][pY:Cells v vs][q:gT l1 d l2]
   (h:∀ b a w',Fr a n ((d,.pointer (some ⟨b,0,none⟩))::l2)→U W w' (aa b t vs::L)→K a w') (hb:(b&&okB d n l2)=true:=by kernel_rfl) (hc:c:=by (repeat' refine And.intro ?_ ?_) <;> first | exact True.intro | omega | exact (rfl:_=_) | decide):X a w:=by
 rw[fk]at hb;refine r.rn hb.1 hc E I kK λa E=>?_;have:=ev.ev a n E;refine bo (v:=.pointer (some ⟨w.heap.size,0,none⟩)) (w':=w.alloc (.cells vs.toArray t)) (E.del d) (qT.h E) ?_ hb.2 (λa' db=>h _ _ _ db (I.alloc _));simp[execOp,Instr.box,this,newVar,newRow,newObj,Sem.run,pY.h,Sem.run_bind]
theorem SX (k:Nat)(E:Fr a n l)(I:U W w L)[r:Rn k n jN [] L l X b c l1 (cI P os.toArray Q ⟨some d,op,ty,ps,af,g⟩ K)][qT:Gd os l1 g true][s:Sx P L l1 op dL v][q:gT l1 d l2](h1:dL)
   (h:∀ a,Fr a n ((d,v)::l2)→K a w) (hb:(b&&okB d n l2)=true:=by kernel_rfl) (hc:c:=by (repeat' refine And.intro ?_ ?_) <;> first | exact True.intro | omega | exact (rfl:_=_) | decide):X a w:=by
 rw[fk]at hb;exact r.rn hb.1 hc E I kK λa E=>bo (E.del d) (qT.h E) (s.ex h1 E (Lk.of I)) hb.2 h
theorem QP [p:nZ os i ⟨some d,op,ty,ps,af,g⟩][pk:mQ Q][e:Gd os l g true][q:gT l d l1](E:Fr a n l)(hr:∀ w,(execOp a.eval ⟨some d,op,ty,ps,af,g⟩).run P w=.ok (.value v) w)
   (h:∀ a,Fr a n ((d,v)::l1)→fY P os.toArray Q C2 bg od fuel (l7 m i) a w) (hb:(mM os.toArray (lb os.toArray.size m) bg true i&&!bg.contains i&&okB d n l1)=true:=by kernel_rfl):fY P os.toArray Q C2 bg (i::od) (fuel+1) m a w:=by
 simp only[fk,Bool.not_eq_true']at hb;exact HQ (p6 _ _ _) (by rw[getElem?_toArray];exact p.h) hb.1.1 hb.1.2 pk.h (E.del d) (e.h E) hr hb.2 h
theorem QH [p:nZ os i ⟨some d,op,ty,ps,af,g⟩][pk:mQ Q][e:Gd os l g true][q:gT l d l1](E:Fr a n l)(hr:∀ w,C2 w→(execOp a.eval ⟨some d,op,ty,ps,af,g⟩).run P w=.ok (.value v) w)(hC:C2 w)
   (h:∀ a,Fr a n ((d,v)::l1)→fY P os.toArray Q C2 bg od fuel (l7 m i) a w) (hb:(mM os.toArray (lb os.toArray.size m) bg false i&&okB d n l1)=true:=by kernel_rfl):fY P os.toArray Q C2 bg ((i+3000)::od) (fuel+1) m a w:=by
 simp only[fk]at hb;exact HR (p6 _ _ _) (by rw[getElem?_toArray];exact p.h) hb.1 pk.h (E.del d) (e.h E) hr hC hb.2 h
theorem aV (k:Nat)(C:World→World→Prop)(bg od:List Nat)(E:Fr a n l)(I:U W w L)[r:Rn k n jN [] L l X b c l1 ((Code.region i os.toArray true).wp P Q)][pk:mQ Q][xi:zp P]
   (h:∀ a w,Fr a n l1→U W w L→Hd (C w) []→fY P os.toArray Q (C w) bg od os.length 0 a w) (hb:b=true:=by kernel_rfl) (hc:c:=by (repeat' refine And.intro ?_ ?_) <;> first | exact True.intro | omega | exact (rfl:_=_) | decide):X a w :=
 r.rn hb hc E I kK λa E=>Go.Proofs.YteoldcfapaiobaaGreat.DW (C w.drew) bg od xi.h pk.h (λ_=>h a _ E I.drew (Hd.any _)) List.size_toArray
theorem qU (k:Nat)(C:World→Prop)(bg od:List Nat)(E:Fr a n l)(I:U W w L)[r:Rn k n jN [] L l X b c l1 ((Code.region i os.toArray true).wp P Q)][pk:mQ Q][xi:zp P]
   (h:∀ a,Fr a n l1→fY P os.toArray Q C bg od os.length 0 a w.drew) (hb:b=true:=by kernel_rfl) (hc:c:=by (repeat' refine And.intro ?_ ?_) <;> first | exact True.intro | omega | exact (rfl:_=_) | decide):X a w :=
 r.rn hb hc E I kK λa E=>Go.Proofs.YteoldcfapaiobaaGreat.DW C bg od xi.h pk.h (λ_=>h a E) List.size_toArray
theorem bQ (k:Nat)(bg od:List Nat)(E:Fr a n l)(I:U W w L)[r:Rn k n jN [] L l X b c l1 ((Code.region i os.toArray true).wp P Q)][pk:mQ Q][xi:zp P]
   (h:∀ a w,Fr a n l1→U W w L→Hd (Old w) L→Old w w→fY P os.toArray Q (Old w) bg od os.length 0 a w) (hb:b=true:=by kernel_rfl) (hc:c:=by (repeat' refine And.intro ?_ ?_) <;> first | exact True.intro | omega | exact (rfl:_=_) | decide):X a w :=
 r.rn hb hc E I kK λa E=>Go.Proofs.YteoldcfapaiobaaGreat.DW (Old w.drew) bg od xi.h pk.h (λ_=>h a _ E I.drew (Hd.gy I.drew) (Old.refl _)) List.size_toArray
end
section
variable {P:Program}{ops:Array Oper}{Q:Exit→Act→World→Prop}{C:World→Prop}{bg:List Nat}{fuel m:Nat}{a:Act}{w:World}
def xj (P:Program)(ops:Array Oper)(Q:Exit→Act→World→Prop)(C:World→Prop)(bg:List Nat)(fuel m:Nat)(a:Act)(w:World):List (Nat×List Nat)→Prop
 | []=>True
 | (i,od)::r=>(∃ o,ops[i]?=some o∧cI P ops Q o (CN (bg.contains i) C (fY P ops Q C bg od fuel (l7 m i))) a w)∧xj P ops Q C bg fuel m a w r
theorem xj.get:∀ {l:List (Nat×List Nat)} {i:Nat},xj P ops Q C bg fuel m a w l→i∈l.map (·.1)→∃ (o:Oper) (od:List Nat),ops[i]?=some o∧cI P ops Q o (CN (bg.contains i) C (fY P ops Q C bg od fuel (l7 m i))) a w
 | [],_,_,h=>by simp at h
 | (j,od)::r,i,⟨⟨o,h1,h2⟩,h3⟩,h=>by
  rw[map_cons]at h;rcases List.mem_cons.1 h with rfl | h
  ·exact⟨o,od,h1,h2⟩
  ·exact xj.get h3 h
theorem DN {od:List Nat}(l:List (Nat×List Nat))(hr:Region.ready .any ops (lb ops.size m)=l.map (·.1))(bD:l.isEmpty=false)(h:xj P ops Q C bg fuel m a w l):fY P ops Q C bg od (fuel+1) m a w:=by
 refine⟨λh0=>?_,λj hj=>?_⟩
 ·rw[hr]at h0;cases l with
  | nil=>cases bD
  | cons x r=>cases h0
 ·rw[hr]at hj;obtain⟨o,od,h1,h2⟩:=h.get hj;simp only[wpOp,h1,p6];exact h2
end
end
section
abbrev pt (b:Nat):Value:=.pointer (some ⟨b,0,none⟩)
theorem Hd.at {C:World→Prop}{L:List SP}(_:Hd C L)(w:World)(h:C w):C w:=h
theorem ae {P:Program}{a:Act}{w:World}{n:Nat}{l:List (Nat × Value)}{x ad t v dst ty ps af g}(E:Fr a n l)(hc:w.cell? ad=some v)[u:Cw P t][ev:Ev l x (.pointer (some ad))]:(execOp a.eval ⟨dst,.load t x,ty,ps,af,g⟩).run P w=.ok (.value v) w:=by
 obtain ⟨ee,h1,h2⟩:=u.h;exact Hq E h1 h2 hc
theorem SS {P:Program}{ops:Array Oper}{Q:Exit→Act→World→Prop}{a:Act}{w:World}{K:Act→World→Prop}{n d:Nat}{l:List (Nat × Value)}{v:Value}{op ty ps af g}(E:Fr a n l)(hr:(execOp a.eval ⟨some d,op,ty,ps,af,g⟩).run P w=.ok (.value v) w)(h:∀ a',Fr a' n ((d,v)::l)→K a' w)(hw:Region.wanted ⟨some d,op,ty,ps,af,g⟩ (yielded ops a.tmps)=true:=by rfl)(hf:okB d n l=true:=by rfl):cI P ops Q ⟨some d,op,ty,ps,af,g⟩ K a w:=bo E hw hr hf h
end
section
instance Ty.t2:TI prog 2 (.int .i64 0) 1 8:=TI.of (by kernel_rfl)
instance Ty.t3:TI prog 3 (.int .i64 0) 1 8:=TI.of (by kernel_rfl)
instance Ty.t4:TI prog 4 (.bool false) 1 1:=TI.of (by kernel_rfl)
instance Ty.t5:TI prog 5 (.int .u8 0) 1 1:=TI.of (by kernel_rfl)
instance Ty.t9:TI prog 9 (.string ⟨#[]⟩) 1 16:=TI.of (by kernel_rfl)
instance Ty.t21:TI prog 21 (.int .i32 0) 1 4:=TI.of (by kernel_rfl)
instance Ty.t22:TI prog 22 (.slice none 0 0) 1 24:=TI.of (by kernel_rfl)
instance Ty.t28:TI prog 28 (.agg #[.int .i64 0,.int .i64 0,.int .i64 0,.int .i64 0,.int .i64 0,.int .i64 0,.int .i64 0,.int .i64 0,.int .i64 0,.int .i64 0]) 10 80:=TI.of (by kernel_rfl)
instance Ty.t31:TI prog 31 (.pointer none) 1 8:=TI.of (by kernel_rfl)
instance Ty.t33:TI prog 33 (.agg #[.pointer none,.int .i64 0,.bool false]) 3 24:=TI.of (by kernel_rfl)
instance Ty.t34:TI prog 34 (.pointer none) 1 8:=TI.of (by kernel_rfl)
instance Ty.t35:TI prog 35 (.pointer none) 1 8:=TI.of (by kernel_rfl)
instance Ty.t36:TI prog 36 (.slice none 0 0) 1 24:=TI.of (by kernel_rfl)
instance Ty.t37:TI prog 37 (.slice none 0 0) 1 24:=TI.of (by kernel_rfl)
instance Ty.t38:TI prog 38 (.slice none 0 0) 1 24:=TI.of (by kernel_rfl)
instance Ty.t40:TI prog 40 (.agg #[.pointer none,.slice none 0 0,.slice none 0 0,.slice none 0 0]) 4 80:=TI.of (by kernel_rfl)
instance Ty.t42:TI prog 42 (.pointer none) 1 8:=TI.of (by kernel_rfl)
instance Ty.t43:TI prog 43 (.slice none 0 0) 1 24:=TI.of (by kernel_rfl)
instance Ty.t45:TI prog 45 (.agg #[.string ⟨#[]⟩,.slice none 0 0]) 2 40:=TI.of (by kernel_rfl)
instance Ty.t47:TI prog 47 (.agg #[.int .i64 0,.int .i64 0,.slice none 0 0]) 3 40:=TI.of (by kernel_rfl)
instance Ty.t49:TI prog 49 (.agg #[.int .i32 0,.int .i32 0,.int .i32 0,.int .i32 0,.int .i32 0,.int .i32 0,.int .i32 0,.int .i32 0,.int .i32 0,.int .i32 0,.int .i32 0,.int .i32 0,.int .i32 0,.int .i32 0,.int .i32 0,.int .i32 0,.int .i32 0,.int .i32 0,.int .i32 0,.int .i32 0,.int .i32 0,.int .i32 0,.int .i32 0,.int .i32 0,.int .i32 0,.int .i32 0,.int .i32 0,.int .i32 0,.int .i32 0,.int .i32 0,.int .i32 0,.int .i32 0]) 32 128:=TI.of (by kernel_rfl)
instance Ty.t51:TI prog 51 (.agg ((.pointer none::.string ⟨#[]⟩::.slice none 0 0::.int .i64 0::.int .i64 0::.slice none 0 0::.int .i32 0::.int .i32 0::.int .i32 0::.int .i32 0::.int .i32 0::.int .i32 0::.int .i32 0::.int .i32 0::.int .i32 0::.int .i32 0::.int .i32 0::.int .i32 0::.int .i32 0::.int .i32 0::.int .i32 0::.int .i32 0::.int .i32 0::.int .i32 0::.int .i32 0::.int .i32 0::.int .i32 0::.int .i32 0::.int .i32 0::.int .i32 0::.int .i32 0::.int .i32 0::.int .i32 0::.int .i32 0::.int .i32 0::.int .i32 0::.int .i32 0::.int .i32 0::[]):List Value).toArray) 38 216:=TI.of (by kernel_rfl)
instance Ty.t53:TI prog 53 (.slice none 0 0) 1 24:=TI.of (by kernel_rfl)
instance Ty.t58:TI prog 58 (.agg #[.int .i64 0,.int .i64 0,.int .i64 0,.int .i64 0]) 4 32:=TI.of (by kernel_rfl)
instance Ty.t60:TI prog 60 (.agg #[.int .i64 0,.int .i64 0,.slice none 0 0]) 3 40:=TI.of (by kernel_rfl)
instance Ty.t62:TI prog 62 (.pointer none) 1 8:=TI.of (by kernel_rfl)
instance Ty.t65:TI prog 65 (.agg #[.slice none 0 0]) 1 24:=TI.of (by kernel_rfl)
instance Ty.t66:TI prog 66 (.slice none 0 0) 1 24:=TI.of (by kernel_rfl)
instance Ty.t67:TI prog 67 (.slice none 0 0) 1 24:=TI.of (by kernel_rfl)
instance Ty.t68:TI prog 68 (.slice none 0 0) 1 24:=TI.of (by kernel_rfl)
instance Ty.t69:TI prog 69 (.slice none 0 0) 1 24:=TI.of (by kernel_rfl)
instance Ty.t70:TI prog 70 (.slice none 0 0) 1 24:=TI.of (by kernel_rfl)
instance Ty.t72:TI prog 72 (.agg #[.int .i64 0,.int .i64 0,.int .i64 0,.int .i64 0,.int .i64 0,.int .i64 0,.int .i64 0,.int .i64 0,.int .i64 0,.int .i64 0,.slice none 0 0,.int .i64 0,.slice none 0 0,.slice none 0 0,.slice none 0 0,.slice none 0 0,.slice none 0 0,.slice none 0 0,.bool false]) 19 264:=TI.of (by kernel_rfl)
instance Ty.t81:TI prog 81 (.nilIface) 1 16:=TI.of (by kernel_rfl)
instance Ty.t90:TI prog 90 (.slice none 0 0) 1 24:=TI.of (by kernel_rfl)
instance Ty.t100:TI prog 100 (.int .u32 0) 1 4:=TI.of (by kernel_rfl)
instance Ty.t102:TI prog 102 (.agg #[.int .i64 0,.int .i64 0,.int .i64 0]) 3 24:=TI.of (by kernel_rfl)
instance Ty.t104:TI prog 104 (.slice none 0 0) 1 24:=TI.of (by kernel_rfl)
instance Ty.t105:TI prog 105 (.slice none 0 0) 1 24:=TI.of (by kernel_rfl)
instance Ty.t107:TI prog 107 (.agg #[.slice none 0 0,.pointer none,.slice none 0 0]) 3 56:=TI.of (by kernel_rfl)
instance Ty.t108:TI prog 108 (.slice none 0 0) 1 24:=TI.of (by kernel_rfl)
instance Ty.t110:TI prog 110 (.agg #[.slice none 0 0]) 1 24:=TI.of (by kernel_rfl)
instance Ty.t114:TI prog 114 (.agg #[.int .i64 0,.int .i64 0,.int .i64 0,.int .i64 0]) 4 32:=TI.of (by kernel_rfl)
instance Ty.t124:TI prog 124 (.agg #[.int .i64 0,.int .i64 0,.slice none 0 0]) 3 40:=TI.of (by kernel_rfl)
instance Ty.t133:TI prog 133 (.nilIface) 1 16:=TI.of (by kernel_rfl)
instance Ty.t135:TI prog 135 (.agg #[.nilIface]) 1 16:=TI.of (by kernel_rfl)
instance Ty.t139:TI prog 139 (.pointer none) 1 8:=TI.of (by kernel_rfl)
instance Ty.t158:TI prog 158 (.pointer none) 1 8:=TI.of (by kernel_rfl)
instance Ty.t162:TI prog 162 (.pointer none) 1 8:=TI.of (by kernel_rfl)
instance Ty.t164:TI prog 164 (.agg (List.replicate 201 (.int .i64 0)).toArray) 201 1608:=TI.of (by kernel_rfl)
instance Ty.t166:TI prog 166 (.int .i64 0) 1 8:=TI.of (by kernel_rfl)
instance Ty.t168:TI prog 168 (.slice none 0 0) 1 24:=TI.of (by kernel_rfl)
instance Ty.t169:TI prog 169 (.pointer none) 1 8:=TI.of (by kernel_rfl)
instance Ty.t173:TI prog 173 (.pointer none) 1 8:=TI.of (by kernel_rfl)
instance Ty.t175:TI prog 175 (.slice none 0 0) 1 24:=TI.of (by kernel_rfl)
instance Ty.t177:TI prog 177 (.agg #[.pointer none,.string ⟨#[]⟩,.slice none 0 0,.pointer none,.pointer none,.pointer none,.slice none 0 0,.int .i64 0,.int .i64 0]) 9 112:=TI.of (by kernel_rfl)
instance Ty.t179:TI prog 179 (.pointer none) 1 8:=TI.of (by kernel_rfl)
instance Ty.t183:TI prog 183 (.agg #[.int .i32 0,.int .i32 0,.int .i32 0,.int .i32 0,.int .i32 0,.int .i32 0,.int .i32 0,.int .i32 0,.int .i32 0,.int .i32 0,.int .i32 0,.int .i32 0,.int .i32 0,.int .i32 0,.int .i32 0,.int .i32 0,.int .i32 0,.int .i32 0,.int .i32 0,.int .i32 0,.int .i32 0,.int .i32 0,.int .i32 0,.int .i32 0,.int .i32 0,.int .i32 0,.int .i32 0,.int .i32 0,.int .i32 0,.int .i32 0,.int .i32 0,.int .i32 0]) 32 128:=TI.of (by kernel_rfl)
instance Ty.t186:TI prog 186 (.agg #[.int .i64 0,.int .i64 0,.slice none 0 0]) 3 40:=TI.of (by kernel_rfl)
instance Ty.t187:TI prog 187 (.pointer none) 1 8:=TI.of (by kernel_rfl)
instance Ty.t192:TI prog 192 (.agg ((.pointer none::.string ⟨#[]⟩::.slice none 0 0::.int .i64 0::.int .i64 0::.slice none 0 0::.int .i32 0::.int .i32 0::.int .i32 0::.int .i32 0::.int .i32 0::.int .i32 0::.int .i32 0::.int .i32 0::.int .i32 0::.int .i32 0::.int .i32 0::.int .i32 0::.int .i32 0::.int .i32 0::.int .i32 0::.int .i32 0::.int .i32 0::.int .i32 0::.int .i32 0::.int .i32 0::.int .i32 0::.int .i32 0::.int .i32 0::.int .i32 0::.int .i32 0::.int .i32 0::.int .i32 0::.int .i32 0::.int .i32 0::.int .i32 0::.int .i32 0::.int .i32 0::[]):List Value).toArray) 38 216:=TI.of (by kernel_rfl)
instance Ty.t203:TI prog 203 (.agg #[.int .i64 0,.int .i64 0,.int .i64 0,.int .i64 0,.int .i64 0,.slice none 0 0,.int .i64 0,.int .i64 0,.int .u32 0]) 9 88:=TI.of (by kernel_rfl)
instance Ty.t207:TI prog 207 (.slice none 0 0) 1 24:=TI.of (by kernel_rfl)
instance Ty.t210:TI prog 210 (.agg #[.int .i64 0]) 1 8:=TI.of (by kernel_rfl)
instance Ty.t211:TI prog 211 (.agg #[.int .i64 0]) 1 8:=TI.of (by kernel_rfl)
instance Ty.t213:TI prog 213 (.agg #[.int .i64 0,.int .i64 0]) 2 16:=TI.of (by kernel_rfl)
instance Ty.t218:TI prog 218 (.map none) 1 8:=TI.of (by kernel_rfl)
instance Ty.t219:TI prog 219 (.pointer none) 1 8:=TI.of (by kernel_rfl)
instance Ty.t221:TI prog 221 (.agg #[.pointer none,.map none,.int .i64 0]) 3 24:=TI.of (by kernel_rfl)
instance Ty.t222:TI prog 222 (.slice none 0 0) 1 24:=TI.of (by kernel_rfl)
instance Ty.t224:TI prog 224 (.agg #[.slice none 0 0]) 1 24:=TI.of (by kernel_rfl)
instance Ty.t225:TI prog 225 (.agg #[.int .i32 0,.int .i32 0,.int .i32 0,.int .i32 0,.int .i32 0,.int .i32 0,.int .i32 0,.int .i32 0]) 8 32:=TI.of (by kernel_rfl)
instance Ty.t227:TI prog 227 (.agg #[.int .i32 0,.int .i32 0,.int .i32 0,.int .i32 0,.int .i32 0,.int .i32 0,.int .i32 0,.int .i32 0,.int .i64 0]) 9 40:=TI.of (by kernel_rfl)
instance Ty.t230:TI prog 230 (.agg #[.int .i64 0,.int .i64 0,.int .i64 0,.int .i64 0]) 4 32:=TI.of (by kernel_rfl)
instance Ty.t232:TI prog 232 (.agg #[.int .i64 0,.int .i64 0,.int .i64 0,.int .i64 0,.int .i64 0]) 5 40:=TI.of (by kernel_rfl)
instance Ty.t236:TI prog 236 (.agg #[.pointer none,.int .i64 0,.slice none 0 0,.int .i64 0,.int .i64 0]) 5 56:=TI.of (by kernel_rfl)
instance Ty.t238:TI prog 238 (.agg #[.int .i64 0,.int .i64 0,.slice none 0 0,.int .i64 0,.int .i64 0]) 5 56:=TI.of (by kernel_rfl)
instance Ty.t241:TI prog 241 (.slice none 0 0) 1 24:=TI.of (by kernel_rfl)
instance Ty.t243:TI prog 243 (.agg #[.slice none 0 0]) 1 24:=TI.of (by kernel_rfl)
instance Ty.t245:TI prog 245 (.agg #[.int .i64 0,.int .i64 0]) 2 16:=TI.of (by kernel_rfl)
instance Ty.t247:TI prog 247 (.agg #[.string ⟨#[]⟩,.slice none 0 0,.pointer none,.pointer none,.pointer none,.bool false,.int .i64 0,.int .i64 0,.int .i64 0,.int .i64 0,.bool false]) 11 112:=TI.of (by kernel_rfl)
instance Ty.t253:TI prog 253 (.pointer none) 1 8:=TI.of (by kernel_rfl)
instance Ty.t255:TI prog 255 (.slice none 0 0) 1 24:=TI.of (by kernel_rfl)
instance Ty.t257:TI prog 257 (.agg #[.int .i64 0,.int .i64 0,.int .i64 0,.int .i64 0,.int .i64 0,.int .i64 0,.int .i64 0,.int .i64 0,.int .i64 0,.int .i64 0,.pointer none,.slice none 0 0,.slice none 0 0,.slice none 0 0,.int .i64 0,.bool false]) 16 176:=TI.of (by kernel_rfl)
instance Ty.t259:TI prog 259 (.agg #[.int .i64 0,.int .i64 0,.int .i64 0,.int .u32 0,.bool false]) 5 32:=TI.of (by kernel_rfl)
instance Ty.t286:TI prog 286 (.slice none 0 0) 1 24:=TI.of (by kernel_rfl)
instance Ty.t288:TI prog 288 (.agg #[.slice none 0 0]) 1 24:=TI.of (by kernel_rfl)
instance Ty.t289:TI prog 289 (.pointer none) 1 8:=TI.of (by kernel_rfl)
instance Ty.t296:TI prog 296 (.agg ((.int .i32 0::.int .i32 0::.int .i32 0::.int .i32 0::.int .i32 0::.int .i32 0::.int .i32 0::.int .i32 0::.int .i32 0::.int .i32 0::.int .i32 0::.int .i32 0::.int .i32 0::.int .i32 0::.int .i32 0::.int .i32 0::.int .i32 0::.int .i32 0::.int .i32 0::.int .i32 0::.int .i32 0::.int .i32 0::.int .i32 0::.int .i32 0::.int .i32 0::.int .i32 0::.int .i32 0::.int .i32 0::.int .i32 0::.int .i32 0::.int .i32 0::.int .i32 0::[]):List Value).toArray) 32 128:=TI.of (by kernel_rfl)
instance Ty.t307:TI prog 307 (.agg #[.pointer none,.int .i64 0,.bool false]) 3 24:=TI.of (by kernel_rfl)
instance Ty.t313:TI prog 313 (.agg #[.int .i64 0,.int .u32 0]) 2 16:=TI.of (by kernel_rfl)
instance Ty.t320:TI prog 320 (.agg (List.replicate 256 (.int .i64 0)).toArray) 256 2048:=TI.of (by kernel_rfl)
instance Ty.t322:TI prog 322 (.agg (List.replicate 256 (.bool false)).toArray) 256 256:=TI.of (by kernel_rfl)
instance Ty.t328:TI prog 328 (.agg #[.slice none 0 0]) 1 24:=TI.of (by kernel_rfl)
instance Ty.t333:TI prog 333 (.nilIface) 1 16:=TI.of (by kernel_rfl)
instance Ty.t336:TI prog 336 (.agg #[.string ⟨#[]⟩,.slice none 0 0,.nilIface,.int .i64 0,.slice none 0 0,.int .i64 0]) 6 96:=TI.of (by kernel_rfl)
instance Ty.t345:TI prog 345 (.agg #[.int .i64 0,.int .i64 0,.int .i64 0,.int .i64 0]) 4 32:=TI.of (by kernel_rfl)
instance Ty.t423:TI prog 423 (.agg #[.int .u8 0,.int .u8 0]) 2 2:=TI.of (by kernel_rfl)
instance Ty.t427:TI prog 427 (.agg #[.slice none 0 0,.bool false]) 2 32:=TI.of (by kernel_rfl)
instance Ty.t429:TI prog 429 (.agg #[.int .i64 0,.int .i64 0,.int .i64 0]) 3 24:=TI.of (by kernel_rfl)
instance Ty.Ie:eg prog 28 [(0,1),(1,1),(2,1),(3,1),(4,1),(5,1),(6,1),(7,1),(8,1),(9,1)]:=⟨_,underlying28,λw=>by kernel_rfl⟩
instance Ty.jB:eg prog 33 [(0,1),(1,1),(2,1)]:=⟨_,underlying33,λw=>by kernel_rfl⟩
instance Ty.Ig:eg prog 40 [(0,1),(1,1),(2,1),(3,1)]:=⟨_,underlying40,λw=>by kernel_rfl⟩
instance Ty.b45:eg prog 45 [(0,1),(1,1)]:=⟨_,underlying45,λw=>by kernel_rfl⟩
instance Ty.b47:eg prog 47 [(0,1),(1,1),(2,1)]:=⟨_,underlying47,λw=>by kernel_rfl⟩
instance Ty.Q2:eg prog 51 [(0,1),(1,2),(3,3),(6,32)]:=⟨_,underlying51,λw=>by kernel_rfl⟩
instance Ty.b58:eg prog 58 [(0,1),(1,1),(2,1),(3,1)]:=⟨_,underlying58,λw=>by kernel_rfl⟩
instance Ty.Q3:eg prog 60 [(0,1),(1,1),(2,1)]:=⟨_,underlying60,λw=>by kernel_rfl⟩
instance Ty.Q4:eg prog 65 [(0,1)]:=⟨_,underlying65,λw=>by kernel_rfl⟩
instance Ty.b72:eg prog 72 [(0,10),(10,1),(11,1),(12,1),(13,1),(14,1),(15,1),(16,1),(17,1),(18,1)]:=⟨_,underlying72,λw=>by kernel_rfl⟩
instance Ty.aeo:eg prog 102 [(0,1),(1,1),(2,1)]:=⟨_,underlying102,λw=>by kernel_rfl⟩
instance Ty.aep:eg prog 107 [(0,1),(1,1),(2,1)]:=⟨_,underlying107,λw=>by kernel_rfl⟩
instance Ty.Q5:eg prog 110 [(0,1)]:=⟨_,underlying110,λw=>by kernel_rfl⟩
instance Ty.Q6:eg prog 114 [(0,1),(1,1),(2,1),(3,1)]:=⟨_,underlying114,λw=>by kernel_rfl⟩
instance Ty.aeq:eg prog 124 [(0,1),(1,1),(2,1)]:=⟨_,underlying124,λw=>by kernel_rfl⟩
instance Ty.aer:eg prog 135 [(0,1)]:=⟨_,underlying135,λw=>by kernel_rfl⟩
instance Ty.aes:eg prog 177 [(0,1),(1,2),(3,1),(4,1),(5,1),(6,1),(7,1),(8,1)]:=⟨_,underlying177,λw=>by kernel_rfl⟩
instance Ty.aet:eg prog 186 [(0,1),(1,1),(2,1)]:=⟨_,underlying186,λw=>by kernel_rfl⟩
instance Ty.aeu:eg prog 192 [(0,1),(1,2),(3,3),(6,32)]:=⟨_,underlying192,λw=>by kernel_rfl⟩
instance Ty.aev:eg prog 203 [(0,1),(1,1),(2,1),(3,1),(4,1),(5,1),(6,1),(7,1),(8,1)]:=⟨_,underlying203,λw=>by kernel_rfl⟩
instance Ty.aew:eg prog 210 [(0,1)]:=⟨_,underlying210,λw=>by kernel_rfl⟩
instance Ty.aex:eg prog 211 [(0,1)]:=⟨_,underlying211,λw=>by kernel_rfl⟩
instance Ty.aey:eg prog 213 [(0,1),(1,1)]:=⟨_,underlying213,λw=>by kernel_rfl⟩
instance Ty.aez:eg prog 221 [(0,1),(1,1),(2,1)]:=⟨_,underlying221,λw=>by kernel_rfl⟩
instance Ty.aeA:eg prog 224 [(0,1)]:=⟨_,underlying224,λw=>by kernel_rfl⟩
instance Ty.aeB:eg prog 227 [(0,8),(8,1)]:=⟨_,underlying227,λw=>by kernel_rfl⟩
instance Ty.aeC:eg prog 236 [(0,1),(1,1),(2,1),(3,1),(4,1)]:=⟨_,underlying236,λw=>by kernel_rfl⟩
instance Ty.aeD:eg prog 238 [(0,1),(1,1),(2,1),(3,1),(4,1)]:=⟨_,underlying238,λw=>by kernel_rfl⟩
instance Ty.aeE:eg prog 243 [(0,1)]:=⟨_,underlying243,λw=>by kernel_rfl⟩
instance Ty.aeF:eg prog 245 [(0,1),(1,1)]:=⟨_,underlying245,λw=>by kernel_rfl⟩
instance Ty.aeG:eg prog 247 [(0,2),(2,1),(3,1),(4,1),(5,1),(6,2),(8,1),(9,1),(10,1)]:=⟨_,underlying247,λw=>by kernel_rfl⟩
instance Ty.aeH:eg prog 257 [(0,10),(10,1),(11,1),(12,1),(13,1),(14,1),(15,1)]:=⟨_,underlying257,λw=>by kernel_rfl⟩
instance Ty.aeI:eg prog 259 [(0,1),(1,1),(2,1),(3,1),(4,1)]:=⟨_,underlying259,λw=>by kernel_rfl⟩
instance Ty.aeJ:eg prog 288 [(0,1)]:=⟨_,underlying288,λw=>by kernel_rfl⟩
instance Ty.Q7:eg prog 296 [(0,32)]:=⟨_,underlying296,λw=>by kernel_rfl⟩
instance Ty.aeK:eg prog 307 [(0,1),(1,1),(2,1)]:=⟨_,underlying307,λw=>by kernel_rfl⟩
instance Ty.aeL:eg prog 313 [(0,1),(1,1)]:=⟨_,underlying313,λw=>by kernel_rfl⟩
instance Ty.aeM:eg prog 328 [(0,1)]:=⟨_,underlying328,λw=>by kernel_rfl⟩
instance Ty.aeN:eg prog 336 [(0,2),(2,1),(3,1),(4,1),(5,1)]:=⟨_,underlying336,λw=>by kernel_rfl⟩
instance Ty.aeO:eg prog 427 [(0,1),(1,1)]:=⟨_,underlying427,λw=>by kernel_rfl⟩
abbrev U2:=aI.of underlying2
abbrev U3:=aI.of underlying3
abbrev U4:=aI.of underlying4
abbrev U5:=aI.of underlying5
abbrev U9:=aI.of underlying9
abbrev Q8:=aI.of underlying21
abbrev Q9:=aI.of underlying22
abbrev Ra:=aI.of underlying28
abbrev Rb:=aI.of underlying31
abbrev Rc:=aI.of underlying33
abbrev Re:=aI.of underlying34
abbrev Rf:=aI.of underlying35
abbrev Rg:=aI.of underlying36
abbrev Rh:=aI.of underlying37
abbrev Ri:=aI.of underlying38
abbrev Rj:=aI.of underlying40
abbrev Rk:=aI.of underlying42
abbrev Rl:=aI.of underlying43
abbrev Rm:=aI.of underlying45
abbrev Rp:=aI.of underlying47
abbrev Rq:=aI.of underlying49
abbrev Rr:=aI.of underlying51
abbrev Rs:=aI.of underlying53
abbrev Rt:=aI.of underlying54
abbrev Ru:=aI.of underlying55
abbrev Rv:=aI.of underlying58
abbrev Rw:=aI.of underlying60
abbrev Rx:=aI.of underlying62
abbrev Ry:=aI.of underlying65
abbrev Rz:=aI.of underlying66
abbrev RA:=aI.of underlying67
abbrev RB:=aI.of underlying68
abbrev RC:=aI.of underlying69
abbrev RD:=aI.of underlying70
abbrev RE:=aI.of underlying72
abbrev RF:=aI.of underlying74
abbrev RG:=aI.of underlying78
abbrev RJ:=aI.of underlying81
abbrev RK:=aI.of underlying84
abbrev RL:=aI.of underlying90
abbrev RM:=aI.of underlying100
abbrev RO:=aI.of underlying102
abbrev RP:=aI.of underlying104
abbrev RQ:=aI.of underlying105
abbrev RS:=aI.of underlying107
abbrev RU:=aI.of underlying108
abbrev RV:=aI.of underlying110
abbrev RW:=aI.of underlying114
abbrev RX:=aI.of underlying124
abbrev RY:=aI.of underlying133
abbrev RZ:=aI.of underlying135
abbrev R0:=aI.of underlying139
abbrev R4:=aI.of underlying158
abbrev R5:=aI.of underlying160
abbrev R6:=aI.of underlying162
abbrev R8:=aI.of underlying164
abbrev R9:=aI.of underlying166
abbrev Sa:=aI.of underlying168
abbrev Sb:=aI.of underlying169
abbrev Sc:=aI.of underlying173
abbrev Sd:=aI.of underlying175
abbrev Se:=aI.of underlying177
abbrev Sf:=aI.of underlying179
abbrev Sg:=aI.of underlying183
abbrev Sh:=aI.of underlying186
abbrev Si:=aI.of underlying187
abbrev Sj:=aI.of underlying192
abbrev Sk:=aI.of underlying203
abbrev Sm:=aI.of underlying207
abbrev Sp:=aI.of underlying210
abbrev Sq:=aI.of underlying211
abbrev Sr:=aI.of underlying213
abbrev Ss:=aI.of underlying218
abbrev St:=aI.of underlying219
abbrev Su:=aI.of underlying221
abbrev Sv:=aI.of underlying222
abbrev Sw:=aI.of underlying224
abbrev Sy:=aI.of underlying225
abbrev Sz:=aI.of underlying227
abbrev SB:=aI.of underlying230
abbrev SC:=aI.of underlying232
abbrev SD:=aI.of underlying233
abbrev SE:=aI.of underlying236
abbrev SF:=aI.of underlying238
abbrev SG:=aI.of underlying241
abbrev SH:=aI.of underlying243
abbrev SI:=aI.of underlying245
abbrev SJ:=aI.of underlying247
abbrev SL:=aI.of underlying253
abbrev SM:=aI.of underlying255
abbrev SN:=aI.of underlying257
abbrev SO:=aI.of underlying259
abbrev SQ:=aI.of underlying270
abbrev SR:=aI.of underlying286
abbrev SU:=aI.of underlying288
abbrev SV:=aI.of underlying289
abbrev SW:=aI.of underlying294
abbrev SY:=aI.of underlying296
abbrev SZ:=aI.of underlying305
abbrev S4:=aI.of underlying307
abbrev S5:=aI.of underlying313
abbrev S6:=aI.of underlying314
abbrev S7:=aI.of underlying319
abbrev S8:=aI.of underlying320
abbrev S9:=aI.of underlying322
abbrev Ta:=aI.of underlying328
abbrev Tb:=aI.of underlying333
abbrev Tc:=aI.of underlying336
abbrev Td:=aI.of underlying343
abbrev Te:=aI.of underlying345
abbrev Tf:=aI.of underlying351
abbrev Tg:=aI.of underlying366
abbrev Th:=aI.of underlying423
abbrev Ti:=aI.of underlying427
abbrev Tj:=aI.of underlying429
attribute [instance] U2 U3 U4 U5 U9 Q8 Q9 Ra Rb Rc Re Rf Rg Rh Ri Rj Rk Rl Rm Rp Rq Rr Rs Rt Ru Rv Rw Rx Ry Rz RA RB RC RD RE RF RG RJ RK RL RM RO RP RQ RS RU RV RW RX RY RZ R0 R4 R5 R6 R8 R9 Sa Sb Sc Sd Se Sf Sg Sh Si Sj Sk Sm Sp Sq Sr Ss St Su Sv Sw Sy Sz SB SC SD SE SF SG SH SI SJ SL SM SN SO SQ SR SU SV SW SY SZ S4 S5 S6 S7 S8 S9 Ta Tb Tc Td Te Tf Tg Th Ti Tj
theorem Ty.mixed:prog.follows .mixedOrders=true:=by kernel_rfl
instance:zp prog:=⟨Ty.mixed⟩
end
section
theorem U.cu {W w:World}{L R:List SP}{n c e:Nat}{cs:List Value}(I:U W w L)(ad:Option Addr)(bs:List UInt8)[k:fK L ad n c e 1 cs R](h:cs=bc bs)(hn:bs.length=n):aX w ad n bs:=by
 subst h;refine⟨hn,λe=>?_,λx hx hp=>?_⟩
 ·rcases Nat.eq_zero_or_pos n with h0 | h0
  ·exact h0
  ·obtain⟨b,off,e2,_⟩:=I.bV ad h0;rw[e]at e2;cases e2
 ·obtain⟨b,off,e2,hr⟩:=I.bV ad hp;exact⟨b,off,by rw[hx]at e2;cases e2;rfl,hr⟩
theorem aX.nil {w:World}{ad:Option Addr}:aX w ad 0 []:=⟨rfl,λ_=>rfl,λ_ _ h=>absurd h (by decide)⟩
theorem aX.gy {W w:World}{L:List SP}{ad:Option Addr}{m:Nat}{bs:List UInt8}(h:aX W ad m bs)(I:U W w L):aX w ad m bs:=by
 refine⟨h.1,h.2.1,λx hx h0=>?_⟩;obtain⟨b,off,rfl,hr⟩:=h.2.2 x hx h0;refine⟨b,off,rfl,λj v hj=>?_⟩;have h1:=hr j v hj;rw[I.gy (a:=⟨b,off+j,none⟩) (World.block_lt_of_cell? _ _ h1)];exact h1
theorem qV (ad:Option Addr)(c sz:Nat):fl ad 0 c sz=ad:=by
 unfold fl;split
 ·rfl
 ·cases ad with
  | none=>rfl
  | some a=>simp[Addr.add]
def kL (w:World)(ad:Option Addr)(m:Nat)(p:List (List UInt8)):Prop :=
 p.length=m∧(0<m→∃ b off,ad=some ⟨b,off,none⟩∧∀ j bs,p[j]?=some bs→∃ av c',w.cell? ⟨b,off+j,none⟩=some (.slice av bs.length c')∧aX w av bs.length bs)
theorem kL.take {w:World}{ad:Option Addr}{m n:Nat}{p:List (List UInt8)}(h:kL w ad m p)(hn:n≤m):kL w ad n (p.take n):=by
 refine⟨by rw[ep,h.1];omega,λh0=>?_⟩;obtain⟨b,off,h1,h2⟩:=h.2 (by omega);refine⟨b,off,h1,λj bs hj=>?_⟩;rw[getElem?_take]at hj;by_cases p8:j<n
 ·rw[ak p8]at hj;exact h2 j bs hj
 ·rw[ag p8]at hj;cases hj
abbrev dY:=Option Addr×Nat×List UInt8
def aK (x:dY):Value:=.slice x.1 x.2.2.length x.2.1
def a8 (x:dY):SP:=Sl 5 1 x.1 x.2.2.length x.2.1 (bc x.2.2)
def cg (ad:Option Addr)(n c:Nat)(p:List (List UInt8)):SP:=λh=>∃ xs:List dY,(xs.map (·.2.2)=p∧p.length=n)∧cn [Sl 22 1 ad n c (xs.map aK),ah a8 xs] h
section
variable {W w:World}{L L' R:List SP}{ad:Option Addr}{n c:Nat}{p:List (List UInt8)}{xs:List dY}
theorem cg.open (I:U W w (cg ad n c p::L)):∃ xs:List dY,xs.map (·.2.2)=p∧p.length=n∧U W w (Sl 22 1 ad n c (xs.map aK)::ah a8 xs::L):=by
 obtain⟨xs,⟨h1,h2⟩,h3⟩:=I.jy (ι:=List dY) (p:=λxs=>xs.map (·.2.2)=p∧p.length=n) (B:=λxs h=>cn [Sl 22 1 ad n c (xs.map aK),ah a8 xs] h) (λh ⟨xs,h1,h2⟩=>⟨xs,h1,h2⟩);exact⟨xs,h1,h2,h3.open λ_ h=>h⟩
theorem cg.close (I:U W w L)[k:fD L (Sl 22 1 ad n c (xs.map aK)::ah a8 xs::L') R](h1:xs.map (·.2.2)=p)(h2:p.length=n):U W w (cg ad n c p::L') :=
 U.shut (M:=[_,_]) (I.sub (M:=Sl 22 1 ad n c (xs.map aK)::ah a8 xs::L')) (λ_ x=>⟨xs,⟨h1,h2⟩,x⟩)
theorem cg.le (I:U W w (cg ad n c p::L)):p.length=n∧n≤c:=by
 obtain⟨xs,h1,h2,h3⟩:=cg.open I;exact⟨h2,(h3.sl ad).2⟩
theorem cg.nil (I:U W w L):U W w (cg none 0 0 []::L):=by
 have h:U W w (Sl 22 1 none 0 0 (([]:List dY).map aK)::ah a8 []::L):=(I.iN (f:=a8)).bN 22 1 none;exact cg.close (xs:=[]) h rfl rfl
theorem cg.rd (I:U W w (cg ad n c p::L)):kL w ad n p:=by
 obtain⟨xs,h1,h2,h3⟩:=cg.open I;refine⟨h2,λh0=>?_⟩;obtain⟨b,off,rfl,hr⟩:=h3.bV ad h0;refine⟨b,off,rfl,λj bs hj=>?_⟩;rw[← h1,bm]at hj;obtain⟨x,hx,rfl⟩:=Option.map_eq_some_iff.1 hj;obtain⟨bW,gX⟩:=a2.1 hx;refine⟨x.1,x.2.1,hr j _ (by rw[bm,hx];rfl),?_⟩;have h4:=(h3.perm (List.Perm.swap _ _ _)).fu bW;rw[gX]at h4;have h5:U W w (Sl 5 1 x.1 x.2.2.length x.2.1 (bc x.2.2)::_):=h4;exact h5.cu x.1 x.2.2 rfl rfl
theorem sd {bs:List UInt8}{m:Nat}(I:U W w L)(hr:∀ w',U W w' L→aX w' ad m bs)(hb:m≤1099511627776) :
   Calls prog 95 #[.slice ad m c] w λe w'=>∃ av c',e=.returned (.slice av m c')∧U W w' (Sl 5 1 av m c' (bc bs)::L):=by
 obtain⟨h1,h2,h3⟩:=hr _ I;cases ad with
 | none =>
  obtain rfl:=h2 rfl;obtain rfl:bs=[]:=gW h1;refine EN func95 ntmps95 rfl rfl λa E=>?_;refine RN 6 E I λa E=>?_;replace E:=E.eh 4;refine RT 3 E I ?_;exact⟨_,_,rfl,I.bN _ _ _⟩
 | some a =>
  rcases Nat.eq_zero_or_pos m with h0 | h0
  ·subst h0;obtain rfl:bs=[]:=gW h1;refine EN func95 ntmps95 rfl rfl λa E=>?_;refine RN 6 E I λa E=>?_;replace E:=E.aM 4;refine RN 2 E I λa E=>?_;refine tC E rfl I underlying22 Ty.t5 rfl λb5 a w E I ho=>?_;clear ho;refine RN 1 E I λa E=>?_;refine Cu E rfl underlying22 Ty.t5 rfl (a7 _) λa E=>?_;refine RT 1 E I ?_;exact⟨_,_,rfl,I⟩
  ·obtain⟨b,off,rfl,_⟩:=h3 a rfl h0;refine EN func95 ntmps95 rfl rfl λa E=>?_;refine RN 6 E I λa E=>?_;replace E:=E.aM 4;refine RN 2 E I λa E=>?_;refine tC E rfl I underlying22 Ty.t5 rfl λb5 a w E I ho=>?_;clear ho;refine RN 1 E I λa E=>?_;obtain⟨b',dB,hx,c4⟩:=(hr _ I.tail).2.2 _ rfl h0;cases hx;refine cK E rfl I underlying22 Ty.t5 rfl rfl c4 (by rw[dt,h1,Nat.mul_one]) (eo bs) h0 (by decide) (by omega) λse qW a w E I=>?_;rw[Nat.zero_add]at E I;refine RT 1 E I ?_;exact⟨_,_,rfl,I⟩
theorem p9 (a b:List UInt8):((⟨a.toArray⟩:ByteArray).data.toList==(⟨b.toArray⟩:ByteArray).data.toList)=(a==b):=rfl
theorem Ih {a b:List UInt8}{ad2:Option Addr}{m n c2:Nat}(db:aX w ad m a)(lh:aX w ad2 n b) :
   Calls prog 313 #[.slice ad m c,.slice ad2 n c2] w λe w'=>e=.returned (.bool (a==b))∧w'=w:=by
 have I:=U.start w;refine EN func313 ntmps313 rfl rfl λa E=>?_;refine RN 4 E I λa E=>?_;refine SS E (lj E underlying22 underlying5 underlying9 (db)) λa E=>?_;refine RN 1 E I λa E=>?_;refine SS E (lj E underlying22 underlying5 underlying9 (lh)) λa E=>?_;refine RN 0 E I λa E=>?_;refine SS E (r4 E) λa E=>?_;refine RT 1 E I ?_;exact⟨by rw[p9],rfl⟩
theorem Tk {p q:List (List UInt8)}{k:Nat}{x y:List UInt8}(h:p.take k=q.take k)(hx:p[k]?=some x)(hy:q[k]?=some y):(p.take (k+1)=q.take (k+1))↔x=y:=by
 obtain⟨h1,rfl⟩:=a2.1 hx;obtain⟨h2,rfl⟩:=a2.1 hy;rw[jd h1,jd h2,h];exact⟨λe=>by have:=List.append_cancel_left e;simpa using this,λe=>by rw[e]⟩
theorem Tm {p q:List (List UInt8)}{ad2:Option Addr}{m c2:Nat}(hp:kL w ad m p)(hq:kL w ad2 m q)(hb:m≤1099511627776) :
   Calls prog 312 #[.slice ad m c,.slice ad2 m c2,.func (.func 313) #[] #[]] w λe w'=>e=.returned (.bool (p==q))∧w'=w:=by
 have eB:=hp.1;have Tn:=hq.1;obtain⟨W,xk⟩:∃ W,w=W:=⟨w,rfl⟩;have I:U W w []:=xk ▸ U.start w;refine EN func312 ntmps312 rfl rfl λa E=>?_;refine RN 9 E I λa E=>?_;rw[Qv]at E;replace E:=E.aM 14;refine RN 6 E I λa E=>?_;refine aO (λμ a w=>∃ k:Nat,(μ=m-k∧k≤m∧p.take k=q.take k∧w=W)∧Fr a 32 [(1,.slice ad2 m c2),(2,.func (.func 313) #[] #[]),(15,.slice ad m c),(16,.int .i64 m),(17,.int .i64 k)]∧U W w []) (m) (⟨0,⟨by simp,by simp,by simp,xk⟩,E.ab [1,2,15,16,17],I⟩) ?_;clear E I;rintro μ a w ⟨k,⟨rfl,hk,CQ,zt⟩,E,I⟩;subst zt xk;refine IF 3 E I (λao a E=>?_) λao a E=>?_
 ·
  refine RN 2 E I λa E=>?_;obtain⟨b1,o1,rfl,h1⟩:=hp.2 (by omega);obtain⟨b2,qa,rfl,h2⟩:=hq.2 (by omega);have eH:p[k]?=some p[k]:=aE (by omega);have df:q[k]?=some q[k]:=aE (by omega);obtain⟨de,c1',To,e9⟩:=h1 k _ eH;obtain⟨dG,c2',Tp,eX⟩:=h2 k _ df;have Ii:=Tk CQ eH df;refine RN 2 E I λa E=>?_;refine SS E (ae E (To)) λa E=>?_;refine RN 6 E I λa E=>?_;refine SS E (ae E (Tp)) λa E=>?_;refine CL 5 E I (Ih e9 eX) λa w E hx=>?_;obtain rfl:=hx;refine IF 1 E (U.start _) (λay a E=>?_) λay a E=>?_
  ·
   have bD:¬ p[k]=q[k]:=by simpa using ay
   refine RT 2 E (U.start _) ?_;refine⟨?_,rfl⟩;have:(p==q)=false:=by
    rw[lI];intro e;exact bD (Ii.1 (by rw[e]))
   rw[this]
  have heq:p[k]=q[k]:=by simpa using ay
  refine RN 2 E (U.start _) λa E=>?_;exact⟨m-(k+1),by omega,k+1,⟨rfl,by omega,Ii.2 heq,rfl⟩,E.ab [1,2,15,16,17],U.start _⟩
 refine RT 2 E I ?_;obtain rfl:k=m:=by omega
 rw[fX (by omega),fX (by omega)]at CQ;subst CQ;exact⟨by rw[beq_self_eq_true],rfl⟩
def hU (w:World)(ad:Option Addr)(xs:List dY):Prop:=(0<xs.length→∃ b off,ad=some ⟨b,off,none⟩∧Rd w b off (xs.map aK))∧∀ x∈xs,aX w x.1 x.2.2.length x.2.2
theorem hU.bb (h:hU w ad xs):kL w ad xs.length (xs.map (·.2.2)):=by
 refine⟨by simp,λh0=>?_⟩;obtain⟨b,off,h1,h2⟩:=h.1 h0;refine⟨b,off,h1,λj bs hj=>?_⟩;rw[bm]at hj;obtain⟨x,hx,rfl⟩:=Option.map_eq_some_iff.1 hj;exact⟨x.1,x.2.1,h2 j _ (by rw[bm,hx];rfl),h.2 x (bH hx)⟩
theorem U.ma {m:Nat}(I:U W w (Sl 22 1 ad m c (xs.map aK)::ah a8 xs::L)):hU w ad xs:=by
 have hm:xs.length=m:=by have:=(I.sl ad).1;simpa using this
 refine⟨λh0=>I.bV ad (by omega),λx hx=>?_⟩;obtain⟨i,hi,rfl⟩:=List.mem_iff_getElem.1 hx;have h4:=(I.perm (List.Perm.swap _ _ _)).fu hi;have h5:U W w (Sl 5 1 xs[i].1 xs[i].2.2.length xs[i].2.1 (bc xs[i].2.2)::_):=h4;exact h5.cu xs[i].1 xs[i].2.2 rfl rfl
end
end
end Go.Proofs.YteoldcfapaiobaaGreat
