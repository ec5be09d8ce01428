/- Rows of structs: a list laid out flat, so many cells each. -/
import Derived.Test.YteoldcfapaiobaaGreatC00Sl
import Derived.Laws.RangeAny
import Derived.Laws.Strings
import Derived.Laws.MakeOwn
import Derived.KernelRfl
import Derived.Test.YteoldcfapaiobaaGreatProg
namespace Go.Proofs.YteoldcfapaiobaaGreat
open Tryz
open List (all_eq_true drop_zero take_succ_cons getElem?_take getElem?_drop set_eq_take_append_cons_drop perm_middle drop_drop take_append nil_append map_cons set_append_right set_append_left getElem?_cons_succ mem_range getElem?_toArray drop_eq_nil_of_le ext_getElem getElem_map eraseIdx_eq_take_drop_succ cons_append getElem_set_self eraseIdx_set_eq take_length append_nil)
open Go.RowKit
set_option linter.unusedVariables false
set_option linter.unusedSimpArgs false
set_option maxRecDepth 10000
set_option synthInstance.maxSize 4000
set_option synthInstance.maxHeartbeats 400000
section
theorem PX {x:Int}:decide (x≠x)=false:=by simp
def rows {α:Type}(f:α→List Value)(l:List α):List Value:=l.flatMap f
section
variable {α:Type}{f:α→List Value}{sz:Nat}
theorem nO (x:α)(l:List α):rows f (x::l)=f x++rows f l:=rfl
theorem j9 (l m:List α):rows f (l++m)=rows f l++rows f m:=by simp[rows]
theorem yZ (h1:∀ x,∀ v∈f x,v.oneCell'=true)(l:List α):∀ v∈rows f l,v.oneCell'=true:=by
 intro v hv;simp only[rows,List.mem_flatMap]at hv;obtain⟨x,_,hx⟩:=hv;exact h1 x v hx
theorem iW (hf:∀ x,(f x).length=sz)(l:List α):(rows f l).length=l.length*sz:=by
 induction l with
 | nil=>simp[rows]
 | cons x l ih=>rw[nO,aL,hf,ih,e7,Nat.succ_mul,Nat.add_comm]
theorem Ho (hf:∀ x,(f x).length=sz)(l:List α)(i:Nat):(rows f l).drop (i*sz)=rows f (l.drop i):=by
 induction i generalizing l with
 | zero=>simp
 | succ i ih =>
  cases l with
  | nil=>simp[rows]
  | cons x l=>rw[nO,Nat.succ_mul,Nat.add_comm,← drop_drop,List.drop_left' (hf x),ih,List.drop_succ_cons]
theorem PY (hf:∀ x,(f x).length=sz)(l:List α)(i:Nat):(rows f l).take (i*sz)=rows f (l.take i):=by
 induction i generalizing l with
 | zero=>simp[rows]
 | succ i ih =>
  cases l with
  | nil=>simp[rows]
  | cons x l =>
   rw[nO,Nat.succ_mul,Nat.add_comm,take_append,hf,fX (by rw[hf];omega),show sz+i*sz-sz=i*sz from by omega,ih,take_succ_cons,nO]
theorem u9 (hf:∀ x,(f x).length=sz)(l:List α)(i:Nat)(h:i<l.length):((rows f l).drop (i*sz)).take sz=f l[i]:=by
 rw[Ho hf,ka h,nO,List.take_left' (hf _)]
theorem B5 (hf:∀ x,(f x).length=sz)(l:List α){i k:Nat}{v:Value}(h:i<l.length)(hv:(f l[i])[k]?=some v):(rows f l)[i*sz+k]?=some v:=by
 have hk:k<sz:=by rw[← hf l[i]];exact (a2.1 hv).1
 have:=u9 hf l i h;rw[← this,getElem?_take,ak hk,getElem?_drop]at hv;exact hv
theorem Hq (hf:∀ x,(f x).length=sz)(l:List α){i:Nat}(x:α)(h:i<l.length):cB (rows f l) (i*sz) (f x)=rows f (l.set i x):=by
 rw[set_eq_take_append_cons_drop,ak h,j9,nO,cB,PY hf,hf,show i*sz+sz=(i+1)*sz from by rw[Nat.succ_mul],Ho hf,dv]
theorem pX (hf:∀ x,(f x).length=sz)(l:List α){i k:Nat}{v:Value}(x:α)(h:i<l.length)(hk:k<sz)(hx:(f l[i]).set k v=f x):(rows f l).set (i*sz+k) v=rows f (l.set i x):=by
 have h0:l=l.take i++l[i]::l.drop (i+1):=by rw[← ka h,jE]
 have va:l.set i x=l.take i++x::l.drop (i+1):=by rw[set_eq_take_append_cons_drop,ak h]
 rw[va,j9,nO]
 conv=>lhs;rw[h0,j9,nO]
 have hl:(rows f (l.take i)).length=i*sz:=by rw[iW hf];simp;rw[Nat.min_eq_left (by omega)]
 rw[set_append_right _ _ (by omega),hl,show i*sz+k-i*sz=k from by omega,set_append_left _ _ (by rw[hf];exact hk),hx]
theorem PZ (A B C vs:List Value)(k:Nat)(hk:k+vs.length≤B.length):cB (A++(B++C)) (A.length+k) vs=A++(cB B k vs++C):=by
 have e1:(A++(B++C)).take (A.length+k)=A++B.take k:=by
  rw[take_append,fX (by omega),show A.length+k-A.length=k from by omega,List.take_append_of_le_length (by omega)]
 have e2:(A++(B++C)).drop (A.length+k+vs.length)=B.drop (k+vs.length)++C:=by
  rw[List.drop_append,drop_eq_nil_of_le (by omega),show A.length+k+vs.length-A.length=k+vs.length from by omega,List.drop_append_of_le_length (by omega),nil_append]
 rw[cB,e1,e2,cB];simp only[dv]
theorem P0 (hf:∀ x,(f x).length=sz)(l:List α){i k:Nat}{vs:List Value}(x:α)(h:i<l.length)(hk:k+vs.length≤sz)(hx:cB (f l[i]) k vs=f x):cB (rows f l) (i*sz+k) vs=rows f (l.set i x):=by
 have h0:rows f l=rows f (l.take i)++(f l[i]++rows f (l.drop (i+1))):=by
  rw[← nO,← j9,← ka h,jE]
 have va:l.set i x=l.take i++x::l.drop (i+1):=by rw[set_eq_take_append_cons_drop,ak h]
 have hl:(rows f (l.take i)).length=i*sz:=by rw[iW hf];simp;rw[Nat.min_eq_left (by omega)]
 rw[va,j9,nO,h0,← hl,PZ _ _ _ _ _ (by rw[hf];exact hk),hx]
theorem P1 (hf:∀ x,(f x).length=sz)(l:List α){i k m:Nat}(h:i<l.length)(hk:k+m≤sz):((rows f l).drop (i*sz+k)).take m=((f l[i]).drop k).take m:=by
 have:=u9 hf l i h;rw[← this,List.drop_take,List.take_take,drop_drop,Nat.min_eq_left (by omega)]
end
def fn (m:Nat)(g:Nat→Value):List Value:=(List.range m).map g
theorem Hr (m:Nat)(g:Nat→Value):(fn m g).length=m:=by simp[fn]
theorem Hs {m k:Nat}(g:Nat→Value)(h:k<m):(fn m g)[k]?=some (g k):=by simp[fn,h]
theorem B6 {m:Nat}{g g':Nat→Value}(h:∀ k,k<m→g k=g' k):fn m g=fn m g':=by
 simp only[fn];exact List.map_congr_left λk hk=>h k (mem_range.1 hk)
theorem Ht {m k:Nat}(g:Nat→Value)(v:Value):(fn m g).set k v=fn m (λj=>if j=k then v else g j):=by
 apply ext_getElem (by simp[fn]);intro i h1 h2;simp only[fn,List.getElem_set,getElem_map,List.getElem_range];by_cases h:k=i
 ·simp[h]
 ·rw[ae h,ae (λe=>h e.symm)]
theorem P2 {m:Nat}{g:Nat→Value}(h:∀ k,(g k).oneCell'=true):∀ v∈fn m g,v.oneCell'=true:=by
 intro v hv;simp only[fn,c1]at hv;obtain⟨k,_,rfl⟩:=hv;exact h k
theorem P3 {m k n:Nat}(g:Nat→Value)(h:k+n≤m):((fn m g).drop k).take n=fn n (λj=>g (k+j)):=by
 apply ext_getElem (by simp[fn];omega);intro i h1 h2;simp[fn]
def cd (g:Nat→Int)(c:Nat)(v:Int):Nat→Int:=λj=>if j=c then v else g j
def ints (k:IntKind)(m:Nat)(g:Nat→Int):List Value:=fn m (λj=>.int k (g j))
theorem df (k:IntKind)(m:Nat)(g:Nat→Int):(ints k m g).length=m:=Hr _ _
theorem fO {k:IntKind}{m j:Nat}(g:Nat→Int)(h:j<m):(ints k m g)[j]?=some (.int k (g j)):=Hs _ h
theorem tr {k:IntKind}{m:Nat}{g:Nat→Int}:∀ v∈ints k m g,v.oneCell'=true:=P2 λ_=>rfl
theorem ints_set {k:IntKind}{m j:Nat}(g:Nat→Int)(v:Int):(ints k m g).set j (.int k v)=ints k m (λi=>if i=j then v else g i):=by
 rw[ints,Ht];exact B6 λi _=>by by_cases h:i=j <;> simp[h]
theorem P4 {k:IntKind}{m j n:Nat}(g:Nat→Int)(h:j+n≤m):((ints k m g).drop j).take n=ints k n (λi=>g (j+i)):=P3 _ h
theorem wW {k:IntKind}{m:Nat}{g g':Nat→Int}(h:∀ j,j<m→g j=g' j):ints k m g=ints k m g':=B6 λj hj=>by rw[h j hj]
class vb (fM:List (List Value))(out:outParam (List Value)):Prop where h:fM.flatten=out
instance vb.nil:vb [] []:=⟨rfl⟩
instance vb.one {x fM out}[k:vb fM out]:vb ([x]::fM) (x::out):=⟨by rw[List.flatten_cons,k.h];rfl⟩
instance lU.ints {k m g}:lU (ints k m g) m:=⟨df k m g⟩
section
variable {P:Program}{ops:Array Oper}{Q:Exit→Act→World→Prop}{a:Act}{w V W:World}{K:Act→World→Prop}{n d:Nat}{l:List (Nat×Value)}{v:Value}{L R:List SP}
theorem vc {x y k i j t u dst ty ps af g}(E:Fr a n l)(h:j≠0)(hi:k.wrap (i.tdiv j)=i.tdiv j)[e:Ev l x (.int k i)][f:Ev l y (.int k j)] :
   (execOp a.eval ⟨dst,.binOp .quo t x y u,ty,ps,af,g⟩).run P w=.ok (.value (.int k (i.tdiv j))) w:=by
 have:k.wrap (i.tdiv j)=i.tdiv j:=hi;simp[execOp,e.ev a n E,f.ev a n E,eqGuard,binOp,Op.intDiv,h,this]
theorem y0 {x y k i j t u dst ty ps af g}(E:Fr a n l)(h:j≠0)[e:Ev l x (.int k i)][f:Ev l y (.int k j)] :
   (execOp a.eval ⟨dst,.binOp .rem t x y u,ty,ps,af,g⟩).run P w=.ok (.value (.int k (i.tmod j))) w:=by
 simp[execOp,e.ev a n E,f.ev a n E,eqGuard,binOp,Op.intDiv,h]
theorem qy (i:Nat)(j:Nat):(i:Int).tdiv (j:Int)=((i/j:Nat):Int):=by rw[Int.natCast_ediv,Int.tdiv_eq_ediv_of_nonneg (by omega)]
theorem nP (i:Nat)(j:Nat):(i:Int).tmod (j:Int)=((i%j:Nat):Int):=by rw[Int.natCast_emod,Int.tmod_eq_emod_of_nonneg (by omega)]
theorem rM {x y k i j vs t el m ee z aX dst ty ps af g}(E:Fr a n l)(hu:P.underlying t=some (.array m el))(hd:P.underlying el=some ee)(h1:nI ee=true)(hi:TI P el z 1 aX)
   [ev:Ev l x (.agg (List.toArray vs))] [gR:Ev l y (.int k i)] [nj:en i j] (hlt:j<m) (hv:vs[j]?=some v) :
   (execOp a.eval ⟨dst,.index t x y,ty,ps,af,g⟩).run P w=.ok (.value v) w:=by
 have:=nj.h;subst this;have wX:(part el vs.toArray j).run P w=.ok v w:=by
  have B7:(isAgg el).run P w=.ok false w:=by
   simp only[isAgg,Sem.run_bind,eK hd,Result.andThen_ok];cases ee <;> first | rfl | (simp[nI]at h1)
  simp[part,B7,hv]
 simp[execOp,ev.ev a n E,gR.ev a n E,Instr.index,asIntOf,eK hu,lR hi,hlt,wX]
theorem P5 {x b off m t el z sz aX dst ty ps af g}(E:Fr a n l)[ev:Ev l x (.pointer (some ⟨b,off,none⟩))](ht:P.underlying t=some (.array m el))(hi:TI P el z sz aX) :
   (execOp a.eval ⟨dst,.slice t x none none none,ty,ps,af,g⟩).run P w=.ok (.value (.slice (some ⟨b,off,none⟩) m m)) w:=by
 simp[execOp,ev.ev a n E,Instr.sliceAt,Instr.sliceBounds,eK ht,lR hi,Instr.sureAddr,kv]
theorem gg {x k k' i s t dst ty ps af g}(E:Fr a n l)(I:P.underlying s=some (.int k))(ht:P.underlying t=some (.int k'))[ev:Ev l x (.int k i)] :
   (execOp a.eval ⟨dst,.convert s t x,ty,ps,af,g⟩).run P w=.ok (.value (.int k' (k'.wrap i))) w:=by
 simp[execOp,ev.ev a n E,convert,eK I,eK ht,Conv.intToInt]
theorem oR {x k k' i s t dst ty ps af g}(E:Fr a n l)(I:P.underlying s=some (.int k))(ht:P.underlying t=some (.int k'))(hw:k'.wrap i=i)[ev:Ev l x (.int k i)] :
   (execOp a.eval ⟨dst,.convert s t x,ty,ps,af,g⟩).run P w=.ok (.value (.int k' i)) w:=by
 rw[gg E I ht,hw]
theorem B8 {t el m z zs sz aX P6 y1 be parts fM out dst ty ps af g}(E:Fr a n l)(hu:P.underlying t=some (.array m el))(hi:TI P t z sz aX)[BU:Cells z zs](he:TI P el P6 y1 be)
   [rI:tl l parts 0 fM] (hc:(fM.all λc=>c.length==y1)=true) (hz:zs.length=fM.length*y1) [iF:vb fM out] :
   (execOp a.eval ⟨dst,.build t (List.toArray parts),ty,ps,af,g⟩).run P w=.ok (.value (.agg out.toArray)) w:=by
 obtain⟨vs,e1,e2⟩:=rI.h a n E;have hf:=BS (sz:=y1) fM vs 0 [] zs e2 (λc wS=>by simpa using all_eq_true.1 hc c wS) (by simp) hz;simp only[nil_append]at hf;rw[iF.h]at hf;simp only[execOp,Sem.run_bind,Instr.build,ti hi,Result.andThen_ok,eK hu,lR he,BU.h,List.map_toArray,e1];simp[hf]
theorem P7 {x y b off m t el z sz aX k i j dst ty ps af g}(E:Fr a n l)[ev:Ev l x (.pointer (some ⟨b,off,none⟩))](ht:P.underlying t=some (.array m el))(hi:TI P el z sz aX)[gR:Ev l y (.int k i)][nj:en i j](h:j<m) :
   (execOp a.eval ⟨dst,.slice t x (some y) none none,ty,ps,af,g⟩).run P w=.ok (.value (.slice (some ⟨b,off+j*sz,none⟩) (m-j) (m-j))) w:=by
 have:=nj.h;subst this;have h2:¬ (m=j):=by omega
 simp[execOp,ev.ev a n E,gR.ev a n E,Instr.sliceAt,Instr.sliceBounds,Instr.sliceBound,asIntOf,eK ht,lR hi,Instr.sureAddr,kv,Nat.le_of_lt h,h2]
theorem P8 {x y t t2 el z sz aX b off m c b2 gE B9 c2 k vs e cs ty ps af g}(E:Fr a n l)(hw:Region.wanted ⟨some d,.call ⟨.builtin .copy,#[x,y],#[t,t2]⟩,ty,ps,af,g⟩ (yielded ops a.tmps)=true)(I:U W w L)
   (ht:P.underlying t=some (.slice el)) (hi:TI P el z sz aX) (hf:okB d n l=true) [ev:Ev l x (.slice (some ⟨b,off,none⟩) m c)] [gR:Ev l y (.slice (some ⟨b2,gE,none⟩) B9 c2)] [B0:fC L b e cs R]
   (hk:min B9 m=k) (hr:Rd w b2 gE vs) (hl:vs.length=k*sz) (h1:∀ v∈vs,v.oneCell'=true) (hle:off+vs.length≤cs.length)
   (h:∀ a' V,Fr a' n ((d,.int .i64 k)::l)→U W V (aa b e (cB cs off vs)::R)→K a' V):cH P ops Q ⟨some d,.call ⟨.builtin .copy,#[x,y],#[t,t2]⟩,ty,ps,af,g⟩ K a w:=by
 obtain⟨i,kX,dF,kx,pR⟩:=info_parts hi.h;have gQ:=I.jD b;have nJ:∀ j v,vs[j]?=some v→w.cell? ((⟨b2,gE,none⟩:Addr).add j)=some v:=λj v hj=>by rw[kv];exact hr j v hj
 have iV:=run_firstCells_some (P:=P) w sz k ⟨b2,gE,none⟩ B9 c2 vs hl nJ;have aQ:=run_storeCells_at (P:=P) b off e vs 0 cs.toArray w gQ.has.2 (by simpa using hle) h1;have qv:(storeCells ⟨b,off,none⟩ vs).run P w=.ok () (w.setRow b (cB cs off vs).toArray):=by simpa [cB] using aQ
 refine bE (v:=.int .i64 k) (V:=w.setRow b (cB cs off vs).toArray) E hw ?_ hf (λa' dc=>h a' _ dc gQ.setRow);simp[execOp,resolve,ev.ev a n E,gR.ev a n E,invoke,builtin,Builtin.copy_,eK ht,sizeOf,typeInfo,kX,kx,Builtin.lenOf,hk,iV,qv,goInt]
end
def ah {α:Type}(f:α→SP)(l:List α):SP:=λh=>cm (l.map f) h
section
variable {α:Type}{f:α→SP}{W w:World}{L:List SP}
theorem rN {β:Type}(l:List β){i:Nat}(h:i<l.length):l.Perm (l[i]::l.eraseIdx i):=by
 conv=>lhs;rw[← jE i l,ka h]
 rw[eraseIdx_eq_take_drop_succ];exact perm_middle
theorem U.iI (I:U W w L):U W w (ah f []::L) :=
 ⟨I.below,let ⟨h,p,q⟩:=I.sat;⟨h,p,λ_=>none,h,λ_=>.inl rfl,λ_ _ e=>(by cases e),Hp.Sub.refl _,trivial,q⟩⟩
theorem U.fE {l:List α}(I:U W w (ah f l::L)){i:Nat}(h:i<l.length):U W w (f l[i]::ah f (l.eraseIdx i)::L):=by
 have h1:=I.open (M:=l.map f) (λ_ x=>x);have hp:=((rN l h).map f).append_right L;have h2:=h1.perm hp;simp only[map_cons,cons_append]at h2;refine U.perm (L:=ah f (l.eraseIdx i)::f l[i]::L) ?_ (List.Perm.swap _ _ _);exact U.shut (M:=(l.eraseIdx i).map f) (h2.perm perm_middle.symm) (λ_ x=>x)
theorem U.vd {l:List α}{x:α}(I:U W w (f x::ah f l::L)):U W w (ah f (x::l)::L):=by
 have h1:=(I.perm (List.Perm.swap _ _ _)).open (M:=l.map f) (λ_ x=>x);exact U.shut (M:=(x::l).map f) (h1.perm perm_middle) (λ_ x=>x)
theorem U.Hu {l l':List α}(I:U W w (ah f l::L))(hp:l.Perm l'):U W w (ah f l'::L):=by
 have h1:=I.open (M:=l.map f) (λ_ x=>x);exact U.shut (M:=l'.map f) (h1.perm ((hp.map f).append_right L)) (λ_ x=>x)
theorem U.ky {l:List α}{x:α}{i:Nat}(h:i<l.length)(I:U W w (f x::ah f (l.eraseIdx i)::L)):U W w (ah f (l.set i x)::L):=by
 refine I.vd.Hu ?_;have hi:i<(l.set i x).length:=by simpa using h
 have:=rN (l.set i x) hi;rw[getElem_set_self,eraseIdx_set_eq]at this;exact this.symm
theorem U.jG {l:List α}{x:α}(I:U W w (f x::ah f l::L)):U W w (ah f (l++[x])::L) :=
 I.vd.Hu (List.perm_append_comm (l₁:=[x]))
end
end
section
def oS (s:ByteArray)(pos:Nat):List Value:=if pos<s.size then [.bool true,.int .i64 pos,.int .i32 (Utf8.decode s pos).1] else [.bool false]
def dZ (s:ByteArray)(pos:Nat):Nat:=if pos<s.size then pos+(Utf8.decode s pos).2 else pos
theorem Ca (s:ByteArray)(pos:Nat):(oS s pos)[0]?=some (.bool (decide (pos<s.size))):=by
 by_cases h:pos<s.size <;> simp[oS,h]
theorem P9 {s:ByteArray}{pos:Nat}(h:pos<s.size):(oS s pos)[1]?=some (.int .i64 pos):=by simp[oS,h]
theorem Cb {s:ByteArray}{pos:Nat}(h:pos<s.size):(oS s pos)[2]?=some (.int .i32 (Utf8.decode s pos).1):=by simp[oS,h]
section
variable {P:Program}{ops:Array Oper}{Q:Exit→Act→World→Prop}{a:Act}{w V W:World}{K:Act→World→Prop}{o:Oper}{n d:Nat}{l:List (Nat×Value)}{v:Value}{L R:List SP}
theorem Cc {t x s ty ps af g}(E:Fr a n l)(hw:Region.wanted ⟨some d,.range t x,ty,ps,af,g⟩ (yielded ops a.tmps)=true)(I:U W w L)(ht:P.underlying t=some .string)[ev:Ev l x (.string s)]
   (hf:okB d n l=true) (h:∀ b a' V,Fr a' n ((d,.pointer (some ⟨b,0,none⟩))::l)→U W V (ku b (.stringIter s 0)::L)→Old w V→K a' V):cH P ops Q ⟨some d,.range t x,ty,ps,af,g⟩ K a w:=by
 refine bE (v:=.pointer (some ⟨w.heap.size,0,none⟩)) (V:=w.alloc (.stringIter s 0)) E hw ?_ hf (λa' dc=>h _ _ _ dc (I.alloc _) (Old.alloc _ _));have:=run_range_string (P:=P) w t s ht;simp[execOp,ev.ev a n E,this,World.iter]
class Cd (L:List SP)(b:Nat)(o:outParam Obj)(R:outParam (List SP)):Prop where perm:L.Perm (ku b o::R)
instance Cd.head {L b o}:Cd (ku b o::L) b o L:=⟨List.Perm.refl _⟩
theorem Ce {x s pos b ty ps af g}(E:Fr a n l)(hw:Region.wanted ⟨some d,.next x true,ty,ps,af,g⟩ (yielded ops a.tmps)=true)(I:U W w L)[ev:Ev l x (.pointer (some ⟨b,0,none⟩))][k:Cd L b (.stringIter s pos) R]
   (hf:okB d n l=true) (h:∀ a' V,Fr a' n ((d,.tuple (List.toArray (oS s pos)))::l)→U W V (ku b (.stringIter s (dZ s pos))::R)→K a' V):cH P ops Q ⟨some d,.next x true,ty,ps,af,g⟩ K a w:=by
 have nL:=I.perm k.perm;have hb:=nL.has.2;by_cases hp:pos<s.size
 ·have dx:=nL.cd (o':=.stringIter s (dZ s pos)) (V:={ w with heap:=w.heap.setIfInBounds b (.stringIter s (dZ s pos)) }) rfl rfl rfl rfl;refine bE (v:=.tuple (List.toArray (oS s pos))) (V:={ w with heap:=w.heap.setIfInBounds b (.stringIter s (dZ s pos)) }) E hw ?_ hf (λa' dc=>h a' _ dc dx);simp[execOp,ev.ev a n E,Instr.next,getObj,setObj,Sem.run,hb,hp,goInt,oS,dZ,Sem.run_bind]
 ·have e:dZ s pos=pos:=by simp[dZ,hp]
  refine bE (v:=.tuple (List.toArray (oS s pos))) (V:=w) E hw ?_ hf (λa' dc=>h a' _ dc (by rw[e];exact nL));simp[execOp,ev.ev a n E,Instr.next,getObj,Sem.run,hb,hp,oS,Sem.run_bind]
theorem Qa {x s t dst ty ps af g}(E:Fr a n l)[ev:Ev l x (.string s)](hu:P.underlying t=some .string) :
   (execOp a.eval ⟨dst,.call ⟨.builtin .len,#[x],#[t]⟩,ty,ps,af,g⟩).run P w=.ok (.value (.int .i64 s.size)) w:=by
 simp[execOp,resolve,ev.ev a n E,invoke,builtin,Builtin.len_,eK hu,goInt]
theorem y2 {x y s k i j t dst ty ps af g}(E:Fr a n l)(hu:P.underlying t=some .string)[ev:Ev l x (.string s)][gR:Ev l y (.int k i)][nj:en i j](h:j<s.size) :
   (execOp a.eval ⟨dst,.index t x y,ty,ps,af,g⟩).run P w=.ok (.value (.int .u8 (s[j]'h).toNat)) w:=by
 have:=nj.h;subst this;have h2:=run_index_string (P:=P) w t s k (j:Int) hu;have h3:0≤(j:Int)∧(j:Int)<s.size:=by omega
 rw[dif_pos h3]at h2;simp[execOp,ev.ev a n E,gR.ev a n E,h2]
theorem Cg {x y s k i j t dst ty ps af g}(E:Fr a n l)(hu:P.underlying t=some .string)[ev:Ev l x (.string s)][gR:Ev l y (.int k i)][nj:en i j](h:j≤s.size) :
   (execOp a.eval ⟨dst,.slice t x (some y) none none,ty,ps,af,g⟩).run P w=.ok (.value (.string (s.extract j s.size))) w:=by
 have:=nj.h;subst this;have h2:=run_slice_string_l (P:=P) w t s hu k (j:Int) (by omega) (by omega);simp only[Int.toNat_natCast]at h2;simp[execOp,ev.ev a n E,gR.ev a n E,run_sliceAt_string (P:=P) (w:=w) t _ _ _ _ hu,h2]
theorem Hv {x y k i k' j jn t u dst ty ps af g}(E:Fr a n l)[e:Ev l x (.int k i)][f:Ev l y (.int k' j)][nj:en j jn](h:jn≤k.bits) :
   (execOp a.eval ⟨dst,.binOp .shl t x y u,ty,ps,af,g⟩).run P w=.ok (.value (.int k (k.wrap (i*2 ^ jn)))) w:=by
 have:=nj.h;subst this;have h2:min jn k.bits=jn:=Nat.min_eq_left h;have h3:¬ ((jn:Int)<0):=by omega
 simp[execOp,e.ev a n E,f.ev a n E,eqGuard,binOp,Op.shift,h2,h3]
theorem Qb {x y k i k' j jn t u dst ty ps af g}(E:Fr a n l)[e:Ev l x (.int k i)][f:Ev l y (.int k' j)][nj:en j jn](h:jn≤k.bits) :
   (execOp a.eval ⟨dst,.binOp .shr t x y u,ty,ps,af,g⟩).run P w=.ok (.value (.int k (i.fdiv (2 ^ jn)))) w:=by
 have:=nj.h;subst this;have h2:min jn k.bits=jn:=Nat.min_eq_left h;have h3:¬ ((jn:Int)<0):=by omega
 simp[execOp,e.ev a n E,f.ev a n E,eqGuard,binOp,Op.shift,h2,h3]
theorem Qc {x y k i j t u dst ty ps af g}(E:Fr a n l)[e:Ev l x (.int k i)][f:Ev l y (.int k j)] :
   (execOp a.eval ⟨dst,.binOp .or t x y u,ty,ps,af,g⟩).run P w=.ok (.value (.int k (k.wrap ((BitVec.ofInt k.bits i ||| BitVec.ofInt k.bits j).toNat)))) w:=by
 simp[execOp,e.ev a n E,f.ev a n E,eqGuard,binOp,Op.intBits]
theorem Qd {x y k i j t u dst ty ps af g}(E:Fr a n l)[e:Ev l x (.int k i)][f:Ev l y (.int k j)] :
   (execOp a.eval ⟨dst,.binOp .and t x y u,ty,ps,af,g⟩).run P w=.ok (.value (.int k (k.wrap ((BitVec.ofInt k.bits i &&& BitVec.ofInt k.bits j).toNat)))) w:=by
 simp[execOp,e.ev a n E,f.ev a n E,eqGuard,binOp,Op.intBits]
theorem Qe {x y k i j t u dst ty ps af g}(E:Fr a n l)[e:Ev l x (.int k i)][f:Ev l y (.int k j)] :
   (execOp a.eval ⟨dst,.binOp .xor t x y u,ty,ps,af,g⟩).run P w=.ok (.value (.int k (k.wrap ((BitVec.ofInt k.bits i ^^^ BitVec.ofInt k.bits j).toNat)))) w:=by
 simp[execOp,e.ev a n E,f.ev a n E,eqGuard,binOp,Op.intBits]
theorem Qf {x k i t dst ty ps af g}(E:Fr a n l)[e:Ev l x (.int k i)] :
   (execOp a.eval ⟨dst,.unOp .xor t x,ty,ps,af,g⟩).run P w=.ok (.value (.int k (k.wrap ((BitVec.ofInt k.bits (if k.signed then -1 else k.max) ^^^ BitVec.ofInt k.bits i).toNat)))) w:=by
 simp[execOp,e.ev a n E,Op.unary,Op.intBits]
theorem Qg {x k i t dst ty ps af g}(E:Fr a n l)[e:Ev l x (.int k i)] :
   (execOp a.eval ⟨dst,.unOp .neg t x,ty,ps,af,g⟩).run P w=.ok (.value (.int k (k.wrap (0-i)))) w:=by
 simp[execOp,e.ev a n E,Op.unary,Op.intArith]
theorem Hw {x y k i j t u dst ty ps af g}(E:Fr a n l)(h:j≠0)[e:Ev l x (.int k i)][f:Ev l y (.int k j)] :
   (execOp a.eval ⟨dst,.binOp .quo t x y u,ty,ps,af,g⟩).run P w=.ok (.value (.int k (k.wrap (i.tdiv j)))) w:=by
 simp[execOp,e.ev a n E,f.ev a n E,eqGuard,binOp,Op.intDiv,h]
theorem Qh {t t':TypeId} {ms}(ht:P.underlying t=some (.interface ms))(v:Value)(k:Nat):(Op.equalIn (k+1) t (.iface t' v) .nilIface).run P w=.ok false w:=by
 simp[Op.equalIn,eK ht]
theorem Qi {x t v t' ms u dst ty ps af g}(E:Fr a n l)(ht:P.underlying t=some (.interface ms))[e:Ev l x (.iface t' v)] :
   (execOp a.eval ⟨dst,.binOp .eql t x (.const .nilIface) u,ty,ps,af,g⟩).run P w=.ok (.value (.bool false)) w:=by
 have hc:a.eval (.const .nilIface)=.nilIface:=rfl;have h2:(Op.equal t (.iface t' v) .nilIface).run P w=.ok false w:=Qh ht v 9999;simp only[execOp,e.ev a n E,hc,Sem.run_bind];simp[eqGuard,binOp,h2]
theorem Qj {x t ee dst ty ps af g}(E:Fr a n l)(ht:P.underlying t=some ee)(hd:(match ee with | .interface _=>false | _=>true)=true)[e:Ev l x v] :
   (execOp a.eval ⟨dst,.makeInterface t x,ty,ps,af,g⟩).run P w=.ok (.value (.iface t v)) w:=by
 cases ee <;> first | (simp at hd) | skip
 all_goals simp[execOp,e.ev a n E,Instr.makeInterface,eK ht]
def oT (P:Program)(t:TypeId)(name:String)(f:FuncId):Prop:=∀ (ad:Option Addr) (w:World),(method (P.types.size+Made.depth) t (.pointer ad) name).run P w=.ok (f,.pointer ad) w
theorem js {x t ad name f args oU ty ps af g vs all}{X:Ending→World→Prop}(E:Fr a n l)(hw:Region.wanted ⟨some d,.call ⟨.invoke x name,List.toArray args,oU⟩,ty,ps,af,g⟩ (yielded ops a.tmps)=true)
   [ex:Ev l x (.iface t (.pointer ad))] (hm:oT P t name f) (hb:g4 P f=true) (hf:okB d n l=true) [ev:nd l args vs] (hc:Calls P f (List.toArray all) w X) (hO:.pointer ad::vs=all)
   (h:∀ e V,X e V→∃ v,e=.returned v∧∀ a',Fr a' n ((d,v)::l)→K a' V) :
   cH P ops Q ⟨some d,.call ⟨.invoke x name,List.toArray args,oU⟩,ty,ps,af,g⟩ K a w:=by
 subst hO;refine GV hw ?_ hc λe V hx=>let ⟨v,he,hv⟩:=h e V hx;⟨v,he,hv _ (E.put hf v)⟩;have h3:=hm ad w;simp[execOp,resolve,ex.ev a n E,invoke,callMethod,ev.ev a n E,h3,yU hb,program,Sem.run]
end
end
section
section
variable {P:Program}{a:Act}{w:World}{n:Nat}{l:List (Nat×Value)}{v:Value}
theorem Hx {x vs t f fs iF ee dst ty ps af g}(E:Fr a n l)(hu:P.underlying t=some (.struct fs))(hf:fs[f]?=some iF)(hd:P.underlying iF.type=some ee)(h1:nI ee=true)
   [ev:Ev l x (.agg (List.toArray vs))] (hv:vs[iF.offset]?=some v) :
   (execOp a.eval ⟨dst,.field t x f,ty,ps,af,g⟩).run P w=.ok (.value v) w:=by
 have wX:(part iF.type vs.toArray iF.offset).run P w=.ok v w:=by
  have B7:(isAgg iF.type).run P w=.ok false w:=by
   simp only[isAgg,Sem.run_bind,eK hd,Result.andThen_ok];cases ee <;> first | rfl | (simp[nI]at h1)
  simp[part,B7,hv]
 simp[execOp,ev.ev a n E,Instr.field,eK hu,hf,asAgg,wX]
end
end
section
section
variable {P:Program}{a:Act}{w W:World}{n:Nat}{l:List (Nat×Value)}{L R:List SP}
theorem Ch {x u z3 k' wT i' wU j' nm ad m c t el z sz aX dst ty ps af g}(E:Fr a n l)(ht:P.underlying t=some (.slice el))(hi:TI P el z sz aX)[ev:Ev l x (.slice ad m c)][tk:Ev l u (.int k' i')][BV:Ev l z3 (.int wT wU)]
   [wR:en i' j'] [BW:en wU nm] (h':j'≤nm) (PI:nm≤c) :
   (execOp a.eval ⟨dst,.slice t x none (some u) (some z3),ty,ps,af,g⟩).run P w=.ok (.value (.slice (fk ad 0 nm sz) j' nm)) w:=by
 have iS:=wR.h;subst iS;have BZ:=BW.h;subst BZ;have e1:=(pT ht).1;have e2:=(pT ht).2;have:=run_slice_hm (P:=P) (w:=w) t ad m c e1 k' wT (j':Int) (nm:Int) (by omega) (by omega) (by omega);rw[e2,lR hi]at this;simp only[Result.andThen_ok,Int.toNat_natCast]at this;simp[execOp,ev.ev a n E,tk.ev a n E,BV.ev a n E,run_sliceAt_slice (P:=P) (w:=w) t _ _ _ _ e1,this,sliced,fk]
theorem U.Hy {e sz k c:Nat}{cs:List Value}(I:U W w L)(ad:Option Addr)(m:Nat)[pk:fL L ad k c e sz cs R](hm:m≤k):U W w (Sl e sz (fk ad 0 m sz) m m (cs.take (m*sz))::R):=by
 have h1:=I.perm pk.perm;rcases Nat.eq_zero_or_pos m with h0 | h0
 ·subst h0;simpa using h1.tail.bM e sz (fk ad 0 0 sz)
 ·have hc:=(I.sl ad);obtain⟨b,pre,post,⟨g1,mH,qz,rO⟩,h2⟩:=h1.lv (by omega);subst qz;rw[oP (by omega),Nat.zero_mul,Nat.add_zero];have lX:m*sz≤cs.length:=by rw[g1];exact Nat.mul_le_mul_right _ hm
  rw[show pre++cs++post=pre++cs.take (m*sz)++(cs.drop (m*sz)++post) from by
   conv=>lhs;rw[← jE (m*sz) cs]
   simp only[dv]]at h2
  exact U.iG h2 (by rw[et];omega) (bf _) (by simp)
end
end
section
section
variable {P:Program}{ops:Array Oper}{Q:Exit→Act→World→Prop}{a:Act}{w V W:World}{K:Act→World→Prop}{n d:Nat}{l:List (Nat×Value)}{L:List SP}
theorem qA {t el z sz aX x y k k' i j ty ps af g}(E:Fr a n l)(hw:Region.wanted ⟨some d,.makeSlice t x y,ty,ps,af,g⟩ (yielded ops a.tmps)=true)(I:U W w L)(ht:P.underlying t=some (.slice el))
   (hi:TI P el z sz aX) (hf:okB d n l=true) (hb:aX*j≤281474976710656) (hj:j≤9223372036854775807) [e:Ev l x (.int k i)] [e2:Ev l y (.int k' i)] [nj:en i j]
   (h:∀ b a' V,Fr a' n ((d,.slice (some ⟨b,0,none⟩) j j)::l)→U W V (aa b el (madeCells z.cells (j*sz)).toList::L)→Old w V→K a' V) :
   cH P ops Q ⟨some d,.makeSlice t x y,ty,ps,af,g⟩ K a w:=by
 have Qk:=nj.h;subst Qk;obtain⟨Hz,kX,dF,kx,pR⟩:=info_parts hi.h;have Ql:(Hz.bytes:Int)*(j:Int)≤281474976710656:=by
  rw[pR];have:((aX*j:Nat):Int)≤281474976710656:=by omega
  rwa [Int.natCast_mul]at this
 have hr:=run_make (P:=P) w t el Hz z ht kX dF k k' (j:Int) (j:Int) (by omega) (Int.le_refl _) Ql (by omega);rw[Int.toNat_natCast,kx]at hr;refine bE (v:=.slice (some ⟨w.heap.size,0,none⟩) j j) (V:=w.alloc (.cells (madeCells z.cells (j*sz)) el)) E hw ?_ hf (λa' dc=>h _ _ _ dc (by
  have:=I.alloc (.cells (madeCells z.cells (j*sz)) el);simpa [aa] using this) (Old.alloc _ _))
 simp[execOp,e.ev a n E,e2.ev a n E,hr]
end
end
section
class ts (os:List Oper)(j:Nat)(s:outParam Nat):Prop where h:(os[j]?).bind (·.dst)=some s
instance ts.zero {s op ty ps af g r}:ts (⟨some s,op,ty,ps,af,g⟩::r) 0 s:=⟨rfl⟩
instance ts.succ {o r j s}[h:ts r j s]:ts (o::r) (j+1) s:=⟨by rw[getElem?_cons_succ];exact h.h⟩
class nQ (os:List Oper)(j:Nat)(o:outParam Oper):Prop where h:os[j]?=some o
instance nQ.zero {o r}:nQ (o::r) 0 o:=⟨rfl⟩
instance nQ.succ {x r j o}[h:nQ r j o]:nQ (x::r) (j+1) o:=⟨by rw[getElem?_cons_succ];exact h.h⟩
class GB (v:Value)(b:Bool)(r:outParam Bool):Prop where h:((match v with | .bool c=>Option.some c | _=>none)==Option.some b)=r
instance GB.ac6:GB (.bool true) true true:=⟨rfl⟩
instance GB.ac7:GB (.bool true) false false:=⟨rfl⟩
instance GB.ac8:GB (.bool false) true false:=⟨rfl⟩
instance GB.ac9:GB (.bool false) false true:=⟨rfl⟩
instance GB.u {b}:GB undef b false:=⟨rfl⟩
class Gd (os:List Oper)(l:List (Nat×Value))(g:Option (Nat×Bool))(r:outParam Bool):Prop where
 h:∀ {a n},Fr a n l→∀ {dst op ty ps af},Region.wanted ⟨dst,op,ty,ps,af,g⟩ (yielded os.toArray a.tmps)=r
instance Gd.none {os l}:Gd os l none true:=⟨λ_=>rfl⟩
instance Gd.some {os l j b s v r}[d:ts os j s][k:fj l s v][x:GB v b r]:Gd os l (some (j,b)) r:=⟨λ{a n} E dst op ty ps af=>by
 have h1:=E.has _ k.mem;have h2:(os.toArray[j]?).bind (·.dst)=Option.some s:=by rw[getElem?_toArray];exact d.h
 rw[← x.h];simp only[Region.wanted,yielded,h2,Option.bind_some,h1];cases v <;> rfl⟩
class qB (p q:Prop)(r:outParam Prop):Prop where h:r→p∧q
instance qB.l {q}:qB True q q:=⟨λh=>⟨trivial,h⟩⟩
instance qB.r {p}:qB p True p:=⟨λh=>⟨h,trivial⟩⟩
instance (priority:=low) qB.b {p q}:qB p q (p∧q):=⟨id⟩
class rP (cs:List Value)(i:Nat)(v:outParam Value):Prop where h:cs[i]?=some v
instance rP.zero {v cs}:rP (v::cs) 0 v:=⟨rfl⟩
instance rP.succ {c cs i v}[h:rP cs i v]:rP (c::cs) (i+1) v:=⟨by rw[getElem?_cons_succ];exact h.h⟩
instance rP.apZ {v xs ys}:rP ((v::xs)++ys) 0 v:=⟨rfl⟩
class mI (o j sz:Nat)(r:outParam Nat):Prop where h:o+j*sz=r
instance (priority:=10) mI.any {o j sz}:mI o j sz (o+j*sz):=⟨rfl⟩
instance (priority:=20) mI.one {o j}:mI o j 1 (o+j):=⟨by rw[Nat.mul_one]⟩
instance (priority:=25) mI.at0 {o sz}:mI o 0 sz (o+0):=⟨by rw[Nat.zero_mul]⟩
instance (priority:=50) mI.ada {sz}:mI 0 0 sz 0:=⟨by rw[Nat.zero_mul]⟩
instance (priority:=30) mI.zero {j sz}:mI 0 j sz (j*sz):=⟨Nat.zero_add _⟩
instance (priority:=40) mI.both {j}:mI 0 j 1 j:=⟨by omega⟩
class aG (P:Program)(t:TypeId)(d:outParam TypeDesc):Prop where h:P.underlying t=some d
theorem aG.of {P:Program}{t:TypeId}{d:TypeDesc}(h:P.underlying t=some d):aG P t d:=⟨h⟩
class mJ (d:TypeDesc)(r:outParam Bool):Prop where h:nI d=r
instance Ex.adb {P:Program} {l x v1 v2 v3} [Ev l x (.tuple #[v1,v2,v3])]:Ex P l (.extract x 0) v1:=⟨λ_ _ E _ _ _ _ _ _=>nN E rfl⟩
instance Ex.ade {P:Program} {l x v1 v2 v3} [Ev l x (.tuple #[v1,v2,v3])]:Ex P l (.extract x 1) v2:=⟨λ_ _ E _ _ _ _ _ _=>nN E rfl⟩
instance Ex.adf {P:Program} {l x v1 v2 v3} [Ev l x (.tuple #[v1,v2,v3])]:Ex P l (.extract x 2) v3:=⟨λ_ _ E _ _ _ _ _ _=>nN E rfl⟩
instance:mJ .bool true:=⟨rfl⟩
instance:mJ .string true:=⟨rfl⟩
instance {k}:mJ (.int k) true:=⟨rfl⟩
instance {t}:mJ (.pointer t) true:=⟨rfl⟩
instance {t}:mJ (.slice t) true:=⟨rfl⟩
instance {t u}:mJ (.map t u) true:=⟨rfl⟩
instance {p r b}:mJ (.func p r b) true:=⟨rfl⟩
instance {m}:mJ (.interface m) true:=⟨rfl⟩
instance {f}:mJ (.struct f) false:=⟨rfl⟩
instance {m t}:mJ (.array m t) false:=⟨rfl⟩
class Ci (d:TypeDesc):Prop where h:(match d with | .interface _=>false | _=>true)=true
instance {t}:Ci (.pointer t):=⟨rfl⟩
instance {f}:Ci (.struct f):=⟨rfl⟩
class HA (m:Nat)(k:outParam Nat):Prop where h:m=k+1
instance {k}:HA (k+1) k:=⟨rfl⟩
class ve (fs:List Field)(f:Nat)(t k:outParam Nat):Prop where h:∃ iF,fs[f]?=some iF∧iF.type=t∧iF.offset=k
instance ve.zero {Qm t k e Qn pp kz r}:ve (⟨Qm,t,k,e,Qn,pp,kz⟩::r) 0 t k:=⟨_,rfl,rfl,rfl⟩
instance ve.succ {x r f t k}[h:ve r f t k]:ve (x::r) (f+1) t k:=⟨by rw[getElem?_cons_succ];exact h.h⟩
section
variable {P:Program}{t u el k sz aX f:Nat}{d:TypeDesc}{z:Value}{fs:List Field}
instance [h:aG P t (.pointer el)]:wV P t:=⟨_,h.h⟩
instance [h:aG P t (.slice el)]:B2 P t:=⟨_,h.h⟩
instance [h:aG P t d][g:mJ d true]:B3 P t:=⟨_,h.h,g.h⟩
instance {m:Nat}[h:aG P t (.struct fs.toArray)][g:ve fs f u k][hi:TI P u z m aX][q:HA m sz]:B4 P t f k:=by
 obtain⟨iF,h1,h2,h3⟩:=g.h;rw[q.h]at hi;exact⟨_,iF,z,sz,aX,h.h,by rw[getElem?_toArray];exact h1,by rw[h2];exact hi,h3⟩
end
def Lk (L:List SP)(w:World):Prop:=∃ W w0,U W w0 L∧Old w0 w
theorem Lk.of {W w:World}{L:List SP}(I:U W w L):Lk L w:=⟨W,w,I,Old.refl _⟩
theorem Lk.nil (w:World):Lk [] w:=⟨w,w,U.start _,Old.refl _⟩
theorem Lk.bB {w:World}{L R:List SP}{b e off:Nat}{cs:List Value}{v:Value}(h:Lk L w)[k:fC L b e cs R](hv:cs[off]?=some v):w.cell? ⟨b,off,none⟩=some v:=by
 obtain⟨W,w0,I,ho⟩:=h;exact ho.cell (I.bB hv)
theorem Lk.pO {w:World}{L R:List SP}{b e off:Nat}{cs:List Value}(h:Lk L w)[k:fC L b e cs R](m:Nat){vs:List Value}[sc:lQ cs off m vs]:Rd w b off vs:=by
 obtain⟨W,w0,I,ho⟩:=h;exact ho.rd (I.pO m)
instance lQ.whole {cs m}[h:lU cs m]:lQ cs 0 m cs:=⟨by rw[drop_zero,← h.h,take_length]⟩
class tt (ad:Option Addr)(r:outParam Bool):Prop where h:ad.isNone=r
instance tt.n:tt none true:=⟨rfl⟩
instance tt.s {a}:tt (some a) false:=⟨rfl⟩
instance (priority:=low) tt.any {ad}:tt ad ad.isNone:=⟨rfl⟩
theorem HB {P:Program}{a:Act}{w:World}{n:Nat}{l:List (Nat×Value)}{fn:Func} {t u x v v2 v3}{X:Ending→World→Prop}(E:Fr a n l)(hr:fn.results=#[.tmp t,.tmp u,.tmp x])[k:fj l t v][k2:fj l u v2][k3:fj l x v3](h:X (.returned (.tuple #[v,v2,v3])) w):bodyPost P fn X .ret a w:=by
 refine bodyPost_ret ?_ E.defers h;have h1:=E.has _ k.mem;have h2:=E.has _ k2.mem;have h3:=E.has _ k3.mem;simp[results,hr,Array.getD_eq_getD_getElem?,h1,h2,h3]
theorem Fr.ef {a:Act}{n:Nat}{l l':List (Nat×Value)}(E:Fr a n l)(s:Nat){b:Bool}[k:fj l s (.bool b)][e:gP l s l'](h:b=true:=by first | rfl | decide):Fr a n ((s,.bool true)::l') :=
 E.bool (s:=s) (λ_ h=>h) (λe _=>by rw[h]at e;cases e)
theorem Fr.aN {a:Act}{n:Nat}{l l':List (Nat×Value)}(E:Fr a n l)(s:Nat){b:Bool}[k:fj l s (.bool b)][e:gP l s l'](h:b=false:=by first | rfl | decide):Fr a n ((s,.bool false)::l') :=
 E.bool (s:=s) (λe _=>by rw[h]at e;cases e) (λ_ h=>h)
class Sx (P:Program)(L:List SP)(l:List (Nat×Value))(op:Go.Op)(c:outParam Prop)(v:outParam Value):Prop where
 ex:c→∀ {a n w},Fr a n l→Lk L w→∀ {dst ty ps af g},(execOp a.eval ⟨dst,op,ty,ps,af,g⟩).run P w=.ok (.value v) w
section
variable {P:Program}{L R:List SP}{l:List (Nat×Value)}{x y z:Operand}{v u zv:Value}{k k':IntKind}{i j i':Int}{m m' qC c:Nat}{t t' el sz aX b off r:Nat}{ad:Option Addr}{s:ByteArray}{p q:Bool}{vs ws zs:List Value}
instance (priority:=high) Sx.of {op}[h:Ex P l op v]:Sx P L l op True v:=⟨λ_ _ _ _ E _ _ _ _ _ _=>h.ex _ _ E _ _ _ _ _ _⟩
instance Sx.adg [Ev l x (.bool true)] [Ev l y v]:Sx P L l (.pick x y z) True v:=⟨λ_ _ _ _ E _ _ _ _ _ _=>OA E⟩
instance Sx.adh [Ev l x (.bool false)] [Ev l z v]:Sx P L l (.pick x y z) True v:=⟨λ_ _ _ _ E _ _ _ _ _ _=>OB E⟩
instance Sx.load {e cs} [Ev l x (.pointer (some ⟨b,off,none⟩))][u:B3 P t] [fC L b e cs R][n:rP cs off v]:Sx P L l (.load t x) True v :=
 ⟨λ_ _ _ _ E I _ _ _ _ _=>by obtain⟨ee,h1,h2⟩:=u.h;exact GQ E h1 h2 (I.bB n.h)⟩
instance Sx.adi {e cs d} [Ev l x (.pointer (some ⟨b,off,none⟩))][u:aG P t d][g:mJ d false][hi:TI P t zv m aX] [fC L b e cs R] [lQ cs off m vs][k:lU vs m]:Sx P L l (.load t x) True (.agg vs.toArray) :=
 ⟨λ_ _ _ _ E I _ _ _ _ _=>bT E u.h g.h (by rw[k.h];exact hi) (I.pO m)⟩
instance Sx.add [Ev l x (.int .i64 i)] [Ev l y (.int .i64 j)]:Sx P L l (.binOp .add t x y t') (-9223372036854775808≤i+j∧i+j≤9223372036854775807) (.int .i64 (i+j)) :=
 ⟨λh _ _ _ E _ _ _ _ _ _=>OD E h.1 h.2⟩
instance Sx.sub [Ev l x (.int .i64 i)] [Ev l y (.int .i64 j)]:Sx P L l (.binOp .sub t x y t') (-9223372036854775808≤i-j∧i-j≤9223372036854775807) (.int .i64 (i-j)) :=
 ⟨λh _ _ _ E _ _ _ _ _ _=>OE E h.1 h.2⟩
instance Sx.mul [Ev l x (.int .i64 i)] [Ev l y (.int .i64 j)]:Sx P L l (.binOp .mul t x y t') (-9223372036854775808≤i*j∧i*j≤9223372036854775807) (.int .i64 (i*j)) :=
 ⟨λh _ _ _ E _ _ _ _ _ _=>OF E h.1 h.2⟩
instance (priority:=low) Sx.adj [Ev l x (.int k i)] [Ev l y (.int k j)]:Sx P L l (.binOp .add t x y t') (True) (.int k (k.wrap (i+j))):=⟨λ_ _ _ _ E _ _ _ _ _ _=>GO E⟩
instance (priority:=low) Sx.adk [Ev l x (.int k i)] [Ev l y (.int k j)]:Sx P L l (.binOp .sub t x y t') (True) (.int k (k.wrap (i-j))):=⟨λ_ _ _ _ E _ _ _ _ _ _=>yS E⟩
instance (priority:=low) Sx.adl [Ev l x (.int k i)] [Ev l y (.int k j)]:Sx P L l (.binOp .mul t x y t') (True) (.int k (k.wrap (i*j))):=⟨λ_ _ _ _ E _ _ _ _ _ _=>GP E⟩
instance Sx.rem [Ev l x (.int k i)] [Ev l y (.int k j)]:Sx P L l (.binOp .rem t x y t') (j≠0) (.int k (i.tmod j)):=⟨λg _ _ _ E _ _ _ _ _ _=>y0 E g⟩
instance Sx.or [Ev l x (.int k i)] [Ev l y (.int k j)]:Sx P L l (.binOp .or t x y t') (True) (.int k (k.wrap ((BitVec.ofInt k.bits i ||| BitVec.ofInt k.bits j).toNat))):=⟨λ_ _ _ _ E _ _ _ _ _ _=>Qc E⟩
instance Sx.and [Ev l x (.int k i)] [Ev l y (.int k j)]:Sx P L l (.binOp .and t x y t') (True) (.int k (k.wrap ((BitVec.ofInt k.bits i &&& BitVec.ofInt k.bits j).toNat))):=⟨λ_ _ _ _ E _ _ _ _ _ _=>Qd E⟩
instance (priority:=low) Sx.xor [Ev l x (.int k i)] [Ev l y (.int k j)]:Sx P L l (.binOp .xor t x y t') (True) (.int k (k.wrap ((BitVec.ofInt k.bits i ^^^ BitVec.ofInt k.bits j).toNat))):=⟨λ_ _ _ _ E _ _ _ _ _ _=>Qe E⟩
instance Sx.adm {i j:UInt8} [Ev l x (.int .u8 (i.toNat:Int))] [Ev l y (.int .u8 (j.toNat:Int))]:Sx P L l (.binOp .xor t x y t') True (.int .u8 ((i ^^^ j).toNat:Int)):=⟨λ_ _ _ _ E _ _ _ _ _ _=>PN E⟩
instance Sx.min {tn} [Ev l x (.int k i)] [Ev l y (.int k j)]:Sx P L l (.call ⟨.builtin .min,#[x,y],tn⟩) (True) (.int k (min i j)):=⟨λ_ _ _ _ E _ _ _ _ _ _=>PF E⟩
instance Sx.max {tn} [Ev l x (.int k i)] [Ev l y (.int k j)]:Sx P L l (.call ⟨.builtin .max,#[x,y],tn⟩) (True) (.int k (max i j)):=⟨λ_ _ _ _ E _ _ _ _ _ _=>PG E⟩
instance Sx.shl [Ev l x (.int k i)] [Ev l y (.int k' j)] [en j m]:Sx P L l (.binOp .shl t x y t') (m≤k.bits) (.int k (k.wrap (i*2 ^ m))):=⟨λg _ _ _ E _ _ _ _ _ _=>Hv E g⟩
instance Sx.shr [Ev l x (.int k i)] [Ev l y (.int k' j)] [en j m]:Sx P L l (.binOp .shr t x y t') (m≤k.bits) (.int k (i.fdiv (2 ^ m))):=⟨λg _ _ _ E _ _ _ _ _ _=>Qb E g⟩
instance Sx.com [Ev l x (.int k i)]:Sx P L l (.unOp .xor t x) True (.int k (k.wrap ((BitVec.ofInt k.bits (if k.signed then -1 else k.max) ^^^ BitVec.ofInt k.bits i).toNat))):=⟨λ_ _ _ _ E _ _ _ _ _ _=>Qf E⟩
instance Sx.neg [Ev l x (.int k i)]:Sx P L l (.unOp .neg t x) True (.int k (k.wrap (0-i))):=⟨λ_ _ _ _ E _ _ _ _ _ _=>Qg E⟩
instance Sx.adn [h:aG P t (.slice el)] [Ev l x (.slice ad m c)][q:tt ad p]:Sx P L l (.binOp .eql t x (.const (.slice none 0 0)) t') True (.bool p):=⟨λ_ _ _ _ E _ _ _ _ _ _=>by rw[← q.h];exact PJ E h.h⟩
instance Sx.ado [h:aG P t .string] [Ev l x (.string s)]:Sx P L l (.call ⟨.builtin .len,#[x],#[t]⟩) (True) (.int .i64 s.size):=⟨λ_ _ _ _ E _ _ _ _ _ _=>Qa E h.h⟩
instance Sx.adp [h:aG P t .bool] [Ev l x (.bool p)] [Ev l y (.bool q)]:Sx P L l (.binOp .eql t x y t') (True) (.bool (p==q)):=⟨λ_ _ _ _ E _ _ _ _ _ _=>PD E h.h⟩
instance Sx.adr [h:aG P t .bool] [Ev l x (.bool p)] [Ev l y (.bool q)]:Sx P L l (.binOp .neq t x y t') (True) (.bool (p != q)):=⟨λ_ _ _ _ E _ _ _ _ _ _=>PE E h.h⟩
instance Sx.ads {fn xs ys} [nd l xs vs] [nd l ys ws]:Sx P L l (.makeFunc fn xs.toArray ys.toArray) (True) (.func fn vs.toArray ws.toArray):=⟨λ_ _ _ _ E _ _ _ _ _ _=>OV E⟩
instance Sx.adt {d}[h:aG P t d][g:Ci d] [Ev l x v]:Sx P L l (.makeInterface t x) (True) (.iface t v):=⟨λ_ _ _ _ E _ _ _ _ _ _=>Qj E h.h (by have:=g.h;cases d <;> first | rfl | (simp at this))⟩
instance Sx.adu {ms}[h:aG P t (.interface ms)] [Ev l x (.iface m v)]:Sx P L l (.binOp .eql t x (.const .nilIface) t') (True) (.bool false):=⟨λ_ _ _ _ E _ _ _ _ _ _=>Qi E h.h⟩
instance Sx.index [h:aG P t (.slice el)][hi:TI P el zv sz aX] [Ev l x (.slice (some ⟨b,off,none⟩) m c)] [Ev l y (.int k i)] [en i m'][q:mI off m' sz r]:Sx P L l (.indexAddr t x y) (m'<m) (.pointer (some ⟨b,r,none⟩)):=⟨λg _ _ _ E _ _ _ _ _ _=>by rw[← q.h];exact GU E h.h hi g⟩
instance Sx.adv [h:aG P t (.array m el)][hi:TI P el zv sz aX] [Ev l x (.pointer (some ⟨b,off,none⟩))] [Ev l y (.int k i)] [en i m'][q:mI off m' sz r]:Sx P L l (.indexAddr t x y) (m'<m) (.pointer (some ⟨b,r,none⟩)):=⟨λg _ _ _ E _ _ _ _ _ _=>by rw[← q.h];exact OT E h.h hi g⟩
instance Sx.adw [h:aG P t (.slice el)][hi:TI P el zv sz aX] [Ev l x (.slice ad m c)] [Ev l y (.int k i)] [en i m']:Sx P L l (.slice t x (some y) none none) (m'≤m) (.slice (fk ad m' c sz) (m-m') (c-m')):=⟨λg _ _ _ E _ _ _ _ _ _=>O7 E h.h hi g⟩
instance Sx.adx [h:aG P t (.slice el)][hi:TI P el zv sz aX] [Ev l x (.slice ad m c)] [Ev l y (.int k i)] [en i m']:Sx P L l (.slice t x none (some y) none) (m'≤c) (.slice (fk ad 0 c sz) (m'-0) (c-0)):=⟨λg _ _ _ E _ _ _ _ _ _=>O8 E h.h hi g⟩
instance Sx.ady [h:aG P t (.slice el)][hi:TI P el zv sz aX] [Ev l x (.slice ad m c)] [Ev l y (.int k i)] [en i m'] [Ev l z (.int k' i')] [en i' qC]:Sx P L l (.slice t x (some y) (some z) none) (m'≤qC∧qC≤c) (.slice (fk ad m' c sz) (qC-m') (c-m')):=⟨λg _ _ _ E _ _ _ _ _ _=>O9 E h.h hi g.1 g.2⟩
instance Sx.adz [h:aG P t (.slice el)][hi:TI P el zv sz aX] [Ev l x (.slice ad m c)] [Ev l y (.int k i)] [en i m'] [Ev l z (.int k' i')] [en i' qC]:Sx P L l (.slice t x none (some y) (some z)) (m'≤qC∧qC≤c) (.slice (fk ad 0 qC sz) m' qC):=⟨λg _ _ _ E _ _ _ _ _ _=>Ch E h.h hi g.1 g.2⟩
instance Sx.adA [h:aG P t (.array m el)][hi:TI P el zv sz aX] [Ev l x (.pointer (some ⟨b,off,none⟩))]:Sx P L l (.slice t x none none none) (True) (.slice (some ⟨b,off,none⟩) m m):=⟨λ_ _ _ _ E _ _ _ _ _ _=>P5 E h.h hi⟩
instance Sx.conv [h:aG P t (.int k)][q:aG P t' (.int k')] [Ev l x (.int k i)]:Sx P L l (.convert t t' x) (k'.wrap i=i) (.int k' i):=⟨λg _ _ _ E _ _ _ _ _ _=>oR E h.h q.h g⟩
instance Sx.build {j8 parts}[hb:eo P t j8][hi:TI P t zv sz aX] [Cells zv zs] [tm j8 zs l parts vs]:Sx P L l (.build t (List.toArray parts)) ((j8.all λp=>Nat.ble (p.1+p.2) zs.length)=true) (.agg vs.toArray):=⟨λg _ _ _ E _ _ _ _ _ _=>Hm E hb hi g⟩
end
def Hd (C:World→Prop)(L:List SP):Prop:=∀ V,C V→Lk L V
theorem Hd.any (C:World→Prop):Hd C []:=λV _=>Lk.nil V
theorem Hd.gf {W w:World}{L:List SP}(I:U W w L):Hd (Old w) L:=λ_ h=>⟨W,w,I,h⟩
def CN (b:Bool)(C:World→Prop)(K:Act→World→Prop):Act→World→Prop:=λa w=>(b=true→C w)∧K a w
def rQ (X:Ending→World→Prop)(v:Value):Act→World→Prop:=λ_ w=>X (.returned v) w
def qD (P:Program)(rs:List ResultVar)(X:Ending→World→Prop):Exit→Act→World→Prop:=λe a w=>∀ fn:Func,fn.results=rs.toArray→bodyPost P fn X e a w
class mK (Q:Exit→Act→World→Prop):Prop where h:kY Q
instance {K Q}[h:mK Q]:mK (Exit.then K Q):=⟨Pd h.h⟩
instance {i Q}[h:mK Q]:mK (Exit.inBlock i Q):=⟨Pf h.h⟩
instance {P rs X}:mK (qD P rs X):=⟨λc a o v w h fn hr=>Ph c a o v w (h fn hr)⟩
class y3 (P:Program):Prop where h:P.follows .mixedOrders=true
class Rn (k n:Nat)(C:World→Prop)(L0 L:List SP)(l:List (Nat×Value))(X:Act→World→Prop)(b:outParam Bool)(c:outParam Prop)(l':outParam (List (Nat×Value)))(Y:outParam (Act→World→Prop)):Prop where
 rn:b=true→c→∀ {a W w},Fr a n l→U W w L→Hd C L0∧C w→(∀ a,Fr a n l'→Y a w)→X a w
class Way (v:Value)(x y:Code)(z:outParam Code):Prop where h:∃ b,v=.bool b∧z=if b then x else y
instance {x y}:Way (.bool true) x y x:=⟨true,rfl,rfl⟩
instance {x y}:Way (.bool false) x y y:=⟨false,rfl,rfl⟩
def Cj (os:List Oper)(m i:Nat):Bool:=match Region.ready .any os.toArray (lb os.toArray.size m) with | [j]=>Nat.beq j i | _=>false
theorem Qo {os:List Oper}{m i:Nat}(h:Cj os m i=true):Region.ready .any os.toArray (lb os.toArray.size m)=[i]:=by
 unfold Cj at h;split at h
 ·rename_i j e;rw[e,Nat.eq_of_beq_eq_true h]
 ·cases h
def Qp (os:List Oper)(m:Nat):Bool:=(Region.ready .any os.toArray (lb os.toArray.size m)).isEmpty
section
variable {P:Program}{k n d i j m fuel:Nat}{C C2:World→Prop}{L0 L:List SP}{l l1 l':List (Nat×Value)}{X Y K:Act→World→Prop}{b b2:Bool}{c dK c2:Prop}{os rest:List Oper}{Q:Exit→Act→World→Prop}{op:Go.Op}{v:Value}{ty:TypeId}{ps:String}{af:Array Edge}{g:Option (Nat×Bool)}{x y z:Code}{o:Operand}{bk od:List Nat}
instance (priority:=1) Rn.stop:Rn 0 n C L0 L l X true True l X:=⟨λ_ _ _ _ _ E _ _ h=>h _ E⟩
instance Rn.oper [e:Gd os l g true][s:Sx P L l op dK v][q:gP l d l1][r:Rn k n C L0 L ((d,v)::l1) K b2 c2 l' Y][p:qB dK c2 c] :
   Rn (k+1) n C L0 L l (cH P os.toArray Q ⟨some d,op,ty,ps,af,g⟩ K) (okB d n l1&&b2) c l' Y:=⟨λhb hc a W w E I hx h=>by
 rw[fB]at hb;obtain⟨h1,h2⟩:=p.h hc;exact bE (E.del d) (e.h E) (s.ex h1 E (Lk.of I)) hb.1 λa E=>r.rn hb.2 h2 E I hx h⟩
instance Rn.off {jb}[e:Gd os l (some jb) false][q:gP l d l1][r:Rn k n C L0 L ((d,undef)::l1) K b2 c l' Y] :
   Rn (k+1) n C L0 L l (cH P os.toArray Q ⟨some d,op,ty,ps,af,some jb⟩ K) (okB d n l1&&b2) c l' Y:=⟨λhb hc a W w E I hx h=>by
 rw[fB]at hb;exact Ow (E.del d) (e.h E) hb.1 λa E=>r.rn hb.2 hc E I hx h⟩
instance Rn.cons {ops}{o:Oper}[r:Rn k n C L0 L l (cH P ops Q o (wpList P ops Q rest)) b c l' Y]:Rn k n C L0 L l (wpList P ops Q (o::rest)) b c l' Y:=⟨λhb hc _ _ _ E I hx h=>(r.rn hb hc E I hx h)⟩
instance Rn.nil {ops}[r:Rn k n C L0 L l (Q .normal) b c l' Y]:Rn k n C L0 L l (wpList P ops Q []) b c l' Y:=⟨λhb hc _ _ _ E I hx h=>PO (r.rn hb hc E I hx h)⟩
instance Rn.seq [r:Rn k n C L0 L l (x.wp P (Exit.then (y.wp P Q) Q)) b c l' Y]:Rn (k+1) n C L0 L l ((Code.seq x y).wp P Q) b c l' Y:=⟨λhb hc _ _ _ E I hx h=>wp_seq (r.rn hb hc E I hx h)⟩
instance Rn.region {id}[r:Rn k n C L0 L l (wpList P os.toArray Q os) b c l' Y]:Rn k n C L0 L l ((Code.region id os.toArray false).wp P Q) b c l' Y:=⟨λhb hc _ _ _ E I hx h=>wp_region_lit (r.rn hb hc E I hx h)⟩
instance Rn.skip [r:Rn k n C L0 L l (Q .normal) b c l' Y]:Rn k n C L0 L l (Code.skip.wp P Q) b c l' Y:=⟨λhb hc _ _ _ E I hx h=>wp_skip (r.rn hb hc E I hx h)⟩
instance Rn.block [r:Rn k n C L0 L l (x.wp P (Exit.inBlock i Q)) b c l' Y]:Rn k n C L0 L l ((Code.block i x).wp P Q) b c l' Y:=⟨λhb hc _ _ _ E I hx h=>wp_block (r.rn hb hc E I hx h)⟩
instance Rn.exit [r:Rn k n C L0 L l (Q (.exit i)) b c l' Y]:Rn k n C L0 L l ((Code.exit i).wp P Q) b c l' Y:=⟨λhb hc _ _ _ E I hx h=>wp_exit (r.rn hb hc E I hx h)⟩
instance Rn.ret [r:Rn k n C L0 L l (Q .ret) b c l' Y]:Rn k n C L0 L l (Code.ret.wp P Q) b c l' Y:=⟨λhb hc _ _ _ E I hx h=>wp_ret (r.rn hb hc E I hx h)⟩
instance Rn.cond [e:Ev l o v][q:Way v x y z][r:Rn k n C L0 L l (z.wp P Q) b c l' Y]:Rn (k+1) n C L0 L l ((Code.cond o x y).wp P Q) b c l' Y:=⟨λhb hc _ _ _ E I hx h=>by
 obtain⟨t,rfl,rfl⟩:=q.h;exact wp_cond (e.ev _ _ E) (r.rn hb hc E I hx h)⟩
instance Rn.adB [r:Rn k n C L0 L l (K) b c l' Y]:Rn k n C L0 L l (Exit.then K Q .normal) b c l' Y:=⟨λhb hc _ _ _ E I hx h=>TN (r.rn hb hc E I hx h)⟩
instance Rn.adC [r:Rn k n C L0 L l (Q .ret) b c l' Y]:Rn k n C L0 L l (Exit.then K Q .ret) b c l' Y:=⟨λhb hc _ _ _ E I hx h=>TR (r.rn hb hc E I hx h)⟩
instance Rn.adD [r:Rn k n C L0 L l (Q (.exit i)) b c l' Y]:Rn k n C L0 L l (Exit.then K Q (.exit i)) b c l' Y:=⟨λhb hc _ _ _ E I hx h=>TE (r.rn hb hc E I hx h)⟩
instance Rn.adF [r:Rn k n C L0 L l (Q .normal) b c l' Y]:Rn k n C L0 L l (Exit.inBlock i Q .normal) b c l' Y:=⟨λhb hc _ _ _ E I hx h=>PQ (r.rn hb hc E I hx h)⟩
instance Rn.adG [r:Rn k n C L0 L l (Q .ret) b c l' Y]:Rn k n C L0 L l (Exit.inBlock i Q .ret) b c l' Y:=⟨λhb hc _ _ _ E I hx h=>PR (r.rn hb hc E I hx h)⟩
instance (priority:=high) Rn.adH [r:Rn k n C L0 L l (Q .normal) b c l' Y]:Rn k n C L0 L l (Exit.inBlock i Q (.exit i)) b c l' Y:=⟨λhb hc _ _ _ E I hx h=>OZ (r.rn hb hc E I hx h)⟩
instance Rn.adI [r:Rn k n C L0 L l (Q (.exit j)) b c l' Y]:Rn k n C L0 L l (Exit.inBlock i Q (.exit j)) (!Nat.beq j i&&b) c l' Y:=⟨λhb hc _ _ _ E I hx h=>by
 rw[fB,Bool.not_eq_true']at hb;exact O0 hb.1 (r.rn hb.2 hc E I hx h)⟩
variable {t u r3:Nat}{v2 v3 zv:Value}{vs cs:List Value}{R:Ending→World→Prop}{bb off e sz aX:Nat}{RR:List SP}{ee:TypeDesc}
instance Rn.GZ:Rn 0 n C L0 L l (qD P [] R .normal) true True l (rQ R (.tuple #[])):=⟨λ_ _ _ _ _ E _ _ h _ hr=>Go.Proofs.YteoldcfapaiobaaGreat.GZ E hr (h _ E)⟩
instance Rn.GY:Rn 0 n C L0 L l (qD P [] R .ret) true True l (rQ R (.tuple #[])):=⟨λ_ _ _ _ _ E _ _ h _ hr=>Go.Proofs.YteoldcfapaiobaaGreat.GY E hr (h _ E)⟩
instance Rn.GW [fj l t v]:Rn 0 n C L0 L l (qD P [.tmp t] R .ret) true True l (rQ R v):=⟨λ_ _ _ _ _ E _ _ h _ hr=>Go.Proofs.YteoldcfapaiobaaGreat.GW E hr (h _ E)⟩
instance Rn.GX [fj l t v] [fj l u v2]:Rn 0 n C L0 L l (qD P [.tmp t,.tmp u] R .ret) true True l (rQ R (.tuple #[v,v2])):=⟨λ_ _ _ _ _ E _ _ h _ hr=>Go.Proofs.YteoldcfapaiobaaGreat.GX E hr (h _ E)⟩
instance Rn.HB [fj l t v] [fj l u v2] [fj l r3 v3]:Rn 0 n C L0 L l (qD P [.tmp t,.tmp u,.tmp r3] R .ret) true True l (rQ R (.tuple #[v,v2,v3])):=⟨λ_ _ _ _ _ E _ _ h _ hr=>Go.Proofs.YteoldcfapaiobaaGreat.HB E hr (h _ E)⟩
instance Rn.adJ [fj l t (.pointer (some ⟨bb,off,none⟩))][q:aG P u ee][p2:mJ ee false][hi:TI P u zv sz aX] [fC L bb e cs RR] [lQ cs off sz vs][p:lU vs sz]:Rn 0 n C L0 L l (qD P [.cell t u] R .ret) true True l (rQ R (.agg vs.toArray)):=⟨λ_ _ _ _ _ E I _ h _ hr =>
 Go.Proofs.YteoldcfapaiobaaGreat.OW E hr (BO q.h p2.h (by rw[p.h];exact hi) (I.pO sz)) (h _ E)⟩
instance Rn.adK [fj l t (.pointer (some ⟨bb,off,none⟩))][q:aG P u ee][p2:mJ ee false][hi:TI P u zv sz aX] [fC L bb e cs RR] [lQ cs off sz vs][p:lU vs sz] [fj l r3 v2]:Rn 0 n C L0 L l (qD P [.cell t u,.tmp r3] R .ret) true True l (rQ R (.tuple #[.agg vs.toArray,v2])):=⟨λ_ _ _ _ _ E I _ h _ hr =>
 Go.Proofs.YteoldcfapaiobaaGreat.OX E hr (BO q.h p2.h (by rw[p.h];exact hi) (I.pO sz)) (h _ E)⟩
instance Rn.tu [r:Rn k n C L0 L l K b c l' Y]:Rn k n C L0 L l (CN b2 C K) b c l' Y:=⟨λhb hc _ _ _ E I hx h=>⟨λ_=>hx.2,r.rn hb hc E I hx h⟩⟩
instance (priority:=low) Rn.cnF [r:Rn k n C L0 L l K b c l' Y]:Rn k n C L0 L l (CN b2 C2 K) (!b2&&b) c l' Y:=⟨λhb hc _ _ _ E I hx h=>by
 rw[fB,Bool.not_eq_true']at hb;exact⟨λe=>(by rw[hb.1]at e;cases e),r.rn hb.2 hc E I hx h⟩⟩
instance Rn.one {o}[p:nQ os i o][r:Rn k n C L0 L l (cH P os.toArray Q o (CN (bk.contains i) C2 (gu P os.toArray Q C2 bk od fuel (lW m i)))) b c l' Y] :
   Rn k n C L0 L l (gu P os.toArray Q C2 bk ((i+1000)::od) (fuel+1) m) (Cj os m i&&b) c l' Y:=⟨λhb hc a W w E I hx h=>by
 rw[fB]at hb;show gu P os.toArray Q C2 bk (i::od) (fuel+1) m a w;exact PS (by rw[getElem?_toArray];exact p.h) (r.rn hb.2 hc E I hx h) (Qo hb.1)⟩
instance (priority:=low) Rn.pure [p:nQ os i ⟨some d,op,ty,ps,af,g⟩][pk:mK Q][e:Gd os l g true][s:Sx P [] l op dK v][q:gP l d l1][r:Rn k n C L0 L ((d,v)::l1) (gu P os.toArray Q C2 bk od fuel (lW m i)) b2 c2 l' Y][Ck:qB dK c2 c] :
   Rn (k+1) n C L0 L l (gu P os.toArray Q C2 bk (i::od) (fuel+1) m) (mF os.toArray (lb os.toArray.size m) bk true i&&!bk.contains i&&okB d n l1&&b2) c l' Y:=⟨λhb hc a W w E I hx h=>by
 simp only[fB,Bool.not_eq_true']at hb;obtain⟨h1,h2⟩:=Ck.h hc;exact Hi (pW _ _ _) (by rw[getElem?_toArray];exact p.h) hb.1.1.1 hb.1.1.2 pk.h (E.del d) (e.h E) (λw=>s.ex h1 E (Lk.nil w)) hb.1.2 λa E=>r.rn hb.2 h2 E I hx h⟩
instance (priority:=low) Rn.adM {jb}[p:nQ os i ⟨some d,op,ty,ps,af,some jb⟩][pk:mK Q][e:Gd os l (some jb) false][q:gP l d l1][r:Rn k n C L0 L ((d,undef)::l1) (gu P os.toArray Q C2 bk od fuel (lW m i)) b2 c l' Y] :
   Rn (k+1) n C L0 L l (gu P os.toArray Q C2 bk (i::od) (fuel+1) m) (mF os.toArray (lb os.toArray.size m) bk true i&&!bk.contains i&&okB d n l1&&b2) c l' Y:=⟨λhb hc a W w E I hx h=>by
 simp only[fB,Bool.not_eq_true']at hb;exact Ps (pW _ _ _) (by rw[getElem?_toArray];exact p.h) hb.1.1.1 hb.1.1.2 pk.h (E.del d) (e.h E) hb.1.2 λa E=>r.rn hb.2 hc E I hx h⟩
instance (priority:=high) Rn.held [p:nQ os i ⟨some d,op,ty,ps,af,g⟩][pk:mK Q][e:Gd os l g true][s:Sx P L0 l op dK v][q:gP l d l1][r:Rn k n C L0 L ((d,v)::l1) (gu P os.toArray Q C bk od fuel (lW m i)) b2 c2 l' Y][Ck:qB dK c2 c] :
   Rn (k+1) n C L0 L l (gu P os.toArray Q C bk ((i+3000)::od) (fuel+1) m) (mF os.toArray (lb os.toArray.size m) bk false i&&okB d n l1&&b2) c l' Y:=⟨λhb hc a W w E I hx h=>by
 simp only[fB]at hb;obtain⟨h1,h2⟩:=Ck.h hc;exact Hj (pW _ _ _) (by rw[getElem?_toArray];exact p.h) hb.1.1 pk.h (E.del d) (e.h E) (λw hw=>s.ex h1 E (hx.1 w hw)) hx.2 hb.1.2 λa E=>r.rn hb.2 h2 E I hx h⟩
instance (priority:=high) Rn.adO {jb}[p:nQ os i ⟨some d,op,ty,ps,af,some jb⟩][pk:mK Q][e:Gd os l (some jb) false][q:gP l d l1][r:Rn k n C L0 L ((d,undef)::l1) (gu P os.toArray Q C bk od fuel (lW m i)) b2 c l' Y] :
   Rn (k+1) n C L0 L l (gu P os.toArray Q C bk ((i+3000)::od) (fuel+1) m) (mF os.toArray (lb os.toArray.size m) bk false i&&okB d n l1&&b2) c l' Y:=⟨λhb hc a W w E I hx h=>by
 simp only[fB]at hb;exact Pt (pW _ _ _) (by rw[getElem?_toArray];exact p.h) hb.1.1 pk.h (E.del d) (e.h E) hx.2 hb.1.2 λa E=>r.rn hb.2 hc E I hx h⟩
instance Rn.done [r:Rn k n C L0 L l (Q .normal) b c l' Y]:Rn k n C L0 L l (gu P os.toArray Q C2 bk [] fuel m) (Qp os m&&b) c l' Y:=⟨λhb hc _ _ _ E I hx h=>by
 rw[fB]at hb;exact PW (r.rn hb.2 hc E I hx h) (List.isEmpty_iff.1 hb.1)⟩
class Zp (vs:List Value)(ks:List Nat)(l:outParam (List (Nat×Value))):Prop where h:ks.zip vs=l
instance Zp.nil {ks}:Zp [] ks []:=⟨by simp⟩
instance Zp.cons {v vs k ks l}[h:Zp vs ks l]:Zp (v::vs) (k::ks) ((k,v)::l):=⟨by rw[List.zip_cons_cons,h.h]⟩
class App (xs ys:List Value)(zs:outParam (List Value)):Prop where h:xs++ys=zs
instance App.nil {ys}:App [] ys ys:=⟨rfl⟩
instance App.cons {x xs ys zs}[h:App xs ys zs]:App (x::xs) ys (x::zs):=⟨by rw[cons_append,h.h]⟩
instance Zp.app {xs ys zs ks l}[q:App xs ys zs][h:Zp zs ks l]:Zp (xs++ys) ks l:=⟨by rw[q.h];exact h.h⟩
class rR (n:Nat)(l:List (Nat×Value))(d:Option Tmp)(b:outParam Bool)(F:outParam (Value→List (Nat×Value))):Prop where h:b=true→∀ {a v},Fr a n l→Fr (a.put d v) n (F v)
instance rR.some {n l d l1}[q:gP l d l1]:rR n l (some d) (okB d n l1) (λv=>(d,v)::l1):=⟨λh _ v E=>(E.del d).put h v⟩
class nR (P:Program)(l:List (Nat×Value))(ce:Callee)(args:List Operand)(f:outParam Nat)(vs:outParam (List Value)):Prop where
 h:g4 P f=true→∀ {a n w},Fr a n l→∀ {dst oU ty ps af g},(execOp a.eval ⟨dst,.call ⟨ce,args.toArray,oU⟩,ty,ps,af,g⟩).run P w=.ok (.enter f vs.toArray) w
instance nR.fn {P l f args vs}[ev:nd l args vs]:nR P l (.value (.func f)) args f vs:=⟨λhb a n w E _ _ _ _ _ _=>by
 have h2:a.eval (.func f)=.func (.func f) #[] #[]:=rfl;simp[execOp,resolve,h2,Deferred.ofValue,invoke,ev.ev a n E,yU hb]⟩
instance nR.kb {P l x f us args vs zs}[ex:Ev l (.tmp x) (.func (.func f) #[] (List.toArray us))][ev:nd l args vs][q:App vs us zs]:nR P l (.value (.tmp x)) args f zs:=⟨λhb a n w E _ _ _ _ _ _=>by
 rw[← q.h];simp[execOp,resolve,ex.ev a n E,Deferred.ofValue,invoke,ev.ev a n E,yU hb]⟩
class rS (vs:List Value):Prop where h:∀ v∈vs,v.oneCell'=true
instance rS.nil:rS []:=⟨by simp⟩
instance rS.ints {k m g}:rS (ints k m g):=⟨tr⟩
class One (v:Value):Prop where h:v.oneCell'=true
instance {k i}:One (.int k i):=⟨rfl⟩
instance {b}:One (.bool b):=⟨rfl⟩
instance {s}:One (.string s):=⟨rfl⟩
instance {p}:One (.pointer p):=⟨rfl⟩
instance {p n c}:One (.slice p n c):=⟨rfl⟩
instance {t v}:One (.iface t v):=⟨rfl⟩
instance rS.cons {v vs}[h:One v][k:rS vs]:rS (v::vs):=⟨λx hx=>by
 rcases List.mem_cons.1 hx with rfl | hx
 ·exact h.h
 ·exact k.h x hx⟩
variable {a:Act}{w W:World}{l2:List (Nat×Value)}{p q:Prop}{bp:Bool}{F:Value→List (Nat×Value)}{dst:Option Tmp}{ce:Callee}{args:List Operand}{f:Nat}{oU:Array TypeId}{xo y4:Operand}
abbrev jH:World→Prop:=λ_=>True
theorem kA {w:World}:Hd jH []∧jH w:=⟨Hd.any _,trivial⟩
theorem EN {fn:Func}{HC:Code}{rs:List ResultVar}{X:Ending→World→Prop}(hf:P.funcs[f]?=some fn)(hn:fn.ntmps=m)(hb:fn.body=some HC)(hr:fn.results=rs.toArray)[z:Zp vs [0,1,2,3,4,5,6,7,8,9,10,11] l](h:∀ a,Fr a m l→HC.wp P (qD P rs X) a w)
   (hm:(Nat.ble vs.length m&&Nat.ble vs.length 12)=true:=by rfl):Calls P f vs.toArray w X:=by
 rw[fB]at hm;refine OY hf hb hn (Nat.le_of_ble_eq_true hm.1) λa E=>wp_mono (h a ?_) λ_ _ _ hq=>hq fn hr;have Cl:=Nat.le_of_ble_eq_true hm.2;rw[← z.h];have e:((List.range vs.length).zip vs)=[0,1,2,3,4,5,6,7,8,9,10,11].zip vs:=by
  have h3:[0,1,2,3,4,5,6,7,8,9,10,11]=List.range (vs.length+(12-vs.length)):=by rw[show vs.length+(12-vs.length)=12 from by omega];rfl
  rw[h3,List.range_add];have h4:=List.zip_append (l₁:=List.range vs.length) (l₂:=vs) (r₁:=(List.range (12-vs.length)).map (vs.length+·)) (r₂:=[]) (by simp);rw[append_nil]at h4;rw[h4];simp
 rw[← e];exact E
theorem RN (k:Nat)(E:Fr a n l)(I:U W w L)[r:Rn k n jH [] L l X b c l' Y](h:∀ a,Fr a n l'→Y a w)(hb:b=true:=by kernel_rfl)(hc:c:=by (repeat' refine And.intro ?_ ?_) <;> first | exact True.intro | omega | exact (rfl:_=_) | decide):X a w:=r.rn hb hc E I kA h
theorem RH (k:Nat)(E:Fr a n l)(I:U W w L)(hH:Hd C L0)(hC:C w)[r:Rn k n C L0 L l X b c l' Y](h:∀ a,Fr a n l'→Y a w)(hb:b=true:=by kernel_rfl)(hc:c:=by (repeat' refine And.intro ?_ ?_) <;> first | exact True.intro | omega | exact (rfl:_=_) | decide):X a w:=r.rn hb hc E I ⟨hH,hC⟩ h
theorem RT (k:Nat)(E:Fr a n l)(I:U W w L)[r:Rn k n jH [] L l X b c l' (rQ R v)](h:R (.returned v) w)(hb:b=true:=by kernel_rfl)(hc:c:=by (repeat' refine And.intro ?_ ?_) <;> first | exact True.intro | omega | exact (rfl:_=_) | decide):X a w:=r.rn hb hc E I kA λ_ _=>h
theorem IF (k:Nat)(E:Fr a n l)(I:U W w L)[r:Rn k n jH [] L l X b c l1 ((Code.cond (.tmp t) x y).wp P Q)][g1:fj l1 t (.bool b2)][mH:gP l1 t l2][qz:BP b2 p q]
   (ht:p→∀ a,Fr a n ((t,.bool true)::l2)→x.wp P Q a w) (hf:q→∀ a,Fr a n ((t,.bool false)::l2)→y.wp P Q a w) (hb:b=true:=by kernel_rfl) (hc:c:=by (repeat' refine And.intro ?_ ?_) <;> first | exact True.intro | omega | exact (rfl:_=_) | decide):X a w :=
 r.rn hb hc E I kA λa E=>E.by (s:=t) (λh E=>G0 E (ht h _ E)) (λh E=>G1 E (hf h _ E))
theorem Qq (k:Nat)(E:Fr a n l)(I:U W w L)[r:Rn k n jH [] L l X b c l1 ((Code.cond (.tmp t) x y).wp P Q)][g1:fj l1 t (.bool b2)][mH:gP l1 t l2]
   (ht:b2=true→∀ a,Fr a n ((t,.bool true)::l2)→x.wp P Q a w) (hf:b2=false→∀ a,Fr a n ((t,.bool false)::l2)→y.wp P Q a w) (hb:b=true:=by kernel_rfl) (hc:c:=by (repeat' refine And.intro ?_ ?_) <;> first | exact True.intro | omega | exact (rfl:_=_) | decide):X a w :=
 r.rn hb hc E I kA λa E=>E.bool (s:=t) (λh E=>G0 E (ht h _ E)) (λh E=>G1 E (hf h _ E))
theorem BY (k:Nat)(E:Fr a n l)(I:U W w L)[r:Rn k n jH [] L l X b c l1 (cH P os.toArray Q ⟨dst,op,ty,ps,af,some (j,bp)⟩ K)][d1:ts os j t][g1:fj l1 t (.bool b2)][mH:gP l1 t l2][qz:BP b2 p q]
   (ht:p→∀ a,Fr a n ((t,.bool true)::l2)→cH P os.toArray Q ⟨dst,op,ty,ps,af,some (j,bp)⟩ K a w) (hf:q→∀ a,Fr a n ((t,.bool false)::l2)→cH P os.toArray Q ⟨dst,op,ty,ps,af,some (j,bp)⟩ K a w)
   (hb:b=true:=by kernel_rfl) (hc:c:=by (repeat' refine And.intro ?_ ?_) <;> first | exact True.intro | omega | exact (rfl:_=_) | decide):X a w :=
 r.rn hb hc E I kA λa E=>E.by (s:=t) (λh E=>ht h _ E) (λh E=>hf h _ E)
theorem wY (E:Fr a n l)[e:Gd os l g true][ev:nR P l ce args f vs][vf:rR n l dst bp F]{X:Ending→World→Prop}(hc:Calls P f vs.toArray w X)(Qr:bp=true)(hf:g4 P f=true)
   (h:∀ e V,X e V→∃ v,e=.returned v∧∀ a',Fr a' n (F v)→K a' V):cH P os.toArray Q ⟨dst,.call ⟨ce,args.toArray,oU⟩,ty,ps,af,g⟩ K a w :=
 GV (e.h E) (ev.h hf E) hc λe V hx=>let ⟨v,he,hv⟩:=h e V hx;⟨v,he,hv _ (vf.h Qr E)⟩
section
variable {α β γ:Type}{S0:World→Prop}{S1:α→World→Prop}{S2:α→β→World→Prop}{S3:α→β→γ→World→Prop}{v1:α→Value}{HD:α→β→Value}{HE:α→β→γ→Value}
theorem CL (k:Nat)(E:Fr a n l)(I:U W w L)[r:Rn k n jH [] L l X b c l1 (cH P os.toArray Q ⟨dst,.call ⟨ce,args.toArray,oU⟩,ty,ps,af,g⟩ K)][e:Gd os l1 g true][ev:nR P l1 ce args f vs][vf:rR n l1 dst bp F]
   (hq:Calls P f vs.toArray w λr V=>r=.returned v∧S0 V) (h:∀ a w,Fr a n (F v)→S0 w→K a w) (hb:(b&&bp)=true:=by kernel_rfl) (hf:g4 P f=true:=by kernel_rfl) (hc:c:=by (repeat' refine And.intro ?_ ?_) <;> first | exact True.intro | omega | exact (rfl:_=_) | decide):X a w:=by
 simp only[fB]at hb;exact r.rn hb.1 hc E I kA λa E=>wY E hq hb.2 hf λe V ⟨h1,h2⟩=>⟨_,h1,λa E=>h a V E h2⟩
theorem bg (k:Nat)(E:Fr a n l)(I:U W w L)[r:Rn k n jH [] L l X b c l1 (cH P os.toArray Q ⟨dst,.call ⟨ce,args.toArray,oU⟩,ty,ps,af,g⟩ K)][e:Gd os l1 g true][ev:nR P l1 ce args f vs][vf:rR n l1 dst bp F]
   (hq:Calls P f vs.toArray w λr V=>∃ x,r=.returned (v1 x)∧S1 x V) (h:∀ x a w,Fr a n (F (v1 x))→S1 x w→K a w) (hb:(b&&bp)=true:=by kernel_rfl) (hf:g4 P f=true:=by kernel_rfl) (hc:c:=by (repeat' refine And.intro ?_ ?_) <;> first | exact True.intro | omega | exact (rfl:_=_) | decide):X a w:=by
 simp only[fB]at hb;exact r.rn hb.1 hc E I kA λa E=>wY E hq hb.2 hf λe V ⟨x,h1,h2⟩=>⟨_,h1,λa E=>h x a V E h2⟩
theorem aY (k:Nat)(E:Fr a n l)(I:U W w L)[r:Rn k n jH [] L l X b c l1 (cH P os.toArray Q ⟨dst,.call ⟨ce,args.toArray,oU⟩,ty,ps,af,g⟩ K)][e:Gd os l1 g true][ev:nR P l1 ce args f vs][vf:rR n l1 dst bp F]
   (hq:Calls P f vs.toArray w λr V=>∃ x y,r=.returned (HD x y)∧S2 x y V) (h:∀ x y a w,Fr a n (F (HD x y))→S2 x y w→K a w) (hb:(b&&bp)=true:=by kernel_rfl) (hf:g4 P f=true:=by kernel_rfl) (hc:c:=by (repeat' refine And.intro ?_ ?_) <;> first | exact True.intro | omega | exact (rfl:_=_) | decide):X a w:=by
 simp only[fB]at hb;exact r.rn hb.1 hc E I kA λa E=>wY E hq hb.2 hf λe V ⟨x,y,h1,h2⟩=>⟨_,h1,λa E=>h x y a V E h2⟩
theorem jI (k:Nat)(E:Fr a n l)(I:U W w L)[r:Rn k n jH [] L l X b c l1 (cH P os.toArray Q ⟨dst,.call ⟨ce,args.toArray,oU⟩,ty,ps,af,g⟩ K)][e:Gd os l1 g true][ev:nR P l1 ce args f vs][vf:rR n l1 dst bp F]
   (hq:Calls P f vs.toArray w λr V=>∃ x y z,r=.returned (HE x y z)∧S3 x y z V) (h:∀ x y z a w,Fr a n (F (HE x y z))→S3 x y z w→K a w) (hb:(b&&bp)=true:=by kernel_rfl) (hf:g4 P f=true:=by kernel_rfl) (hc:c:=by (repeat' refine And.intro ?_ ?_) <;> first | exact True.intro | omega | exact (rfl:_=_) | decide):X a w:=by
 simp only[fB]at hb;exact r.rn hb.1 hc E I kA λa E=>wY E hq hb.2 hf λe V ⟨x,y,z,h1,h2⟩=>⟨_,h1,λa E=>h x y z a V E h2⟩
end
theorem jJ (k:Nat)(E:Fr a n l)(I:U W w L)[r:Rn k n jH [] L l X b c l1 (cH P os.toArray Q ⟨dst,.call ⟨ce,args.toArray,oU⟩,ty,ps,af,g⟩ K)][e:Gd os l1 g true][ev:nR P l1 ce args f vs][vf:rR n l1 dst bp F]{Z:Ending→World→Prop}
   (hq:Calls P f vs.toArray w Z) (h:∀ e w,Z e w→∃ v,e=.returned v∧∀ a,Fr a n (F v)→K a w) (hb:(b&&bp)=true:=by kernel_rfl) (hf:g4 P f=true:=by kernel_rfl) (hc:c:=by (repeat' refine And.intro ?_ ?_) <;> first | exact True.intro | omega | exact (rfl:_=_) | decide):X a w:=by
 simp only[fB]at hb;exact r.rn hb.1 hc E I kA λa E=>wY E hq hb.2 hf h
variable {cs lP:List Value}{y5:TypeId}{S:List SP}
theorem ST (k:Nat)(E:Fr a n l)(I:U W w L)[r:Rn k n jH [] L l X b c l1 (cH P os.toArray Q ⟨none,.store t xo y4,ty,ps,af,g⟩ K)][qE:Gd os l1 g true][ev:Ev l1 xo (.pointer (some ⟨bb,off,none⟩))][tj:Ev l1 y4 v][hi:TI P t zv 1 aX][pP:Cells v [v]][o1:One v]
   [B0:fC L bb y5 cs S] [sc:pN cs off v lP] (h:∀ a w,Fr a n l1→U W w (aa bb y5 lP::S)→K a w) (hb:b=true:=by kernel_rfl) (hc:c:=by (repeat' refine And.intro ?_ ?_) <;> first | exact True.intro | omega | exact (rfl:_=_) | decide) (hlt:off<cs.length:=by first | exact Nat.adQ rfl | omega | simp):X a w :=
 r.rn hb hc E I kA λa E=>GS E (qE.h E) I hi o1.h hlt h
theorem SA (k:Nat)(E:Fr a n l)(I:U W w L)[r:Rn k n jH [] L l X b c l1 (cH P os.toArray Q ⟨none,.store t xo y4,ty,ps,af,g⟩ K)][qE:Gd os l1 g true][ev:Ev l1 xo (.pointer (some ⟨bb,0,none⟩))][tj:Ev l1 y4 v][hi:TI P t zv m aX][pP:Cells v vs][le:lU vs m][o1:rS vs]
   [B0:fC L bb y5 cs S] [Qs:lU cs m] (h:∀ a w,Fr a n l1→U W w (aa bb y5 vs::S)→K a w) (hb:b=true:=by kernel_rfl) (hc:c:=by (repeat' refine And.intro ?_ ?_) <;> first | exact True.intro | omega | exact (rfl:_=_) | decide):X a w :=
 r.rn hb hc E I kA λa E=>OQ E (qE.h E) I (by rw[le.h];exact hi) o1.h (by rw[le.h,Qs.h]) h
theorem AL (k:Nat)(E:Fr a n l)(I:U W w L)[r:Rn k n jH [] L l X b c l1 (cH P os.toArray Q ⟨some d,.alloc t,ty,ps,af,g⟩ K)][qE:Gd os l1 g true][hi:TI P t zv m aX][pP:Cells zv vs][q:gP l1 d l2]
   (h:∀ b a V,Fr a n ((d,.pointer (some ⟨b,0,none⟩))::l2)→U W V (aa b t vs::L)→K a V) (hb:(b&&okB d n l2)=true:=by kernel_rfl) (hc:c:=by (repeat' refine And.intro ?_ ?_) <;> first | exact True.intro | omega | exact (rfl:_=_) | decide):X a w:=by
 rw[fB]at hb;exact r.rn hb.1 hc E I kA λa E=>eR (E.del d) (qE.h E) I hi hb.2 λb a w E I _=>h b a w E I
theorem BX (k:Nat)(E:Fr a n l)(I:U W w L)[r:Rn k n jH [] L l X b c l1 (cH P os.toArray Q ⟨some d,.box t xo,ty,ps,af,g⟩ K)][qE:Gd os l1 g true][ev:Ev l1 xo v][pP:Cells v vs][q:gP l1 d l2]
   (h:∀ b a V,Fr a n ((d,.pointer (some ⟨b,0,none⟩))::l2)→U W V (aa b t vs::L)→K a V) (hb:(b&&okB d n l2)=true:=by kernel_rfl) (hc:c:=by (repeat' refine And.intro ?_ ?_) <;> first | exact True.intro | omega | exact (rfl:_=_) | decide):X a w:=by
 rw[fB]at hb;refine r.rn hb.1 hc E I kA λa E=>?_;have:=ev.ev a n E;refine bE (v:=.pointer (some ⟨w.heap.size,0,none⟩)) (V:=w.alloc (.cells vs.toArray t)) (E.del d) (qE.h E) ?_ hb.2 (λa' dc=>h _ _ _ dc (I.alloc _));simp[execOp,Instr.box,this,newVar,newRow,newObj,Sem.run,pP.h,Sem.run_bind]
theorem SX (k:Nat)(E:Fr a n l)(I:U W w L)[r:Rn k n jH [] L l X b c l1 (cH P os.toArray Q ⟨some d,op,ty,ps,af,g⟩ K)][qE:Gd os l1 g true][s:Sx P L l1 op dK v][q:gP l1 d l2](h1:dK)
   (h:∀ a,Fr a n ((d,v)::l2)→K a w) (hb:(b&&okB d n l2)=true:=by kernel_rfl) (hc:c:=by (repeat' refine And.intro ?_ ?_) <;> first | exact True.intro | omega | exact (rfl:_=_) | decide):X a w:=by
 rw[fB]at hb;exact r.rn hb.1 hc E I kA λa E=>bE (E.del d) (qE.h E) (s.ex h1 E (Lk.of I)) hb.2 h
theorem QP [p:nQ os i ⟨some d,op,ty,ps,af,g⟩][pk:mK Q][e:Gd os l g true][q:gP l d l1](E:Fr a n l)(hr:∀ w,(execOp a.eval ⟨some d,op,ty,ps,af,g⟩).run P w=.ok (.value v) w)
   (h:∀ a,Fr a n ((d,v)::l1)→gu P os.toArray Q C2 bk od fuel (lW m i) a w) (hb:(mF os.toArray (lb os.toArray.size m) bk true i&&!bk.contains i&&okB d n l1)=true:=by kernel_rfl):gu P os.toArray Q C2 bk (i::od) (fuel+1) m a w:=by
 simp only[fB,Bool.not_eq_true']at hb;exact Hi (pW _ _ _) (by rw[getElem?_toArray];exact p.h) hb.1.1 hb.1.2 pk.h (E.del d) (e.h E) hr hb.2 h
theorem QH [p:nQ os i ⟨some d,op,ty,ps,af,g⟩][pk:mK Q][e:Gd os l g true][q:gP l d l1](E:Fr a n l)(hr:∀ w,C2 w→(execOp a.eval ⟨some d,op,ty,ps,af,g⟩).run P w=.ok (.value v) w)(hC:C2 w)
   (h:∀ a,Fr a n ((d,v)::l1)→gu P os.toArray Q C2 bk od fuel (lW m i) a w) (hb:(mF os.toArray (lb os.toArray.size m) bk false i&&okB d n l1)=true:=by kernel_rfl):gu P os.toArray Q C2 bk ((i+3000)::od) (fuel+1) m a w:=by
 simp only[fB]at hb;exact Hj (pW _ _ _) (by rw[getElem?_toArray];exact p.h) hb.1 pk.h (E.del d) (e.h E) hr hC hb.2 h
theorem aZ (k:Nat)(C:World→World→Prop)(bk od:List Nat)(E:Fr a n l)(I:U W w L)[r:Rn k n jH [] L l X b c l1 ((Code.region i os.toArray true).wp P Q)][pk:mK Q][wZ:y3 P]
   (h:∀ a w,Fr a n l1→U W w L→Hd (C w) []→gu P os.toArray Q (C w) bk od os.length 0 a w) (hb:b=true:=by kernel_rfl) (hc:c:=by (repeat' refine And.intro ?_ ?_) <;> first | exact True.intro | omega | exact (rfl:_=_) | decide):X a w :=
 r.rn hb hc E I kA λa E=>Go.Proofs.YteoldcfapaiobaaGreat.DW (C w.drew) bk od wZ.h pk.h (λ_=>h a _ E I.drew (Hd.any _)) List.size_toArray
theorem qF (k:Nat)(C:World→Prop)(bk od:List Nat)(E:Fr a n l)(I:U W w L)[r:Rn k n jH [] L l X b c l1 ((Code.region i os.toArray true).wp P Q)][pk:mK Q][wZ:y3 P]
   (h:∀ a,Fr a n l1→gu P os.toArray Q C bk od os.length 0 a w.drew) (hb:b=true:=by kernel_rfl) (hc:c:=by (repeat' refine And.intro ?_ ?_) <;> first | exact True.intro | omega | exact (rfl:_=_) | decide):X a w :=
 r.rn hb hc E I kA λa E=>Go.Proofs.YteoldcfapaiobaaGreat.DW C bk od wZ.h pk.h (λ_=>h a E) List.size_toArray
theorem bQ (k:Nat)(bk od:List Nat)(E:Fr a n l)(I:U W w L)[r:Rn k n jH [] L l X b c l1 ((Code.region i os.toArray true).wp P Q)][pk:mK Q][wZ:y3 P]
   (h:∀ a w,Fr a n l1→U W w L→Hd (Old w) L→Old w w→gu P os.toArray Q (Old w) bk od os.length 0 a w) (hb:b=true:=by kernel_rfl) (hc:c:=by (repeat' refine And.intro ?_ ?_) <;> first | exact True.intro | omega | exact (rfl:_=_) | decide):X a w :=
 r.rn hb hc E I kA λa E=>Go.Proofs.YteoldcfapaiobaaGreat.DW (Old w.drew) bk od wZ.h pk.h (λ_=>h a _ E I.drew (Hd.gf I.drew) (Old.refl _)) List.size_toArray
end
section
variable {P:Program}{ops:Array Oper}{Q:Exit→Act→World→Prop}{C:World→Prop}{bk:List Nat}{fuel m:Nat}{a:Act}{w:World}
def w1 (P:Program)(ops:Array Oper)(Q:Exit→Act→World→Prop)(C:World→Prop)(bk:List Nat)(fuel m:Nat)(a:Act)(w:World):List (Nat×List Nat)→Prop
 | []=>True
 | (i,od)::r=>(∃ o,ops[i]?=some o∧cH P ops Q o (CN (bk.contains i) C (gu P ops Q C bk od fuel (lW m i))) a w)∧w1 P ops Q C bk fuel m a w r
theorem w1.get:∀ {l:List (Nat×List Nat)} {i:Nat},w1 P ops Q C bk fuel m a w l→i∈l.map (·.1)→∃ (o:Oper) (od:List Nat),ops[i]?=some o∧cH P ops Q o (CN (bk.contains i) C (gu P ops Q C bk od fuel (lW m i))) a w
 | [],_,_,h=>by simp at h
 | (j,od)::r,i,⟨⟨o,h1,h2⟩,h3⟩,h=>by
  rw[map_cons]at h;rcases List.mem_cons.1 h with rfl | h
  ·exact⟨o,od,h1,h2⟩
  ·exact w1.get h3 h
theorem DN {od:List Nat}(l:List (Nat×List Nat))(hr:Region.ready .any ops (lb ops.size m)=l.map (·.1))(bN:l.isEmpty=false)(h:w1 P ops Q C bk fuel m a w l):gu P ops Q C bk od (fuel+1) m a w:=by
 refine⟨λh0=>?_,λj hj=>?_⟩
 ·rw[hr]at h0;cases l with
  | nil=>cases bN
  | cons x r=>cases h0
 ·rw[hr]at hj;obtain⟨o,od,h1,h2⟩:=h.get hj;simp only[wpOp,h1,pW];exact h2
end
end
section
abbrev pt (b:Nat):Value:=.pointer (some ⟨b,0,none⟩)
theorem Hd.at {C:World→Prop}{L:List SP}(_:Hd C L)(w:World)(h:C w):C w:=h
theorem ag {P:Program}{a:Act}{w:World}{n:Nat}{l:List (Nat × Value)}{x ad t v dst ty ps af g}(E:Fr a n l)(hc:w.cell? ad=some v)[u:B3 P t][ev:Ev l x (.pointer (some ad))]:(execOp a.eval ⟨dst,.load t x,ty,ps,af,g⟩).run P w=.ok (.value v) w:=by
 obtain ⟨ee,h1,h2⟩:=u.h;exact GQ E h1 h2 hc
theorem SS {P:Program}{ops:Array Oper}{Q:Exit→Act→World→Prop}{a:Act}{w:World}{K:Act→World→Prop}{n d:Nat}{l:List (Nat × Value)}{v:Value}{op ty ps af g}(E:Fr a n l)(hr:(execOp a.eval ⟨some d,op,ty,ps,af,g⟩).run P w=.ok (.value v) w)(h:∀ a',Fr a' n ((d,v)::l)→K a' w)(hw:Region.wanted ⟨some d,op,ty,ps,af,g⟩ (yielded ops a.tmps)=true:=by rfl)(hf:okB d n l=true:=by rfl):cH P ops Q ⟨some d,op,ty,ps,af,g⟩ K a w:=bE E hw hr hf h
end
section
instance Ty.t2:TI prog 2 (.int .i64 0) 1 8:=TI.of (by kernel_rfl)
instance Ty.t3:TI prog 3 (.int .i64 0) 1 8:=TI.of (by kernel_rfl)
instance Ty.t4:TI prog 4 (.bool false) 1 1:=TI.of (by kernel_rfl)
instance Ty.t5:TI prog 5 (.int .u8 0) 1 1:=TI.of (by kernel_rfl)
instance Ty.t9:TI prog 9 (.string ⟨#[]⟩) 1 16:=TI.of (by kernel_rfl)
instance Ty.t21:TI prog 21 (.int .i32 0) 1 4:=TI.of (by kernel_rfl)
instance Ty.t22:TI prog 22 (.slice none 0 0) 1 24:=TI.of (by kernel_rfl)
instance Ty.t28:TI prog 28 (.agg #[.int .i64 0,.int .i64 0,.int .i64 0,.int .i64 0,.int .i64 0,.int .i64 0,.int .i64 0,.int .i64 0,.int .i64 0,.int .i64 0]) 10 80:=TI.of (by kernel_rfl)
instance Ty.t34:TI prog 34 (.pointer none) 1 8:=TI.of (by kernel_rfl)
instance Ty.t35:TI prog 35 (.pointer none) 1 8:=TI.of (by kernel_rfl)
instance Ty.t36:TI prog 36 (.slice none 0 0) 1 24:=TI.of (by kernel_rfl)
instance Ty.t37:TI prog 37 (.slice none 0 0) 1 24:=TI.of (by kernel_rfl)
instance Ty.t38:TI prog 38 (.slice none 0 0) 1 24:=TI.of (by kernel_rfl)
instance Ty.t40:TI prog 40 (.agg #[.pointer none,.slice none 0 0,.slice none 0 0,.slice none 0 0]) 4 80:=TI.of (by kernel_rfl)
instance Ty.t42:TI prog 42 (.pointer none) 1 8:=TI.of (by kernel_rfl)
instance Ty.t43:TI prog 43 (.slice none 0 0) 1 24:=TI.of (by kernel_rfl)
instance Ty.t45:TI prog 45 (.agg #[.string ⟨#[]⟩,.slice none 0 0]) 2 40:=TI.of (by kernel_rfl)
instance Ty.t47:TI prog 47 (.agg #[.int .i64 0,.int .i64 0,.slice none 0 0]) 3 40:=TI.of (by kernel_rfl)
instance Ty.t49:TI prog 49 (.agg #[.int .i32 0,.int .i32 0,.int .i32 0,.int .i32 0,.int .i32 0,.int .i32 0,.int .i32 0,.int .i32 0,.int .i32 0,.int .i32 0,.int .i32 0,.int .i32 0,.int .i32 0,.int .i32 0,.int .i32 0,.int .i32 0,.int .i32 0,.int .i32 0,.int .i32 0,.int .i32 0,.int .i32 0,.int .i32 0,.int .i32 0,.int .i32 0,.int .i32 0,.int .i32 0,.int .i32 0,.int .i32 0,.int .i32 0,.int .i32 0,.int .i32 0,.int .i32 0]) 32 128:=TI.of (by kernel_rfl)
instance Ty.t51:TI prog 51 (.agg ((.pointer none::.string ⟨#[]⟩::.slice none 0 0::.int .i64 0::.int .i64 0::.slice none 0 0::.int .i32 0::.int .i32 0::.int .i32 0::.int .i32 0::.int .i32 0::.int .i32 0::.int .i32 0::.int .i32 0::.int .i32 0::.int .i32 0::.int .i32 0::.int .i32 0::.int .i32 0::.int .i32 0::.int .i32 0::.int .i32 0::.int .i32 0::.int .i32 0::.int .i32 0::.int .i32 0::.int .i32 0::.int .i32 0::.int .i32 0::.int .i32 0::.int .i32 0::.int .i32 0::.int .i32 0::.int .i32 0::.int .i32 0::.int .i32 0::.int .i32 0::.int .i32 0::[]):List Value).toArray) 38 216:=TI.of (by kernel_rfl)
instance Ty.t53:TI prog 53 (.slice none 0 0) 1 24:=TI.of (by kernel_rfl)
instance Ty.t58:TI prog 58 (.agg #[.int .i64 0,.int .i64 0,.int .i64 0,.int .i64 0]) 4 32:=TI.of (by kernel_rfl)
instance Ty.t60:TI prog 60 (.agg #[.int .i64 0,.int .i64 0,.slice none 0 0]) 3 40:=TI.of (by kernel_rfl)
instance Ty.t62:TI prog 62 (.pointer none) 1 8:=TI.of (by kernel_rfl)
instance Ty.t65:TI prog 65 (.agg #[.slice none 0 0]) 1 24:=TI.of (by kernel_rfl)
instance Ty.t66:TI prog 66 (.slice none 0 0) 1 24:=TI.of (by kernel_rfl)
instance Ty.t67:TI prog 67 (.slice none 0 0) 1 24:=TI.of (by kernel_rfl)
instance Ty.t68:TI prog 68 (.slice none 0 0) 1 24:=TI.of (by kernel_rfl)
instance Ty.t69:TI prog 69 (.slice none 0 0) 1 24:=TI.of (by kernel_rfl)
instance Ty.t70:TI prog 70 (.slice none 0 0) 1 24:=TI.of (by kernel_rfl)
instance Ty.t72:TI prog 72 (.agg #[.int .i64 0,.int .i64 0,.int .i64 0,.int .i64 0,.int .i64 0,.int .i64 0,.int .i64 0,.int .i64 0,.int .i64 0,.int .i64 0,.slice none 0 0,.int .i64 0,.slice none 0 0,.slice none 0 0,.slice none 0 0,.slice none 0 0,.slice none 0 0,.slice none 0 0,.bool false]) 19 264:=TI.of (by kernel_rfl)
instance Ty.t81:TI prog 81 (.nilIface) 1 16:=TI.of (by kernel_rfl)
instance Ty.t90:TI prog 90 (.slice none 0 0) 1 24:=TI.of (by kernel_rfl)
instance Ty.t100:TI prog 100 (.int .u32 0) 1 4:=TI.of (by kernel_rfl)
instance Ty.t102:TI prog 102 (.agg #[.int .i64 0,.int .i64 0,.int .i64 0]) 3 24:=TI.of (by kernel_rfl)
instance Ty.t104:TI prog 104 (.slice none 0 0) 1 24:=TI.of (by kernel_rfl)
instance Ty.t105:TI prog 105 (.slice none 0 0) 1 24:=TI.of (by kernel_rfl)
instance Ty.t107:TI prog 107 (.agg #[.slice none 0 0,.pointer none,.slice none 0 0]) 3 56:=TI.of (by kernel_rfl)
instance Ty.t108:TI prog 108 (.slice none 0 0) 1 24:=TI.of (by kernel_rfl)
instance Ty.t110:TI prog 110 (.agg #[.slice none 0 0]) 1 24:=TI.of (by kernel_rfl)
instance Ty.t114:TI prog 114 (.agg #[.int .i64 0,.int .i64 0,.int .i64 0,.int .i64 0]) 4 32:=TI.of (by kernel_rfl)
instance Ty.t124:TI prog 124 (.agg #[.int .i64 0,.int .i64 0,.slice none 0 0]) 3 40:=TI.of (by kernel_rfl)
instance Ty.t133:TI prog 133 (.nilIface) 1 16:=TI.of (by kernel_rfl)
instance Ty.t135:TI prog 135 (.agg #[.nilIface]) 1 16:=TI.of (by kernel_rfl)
instance Ty.t139:TI prog 139 (.pointer none) 1 8:=TI.of (by kernel_rfl)
instance Ty.t158:TI prog 158 (.pointer none) 1 8:=TI.of (by kernel_rfl)
instance Ty.t162:TI prog 162 (.pointer none) 1 8:=TI.of (by kernel_rfl)
instance Ty.t164:TI prog 164 (.agg (List.replicate 201 (.int .i64 0)).toArray) 201 1608:=TI.of (by kernel_rfl)
instance Ty.t166:TI prog 166 (.int .i64 0) 1 8:=TI.of (by kernel_rfl)
instance Ty.t168:TI prog 168 (.slice none 0 0) 1 24:=TI.of (by kernel_rfl)
instance Ty.t169:TI prog 169 (.pointer none) 1 8:=TI.of (by kernel_rfl)
instance Ty.t173:TI prog 173 (.pointer none) 1 8:=TI.of (by kernel_rfl)
instance Ty.t175:TI prog 175 (.slice none 0 0) 1 24:=TI.of (by kernel_rfl)
instance Ty.t177:TI prog 177 (.agg #[.pointer none,.string ⟨#[]⟩,.slice none 0 0,.pointer none,.pointer none,.pointer none,.slice none 0 0,.int .i64 0,.int .i64 0]) 9 112:=TI.of (by kernel_rfl)
instance Ty.t179:TI prog 179 (.pointer none) 1 8:=TI.of (by kernel_rfl)
instance Ty.t183:TI prog 183 (.agg #[.int .i32 0,.int .i32 0,.int .i32 0,.int .i32 0,.int .i32 0,.int .i32 0,.int .i32 0,.int .i32 0,.int .i32 0,.int .i32 0,.int .i32 0,.int .i32 0,.int .i32 0,.int .i32 0,.int .i32 0,.int .i32 0,.int .i32 0,.int .i32 0,.int .i32 0,.int .i32 0,.int .i32 0,.int .i32 0,.int .i32 0,.int .i32 0,.int .i32 0,.int .i32 0,.int .i32 0,.int .i32 0,.int .i32 0,.int .i32 0,.int .i32 0,.int .i32 0]) 32 128:=TI.of (by kernel_rfl)
instance Ty.t186:TI prog 186 (.agg #[.int .i64 0,.int .i64 0,.slice none 0 0]) 3 40:=TI.of (by kernel_rfl)
instance Ty.t187:TI prog 187 (.pointer none) 1 8:=TI.of (by kernel_rfl)
instance Ty.t192:TI prog 192 (.agg ((.pointer none::.string ⟨#[]⟩::.slice none 0 0::.int .i64 0::.int .i64 0::.slice none 0 0::.int .i32 0::.int .i32 0::.int .i32 0::.int .i32 0::.int .i32 0::.int .i32 0::.int .i32 0::.int .i32 0::.int .i32 0::.int .i32 0::.int .i32 0::.int .i32 0::.int .i32 0::.int .i32 0::.int .i32 0::.int .i32 0::.int .i32 0::.int .i32 0::.int .i32 0::.int .i32 0::.int .i32 0::.int .i32 0::.int .i32 0::.int .i32 0::.int .i32 0::.int .i32 0::.int .i32 0::.int .i32 0::.int .i32 0::.int .i32 0::.int .i32 0::.int .i32 0::[]):List Value).toArray) 38 216:=TI.of (by kernel_rfl)
instance Ty.t203:TI prog 203 (.agg #[.int .i64 0,.int .i64 0,.int .i64 0,.int .i64 0,.int .i64 0,.slice none 0 0,.int .i64 0,.int .i64 0,.int .u32 0]) 9 88:=TI.of (by kernel_rfl)
instance Ty.t207:TI prog 207 (.slice none 0 0) 1 24:=TI.of (by kernel_rfl)
instance Ty.t210:TI prog 210 (.agg #[.int .i64 0]) 1 8:=TI.of (by kernel_rfl)
instance Ty.t211:TI prog 211 (.agg #[.int .i64 0]) 1 8:=TI.of (by kernel_rfl)
instance Ty.t213:TI prog 213 (.agg #[.int .i64 0,.int .i64 0]) 2 16:=TI.of (by kernel_rfl)
instance Ty.t218:TI prog 218 (.map none) 1 8:=TI.of (by kernel_rfl)
instance Ty.t219:TI prog 219 (.pointer none) 1 8:=TI.of (by kernel_rfl)
instance Ty.t221:TI prog 221 (.agg #[.pointer none,.map none,.int .i64 0]) 3 24:=TI.of (by kernel_rfl)
instance Ty.t222:TI prog 222 (.slice none 0 0) 1 24:=TI.of (by kernel_rfl)
instance Ty.t224:TI prog 224 (.agg #[.slice none 0 0]) 1 24:=TI.of (by kernel_rfl)
instance Ty.t225:TI prog 225 (.agg #[.int .i32 0,.int .i32 0,.int .i32 0,.int .i32 0,.int .i32 0,.int .i32 0,.int .i32 0,.int .i32 0]) 8 32:=TI.of (by kernel_rfl)
instance Ty.t227:TI prog 227 (.agg #[.int .i32 0,.int .i32 0,.int .i32 0,.int .i32 0,.int .i32 0,.int .i32 0,.int .i32 0,.int .i32 0,.int .i64 0]) 9 40:=TI.of (by kernel_rfl)
instance Ty.t230:TI prog 230 (.agg #[.int .i64 0,.int .i64 0,.int .i64 0,.int .i64 0]) 4 32:=TI.of (by kernel_rfl)
instance Ty.t232:TI prog 232 (.agg #[.int .i64 0,.int .i64 0,.int .i64 0,.int .i64 0,.int .i64 0]) 5 40:=TI.of (by kernel_rfl)
instance Ty.t236:TI prog 236 (.agg #[.pointer none,.int .i64 0,.slice none 0 0,.int .i64 0,.int .i64 0]) 5 56:=TI.of (by kernel_rfl)
instance Ty.t238:TI prog 238 (.agg #[.int .i64 0,.int .i64 0,.slice none 0 0,.int .i64 0,.int .i64 0]) 5 56:=TI.of (by kernel_rfl)
instance Ty.t241:TI prog 241 (.slice none 0 0) 1 24:=TI.of (by kernel_rfl)
instance Ty.t243:TI prog 243 (.agg #[.slice none 0 0]) 1 24:=TI.of (by kernel_rfl)
instance Ty.t245:TI prog 245 (.agg #[.int .i64 0,.int .i64 0]) 2 16:=TI.of (by kernel_rfl)
instance Ty.t247:TI prog 247 (.agg #[.string ⟨#[]⟩,.slice none 0 0,.pointer none,.pointer none,.pointer none,.bool false,.int .i64 0,.int .i64 0,.int .i64 0,.int .i64 0,.bool false]) 11 112:=TI.of (by kernel_rfl)
instance Ty.t253:TI prog 253 (.pointer none) 1 8:=TI.of (by kernel_rfl)
instance Ty.t255:TI prog 255 (.slice none 0 0) 1 24:=TI.of (by kernel_rfl)
instance Ty.t257:TI prog 257 (.agg #[.int .i64 0,.int .i64 0,.int .i64 0,.int .i64 0,.int .i64 0,.int .i64 0,.int .i64 0,.int .i64 0,.int .i64 0,.int .i64 0,.pointer none,.slice none 0 0,.slice none 0 0,.slice none 0 0,.int .i64 0,.bool false]) 16 176:=TI.of (by kernel_rfl)
instance Ty.t259:TI prog 259 (.agg #[.int .i64 0,.int .i64 0,.int .i64 0,.int .u32 0,.bool false]) 5 32:=TI.of (by kernel_rfl)
instance Ty.t286:TI prog 286 (.slice none 0 0) 1 24:=TI.of (by kernel_rfl)
instance Ty.t288:TI prog 288 (.agg #[.slice none 0 0]) 1 24:=TI.of (by kernel_rfl)
instance Ty.t289:TI prog 289 (.pointer none) 1 8:=TI.of (by kernel_rfl)
instance Ty.t296:TI prog 296 (.agg ((.int .i32 0::.int .i32 0::.int .i32 0::.int .i32 0::.int .i32 0::.int .i32 0::.int .i32 0::.int .i32 0::.int .i32 0::.int .i32 0::.int .i32 0::.int .i32 0::.int .i32 0::.int .i32 0::.int .i32 0::.int .i32 0::.int .i32 0::.int .i32 0::.int .i32 0::.int .i32 0::.int .i32 0::.int .i32 0::.int .i32 0::.int .i32 0::.int .i32 0::.int .i32 0::.int .i32 0::.int .i32 0::.int .i32 0::.int .i32 0::.int .i32 0::.int .i32 0::[]):List Value).toArray) 32 128:=TI.of (by kernel_rfl)
instance Ty.t307:TI prog 307 (.agg #[.pointer none,.int .i64 0,.bool false]) 3 24:=TI.of (by kernel_rfl)
instance Ty.t313:TI prog 313 (.agg #[.int .i64 0,.int .u32 0]) 2 16:=TI.of (by kernel_rfl)
instance Ty.t320:TI prog 320 (.agg (List.replicate 256 (.int .i64 0)).toArray) 256 2048:=TI.of (by kernel_rfl)
instance Ty.t322:TI prog 322 (.agg (List.replicate 256 (.bool false)).toArray) 256 256:=TI.of (by kernel_rfl)
instance Ty.t328:TI prog 328 (.agg #[.slice none 0 0]) 1 24:=TI.of (by kernel_rfl)
instance Ty.t333:TI prog 333 (.nilIface) 1 16:=TI.of (by kernel_rfl)
instance Ty.t336:TI prog 336 (.agg #[.string ⟨#[]⟩,.slice none 0 0,.nilIface,.int .i64 0,.slice none 0 0,.int .i64 0]) 6 96:=TI.of (by kernel_rfl)
instance Ty.t345:TI prog 345 (.agg #[.int .i64 0,.int .i64 0,.int .i64 0,.int .i64 0]) 4 32:=TI.of (by kernel_rfl)
instance Ty.t423:TI prog 423 (.agg #[.int .u8 0,.int .u8 0]) 2 2:=TI.of (by kernel_rfl)
instance Ty.t427:TI prog 427 (.agg #[.slice none 0 0,.bool false]) 2 32:=TI.of (by kernel_rfl)
instance Ty.t429:TI prog 429 (.agg #[.int .i64 0,.int .i64 0,.int .i64 0]) 3 24:=TI.of (by kernel_rfl)
instance Ty.HF:eo prog 28 [(0,1),(1,1),(2,1),(3,1),(4,1),(5,1),(6,1),(7,1),(8,1),(9,1)]:=⟨_,underlying28,λw=>by kernel_rfl⟩
instance Ty.HG:eo prog 40 [(0,1),(1,1),(2,1),(3,1)]:=⟨_,underlying40,λw=>by kernel_rfl⟩
instance Ty.b45:eo prog 45 [(0,1),(1,1)]:=⟨_,underlying45,λw=>by kernel_rfl⟩
instance Ty.b47:eo prog 47 [(0,1),(1,1),(2,1)]:=⟨_,underlying47,λw=>by kernel_rfl⟩
instance Ty.Qt:eo prog 51 [(0,1),(1,2),(3,3),(6,32)]:=⟨_,underlying51,λw=>by kernel_rfl⟩
instance Ty.b58:eo prog 58 [(0,1),(1,1),(2,1),(3,1)]:=⟨_,underlying58,λw=>by kernel_rfl⟩
instance Ty.Qv:eo prog 60 [(0,1),(1,1),(2,1)]:=⟨_,underlying60,λw=>by kernel_rfl⟩
instance Ty.Qw:eo prog 65 [(0,1)]:=⟨_,underlying65,λw=>by kernel_rfl⟩
instance Ty.b72:eo prog 72 [(0,10),(10,1),(11,1),(12,1),(13,1),(14,1),(15,1),(16,1),(17,1),(18,1)]:=⟨_,underlying72,λw=>by kernel_rfl⟩
instance Ty.adR:eo prog 102 [(0,1),(1,1),(2,1)]:=⟨_,underlying102,λw=>by kernel_rfl⟩
instance Ty.adS:eo prog 107 [(0,1),(1,1),(2,1)]:=⟨_,underlying107,λw=>by kernel_rfl⟩
instance Ty.Qx:eo prog 110 [(0,1)]:=⟨_,underlying110,λw=>by kernel_rfl⟩
instance Ty.Qy:eo prog 114 [(0,1),(1,1),(2,1),(3,1)]:=⟨_,underlying114,λw=>by kernel_rfl⟩
instance Ty.adU:eo prog 124 [(0,1),(1,1),(2,1)]:=⟨_,underlying124,λw=>by kernel_rfl⟩
instance Ty.adV:eo prog 135 [(0,1)]:=⟨_,underlying135,λw=>by kernel_rfl⟩
instance Ty.adW:eo prog 177 [(0,1),(1,2),(3,1),(4,1),(5,1),(6,1),(7,1),(8,1)]:=⟨_,underlying177,λw=>by kernel_rfl⟩
instance Ty.adX:eo prog 186 [(0,1),(1,1),(2,1)]:=⟨_,underlying186,λw=>by kernel_rfl⟩
instance Ty.adY:eo prog 192 [(0,1),(1,2),(3,3),(6,32)]:=⟨_,underlying192,λw=>by kernel_rfl⟩
instance Ty.adZ:eo prog 203 [(0,1),(1,1),(2,1),(3,1),(4,1),(5,1),(6,1),(7,1),(8,1)]:=⟨_,underlying203,λw=>by kernel_rfl⟩
instance Ty.ad0:eo prog 210 [(0,1)]:=⟨_,underlying210,λw=>by kernel_rfl⟩
instance Ty.ad1:eo prog 211 [(0,1)]:=⟨_,underlying211,λw=>by kernel_rfl⟩
instance Ty.ad3:eo prog 213 [(0,1),(1,1)]:=⟨_,underlying213,λw=>by kernel_rfl⟩
instance Ty.ad4:eo prog 221 [(0,1),(1,1),(2,1)]:=⟨_,underlying221,λw=>by kernel_rfl⟩
instance Ty.ad5:eo prog 224 [(0,1)]:=⟨_,underlying224,λw=>by kernel_rfl⟩
instance Ty.ad6:eo prog 227 [(0,8),(8,1)]:=⟨_,underlying227,λw=>by kernel_rfl⟩
instance Ty.ad7:eo prog 236 [(0,1),(1,1),(2,1),(3,1),(4,1)]:=⟨_,underlying236,λw=>by kernel_rfl⟩
instance Ty.ad8:eo prog 238 [(0,1),(1,1),(2,1),(3,1),(4,1)]:=⟨_,underlying238,λw=>by kernel_rfl⟩
instance Ty.aea:eo prog 243 [(0,1)]:=⟨_,underlying243,λw=>by kernel_rfl⟩
instance Ty.aeb:eo prog 245 [(0,1),(1,1)]:=⟨_,underlying245,λw=>by kernel_rfl⟩
instance Ty.aec:eo prog 247 [(0,2),(2,1),(3,1),(4,1),(5,1),(6,2),(8,1),(9,1),(10,1)]:=⟨_,underlying247,λw=>by kernel_rfl⟩
instance Ty.aed:eo prog 257 [(0,10),(10,1),(11,1),(12,1),(13,1),(14,1),(15,1)]:=⟨_,underlying257,λw=>by kernel_rfl⟩
instance Ty.aee:eo prog 259 [(0,1),(1,1),(2,1),(3,1),(4,1)]:=⟨_,underlying259,λw=>by kernel_rfl⟩
instance Ty.aef:eo prog 288 [(0,1)]:=⟨_,underlying288,λw=>by kernel_rfl⟩
instance Ty.Qz:eo prog 296 [(0,32)]:=⟨_,underlying296,λw=>by kernel_rfl⟩
instance Ty.aeg:eo prog 307 [(0,1),(1,1),(2,1)]:=⟨_,underlying307,λw=>by kernel_rfl⟩
instance Ty.aeh:eo prog 313 [(0,1),(1,1)]:=⟨_,underlying313,λw=>by kernel_rfl⟩
instance Ty.aei:eo prog 328 [(0,1)]:=⟨_,underlying328,λw=>by kernel_rfl⟩
instance Ty.aej:eo prog 336 [(0,2),(2,1),(3,1),(4,1),(5,1)]:=⟨_,underlying336,λw=>by kernel_rfl⟩
instance Ty.aek:eo prog 427 [(0,1),(1,1)]:=⟨_,underlying427,λw=>by kernel_rfl⟩
abbrev U2:=aG.of underlying2
abbrev U3:=aG.of underlying3
abbrev U4:=aG.of underlying4
abbrev U5:=aG.of underlying5
abbrev U9:=aG.of underlying9
abbrev QA:=aG.of underlying21
abbrev QB:=aG.of underlying22
abbrev QC:=aG.of underlying28
abbrev QD:=aG.of underlying31
abbrev QE:=aG.of underlying33
abbrev QF:=aG.of underlying34
abbrev QG:=aG.of underlying35
abbrev QI:=aG.of underlying36
abbrev QJ:=aG.of underlying37
abbrev QK:=aG.of underlying38
abbrev QL:=aG.of underlying40
abbrev QM:=aG.of underlying42
abbrev QN:=aG.of underlying43
abbrev QO:=aG.of underlying45
abbrev QQ:=aG.of underlying47
abbrev QR:=aG.of underlying49
abbrev QS:=aG.of underlying51
abbrev QT:=aG.of underlying53
abbrev QU:=aG.of underlying54
abbrev QV:=aG.of underlying55
abbrev QW:=aG.of underlying58
abbrev QX:=aG.of underlying60
abbrev QY:=aG.of underlying62
abbrev QZ:=aG.of underlying65
abbrev Q0:=aG.of underlying66
abbrev Q1:=aG.of underlying67
abbrev Q2:=aG.of underlying68
abbrev Q3:=aG.of underlying69
abbrev Q4:=aG.of underlying70
abbrev Q5:=aG.of underlying72
abbrev Q6:=aG.of underlying74
abbrev Q7:=aG.of underlying78
abbrev Q8:=aG.of underlying81
abbrev Q9:=aG.of underlying84
abbrev Ra:=aG.of underlying90
abbrev Rb:=aG.of underlying100
abbrev Rc:=aG.of underlying102
abbrev Re:=aG.of underlying104
abbrev Rf:=aG.of underlying105
abbrev Rg:=aG.of underlying107
abbrev Rh:=aG.of underlying108
abbrev Ri:=aG.of underlying110
abbrev Rj:=aG.of underlying114
abbrev Rk:=aG.of underlying124
abbrev Rl:=aG.of underlying133
abbrev Rm:=aG.of underlying135
abbrev Rp:=aG.of underlying139
abbrev Rq:=aG.of underlying158
abbrev Rr:=aG.of underlying160
abbrev Rs:=aG.of underlying162
abbrev Rt:=aG.of underlying164
abbrev Ru:=aG.of underlying166
abbrev Rv:=aG.of underlying168
abbrev Rw:=aG.of underlying169
abbrev Rx:=aG.of underlying173
abbrev Ry:=aG.of underlying175
abbrev Rz:=aG.of underlying177
abbrev RA:=aG.of underlying179
abbrev RB:=aG.of underlying183
abbrev RC:=aG.of underlying186
abbrev RD:=aG.of underlying187
abbrev RE:=aG.of underlying192
abbrev RF:=aG.of underlying203
abbrev RG:=aG.of underlying207
abbrev RJ:=aG.of underlying210
abbrev RK:=aG.of underlying211
abbrev RL:=aG.of underlying213
abbrev RM:=aG.of underlying218
abbrev RO:=aG.of underlying219
abbrev RP:=aG.of underlying221
abbrev RQ:=aG.of underlying222
abbrev RS:=aG.of underlying224
abbrev RU:=aG.of underlying225
abbrev RV:=aG.of underlying227
abbrev RW:=aG.of underlying230
abbrev RX:=aG.of underlying232
abbrev RY:=aG.of underlying233
abbrev RZ:=aG.of underlying236
abbrev R0:=aG.of underlying238
abbrev R4:=aG.of underlying241
abbrev R5:=aG.of underlying243
abbrev R6:=aG.of underlying245
abbrev R8:=aG.of underlying247
abbrev R9:=aG.of underlying253
abbrev Sa:=aG.of underlying255
abbrev Sb:=aG.of underlying257
abbrev Sc:=aG.of underlying259
abbrev Sd:=aG.of underlying270
abbrev Se:=aG.of underlying286
abbrev Sf:=aG.of underlying288
abbrev Sg:=aG.of underlying289
abbrev Sh:=aG.of underlying294
abbrev Si:=aG.of underlying296
abbrev Sj:=aG.of underlying305
abbrev Sk:=aG.of underlying307
abbrev Sm:=aG.of underlying313
abbrev Sp:=aG.of underlying314
abbrev Sq:=aG.of underlying319
abbrev Sr:=aG.of underlying320
abbrev Ss:=aG.of underlying322
abbrev St:=aG.of underlying328
abbrev Su:=aG.of underlying333
abbrev Sv:=aG.of underlying336
abbrev Sw:=aG.of underlying343
abbrev Sy:=aG.of underlying345
abbrev Sz:=aG.of underlying351
abbrev SB:=aG.of underlying366
abbrev SC:=aG.of underlying423
abbrev SD:=aG.of underlying427
abbrev SE:=aG.of underlying429
attribute [instance] U2 U3 U4 U5 U9 QA QB QC QD QE QF QG QI QJ QK QL QM QN QO QQ QR QS QT QU QV QW QX QY QZ Q0 Q1 Q2 Q3 Q4 Q5 Q6 Q7 Q8 Q9 Ra Rb Rc Re Rf Rg Rh Ri Rj Rk Rl Rm Rp Rq Rr Rs Rt Ru Rv Rw Rx Ry Rz RA RB RC RD RE RF RG RJ RK RL RM RO RP RQ RS RU RV RW RX RY RZ R0 R4 R5 R6 R8 R9 Sa Sb Sc Sd Se Sf Sg Sh Si Sj Sk Sm Sp Sq Sr Ss St Su Sv Sw Sy Sz SB SC SD SE
theorem Ty.mixed:prog.follows .mixedOrders=true:=by kernel_rfl
instance:y3 prog:=⟨Ty.mixed⟩
end
section
theorem U.cF {W w:World}{L R:List SP}{n c e:Nat}{cs:List Value}(I:U W w L)(ad:Option Addr)(bs:List UInt8)[k:fL L ad n c e 1 cs R](h:cs=bc bs)(hn:bs.length=n):a6 w ad n bs:=by
 subst h;refine⟨hn,λe=>?_,λx hx hp=>?_⟩
 ·rcases Nat.eq_zero_or_pos n with h0 | h0
  ·exact h0
  ·obtain⟨b,off,e2,_⟩:=I.bY ad h0;rw[e]at e2;cases e2
 ·obtain⟨b,off,e2,hr⟩:=I.bY ad hp;exact⟨b,off,by rw[hx]at e2;cases e2;rfl,hr⟩
theorem a6.nil {w:World}{ad:Option Addr}:a6 w ad 0 []:=⟨rfl,λ_=>rfl,λ_ _ h=>absurd h (by decide)⟩
theorem a6.gf {W w:World}{L:List SP}{ad:Option Addr}{m:Nat}{bs:List UInt8}(h:a6 W ad m bs)(I:U W w L):a6 w ad m bs:=by
 refine⟨h.1,h.2.1,λx hx h0=>?_⟩;obtain⟨b,off,rfl,hr⟩:=h.2.2 x hx h0;refine⟨b,off,rfl,λj v hj=>?_⟩;have h1:=hr j v hj;rw[I.gf (a:=⟨b,off+j,none⟩) (World.block_lt_of_cell? _ _ h1)];exact h1
theorem qG (ad:Option Addr)(c sz:Nat):fk ad 0 c sz=ad:=by
 unfold fk;split
 ·rfl
 ·cases ad with
  | none=>rfl
  | some a=>simp[Addr.add]
def kB (w:World)(ad:Option Addr)(m:Nat)(p:List (List UInt8)):Prop :=
 p.length=m∧(0<m→∃ b off,ad=some ⟨b,off,none⟩∧∀ j bs,p[j]?=some bs→∃ av c',w.cell? ⟨b,off+j,none⟩=some (.slice av bs.length c')∧a6 w av bs.length bs)
theorem kB.take {w:World}{ad:Option Addr}{m n:Nat}{p:List (List UInt8)}(h:kB w ad m p)(hn:n≤m):kB w ad n (p.take n):=by
 refine⟨by rw[et,h.1];omega,λh0=>?_⟩;obtain⟨b,off,h1,h2⟩:=h.2 (by omega);refine⟨b,off,h1,λj bs hj=>?_⟩;rw[getElem?_take]at hj;by_cases pY:j<n
 ·rw[ak pY]at hj;exact h2 j bs hj
 ·rw[ae pY]at hj;cases hj
abbrev ea:=Option Addr×Nat×List UInt8
def aM (x:ea):Value:=.slice x.1 x.2.2.length x.2.1
def a7 (x:ea):SP:=Sl 5 1 x.1 x.2.2.length x.2.1 (bc x.2.2)
def b9 (ad:Option Addr)(n c:Nat)(p:List (List UInt8)):SP:=λh=>∃ xs:List ea,(xs.map (·.2.2)=p∧p.length=n)∧cm [Sl 22 1 ad n c (xs.map aM),ah a7 xs] h
section
variable {W w:World}{L L' R:List SP}{ad:Option Addr}{n c:Nat}{p:List (List UInt8)}{xs:List ea}
theorem b9.open (I:U W w (b9 ad n c p::L)):∃ xs:List ea,xs.map (·.2.2)=p∧p.length=n∧U W w (Sl 22 1 ad n c (xs.map aM)::ah a7 xs::L):=by
 obtain⟨xs,⟨h1,h2⟩,h3⟩:=I.jo (ι:=List ea) (p:=λxs=>xs.map (·.2.2)=p∧p.length=n) (B:=λxs h=>cm [Sl 22 1 ad n c (xs.map aM),ah a7 xs] h) (λh ⟨xs,h1,h2⟩=>⟨xs,h1,h2⟩);exact⟨xs,h1,h2,h3.open λ_ h=>h⟩
theorem b9.close (I:U W w L)[k:fD L (Sl 22 1 ad n c (xs.map aM)::ah a7 xs::L') R](h1:xs.map (·.2.2)=p)(h2:p.length=n):U W w (b9 ad n c p::L') :=
 U.shut (M:=[_,_]) (I.sub (M:=Sl 22 1 ad n c (xs.map aM)::ah a7 xs::L')) (λ_ x=>⟨xs,⟨h1,h2⟩,x⟩)
theorem b9.le (I:U W w (b9 ad n c p::L)):p.length=n∧n≤c:=by
 obtain⟨xs,h1,h2,h3⟩:=b9.open I;exact⟨h2,(h3.sl ad).2⟩
theorem b9.nil (I:U W w L):U W w (b9 none 0 0 []::L):=by
 have h:U W w (Sl 22 1 none 0 0 (([]:List ea).map aM)::ah a7 []::L):=(I.iI (f:=a7)).bM 22 1 none;exact b9.close (xs:=[]) h rfl rfl
theorem b9.rd (I:U W w (b9 ad n c p::L)):kB w ad n p:=by
 obtain⟨xs,h1,h2,h3⟩:=b9.open I;refine⟨h2,λh0=>?_⟩;obtain⟨b,off,rfl,hr⟩:=h3.bY ad h0;refine⟨b,off,rfl,λj bs hj=>?_⟩;rw[← h1,bm]at hj;obtain⟨x,hx,rfl⟩:=Option.map_eq_some_iff.1 hj;obtain⟨cj,gS⟩:=a2.1 hx;refine⟨x.1,x.2.1,hr j _ (by rw[bm,hx];rfl),?_⟩;have h4:=(h3.perm (List.Perm.swap _ _ _)).fE cj;rw[gS]at h4;have h5:U W w (Sl 5 1 x.1 x.2.2.length x.2.1 (bc x.2.2)::_):=h4;exact h5.cF x.1 x.2.2 rfl rfl
theorem rT {bs:List UInt8}{m:Nat}(I:U W w L)(hr:∀ V,U W V L→a6 V ad m bs)(hb:m≤1099511627776) :
   Calls prog 95 #[.slice ad m c] w λe V=>∃ av c',e=.returned (.slice av m c')∧U W V (Sl 5 1 av m c' (bc bs)::L):=by
 obtain⟨h1,h2,h3⟩:=hr _ I;cases ad with
 | none =>
  obtain rfl:=h2 rfl;obtain rfl:bs=[]:=g5 h1;refine EN func95 ntmps95 rfl rfl λa E=>?_;refine RN 6 E I λa E=>?_;replace E:=E.ef 4;refine RT 3 E I ?_;exact⟨_,_,rfl,I.bM _ _ _⟩
 | some a =>
  rcases Nat.eq_zero_or_pos m with h0 | h0
  ·subst h0;obtain rfl:bs=[]:=g5 h1;refine EN func95 ntmps95 rfl rfl λa E=>?_;refine RN 6 E I λa E=>?_;replace E:=E.aN 4;refine RN 2 E I λa E=>?_;refine tp E rfl I underlying22 Ty.t5 rfl λb5 a w E I ho=>?_;clear ho;refine RN 1 E I λa E=>?_;refine B1 E rfl underlying22 Ty.t5 rfl (bf _) λa E=>?_;refine RT 1 E I ?_;exact⟨_,_,rfl,I⟩
  ·obtain⟨b,off,rfl,_⟩:=h3 a rfl h0;refine EN func95 ntmps95 rfl rfl λa E=>?_;refine RN 6 E I λa E=>?_;replace E:=E.aN 4;refine RN 2 E I λa E=>?_;refine tp E rfl I underlying22 Ty.t5 rfl λb5 a w E I ho=>?_;clear ho;refine RN 1 E I λa E=>?_;obtain⟨b',dB,hx,de⟩:=(hr _ I.tail).2.2 _ rfl h0;cases hx;refine cI E rfl I underlying22 Ty.t5 rfl rfl de (by rw[dw,h1,Nat.mul_one]) (ep bs) h0 (by decide) (by omega) λrU qH a w E I=>?_;rw[Nat.zero_add]at E I;refine RT 1 E I ?_;exact⟨_,_,rfl,I⟩
theorem qI (a b:List UInt8):((⟨a.toArray⟩:ByteArray).data.toList==(⟨b.toArray⟩:ByteArray).data.toList)=(a==b):=rfl
theorem HH {a b:List UInt8}{ad2:Option Addr}{m n c2:Nat}(dc:a6 w ad m a)(kZ:a6 w ad2 n b) :
   Calls prog 313 #[.slice ad m c,.slice ad2 n c2] w λe V=>e=.returned (.bool (a==b))∧V=w:=by
 have I:=U.start w;refine EN func313 ntmps313 rfl rfl λa E=>?_;refine RN 4 E I λa E=>?_;refine SS E (lV E underlying22 underlying5 underlying9 (dc)) λa E=>?_;refine RN 1 E I λa E=>?_;refine SS E (lV E underlying22 underlying5 underlying9 (kZ)) λa E=>?_;refine RN 0 E I λa E=>?_;refine SS E (rL E) λa E=>?_;refine RT 1 E I ?_;exact⟨by rw[qI],rfl⟩
theorem SF {p q:List (List UInt8)}{k:Nat}{x y:List UInt8}(h:p.take k=q.take k)(hx:p[k]?=some x)(hy:q[k]?=some y):(p.take (k+1)=q.take (k+1))↔x=y:=by
 obtain⟨h1,rfl⟩:=a2.1 hx;obtain⟨h2,rfl⟩:=a2.1 hy;rw[iX h1,iX h2,h];exact⟨λe=>by have:=List.append_cancel_left e;simpa using this,λe=>by rw[e]⟩
theorem SG {p q:List (List UInt8)}{ad2:Option Addr}{m c2:Nat}(hp:kB w ad m p)(hq:kB w ad2 m q)(hb:m≤1099511627776) :
   Calls prog 312 #[.slice ad m c,.slice ad2 m c2,.func (.func 313) #[] #[]] w λe V=>e=.returned (.bool (p==q))∧V=w:=by
 have eB:=hp.1;have SH:=hq.1;obtain⟨W,w2⟩:∃ W,w=W:=⟨w,rfl⟩;have I:U W w []:=w2 ▸ U.start w;refine EN func312 ntmps312 rfl rfl λa E=>?_;refine RN 9 E I λa E=>?_;rw[PX]at E;replace E:=E.aN 14;refine RN 6 E I λa E=>?_;refine aR (λμ a w=>∃ k:Nat,(μ=m-k∧k≤m∧p.take k=q.take k∧w=W)∧Fr a 32 [(1,.slice ad2 m c2),(2,.func (.func 313) #[] #[]),(15,.slice ad m c),(16,.int .i64 m),(17,.int .i64 k)]∧U W w []) (m) (⟨0,⟨by simp,by simp,by simp,w2⟩,E.ab [1,2,15,16,17],I⟩) ?_;clear E I;rintro μ a w ⟨k,⟨rfl,hk,Cm,y6⟩,E,I⟩;subst y6 w2;refine IF 3 E I (λao a E=>?_) λao a E=>?_
 ·
  refine RN 2 E I λa E=>?_;obtain⟨b1,o1,rfl,h1⟩:=hp.2 (by omega);obtain⟨b2,pZ,rfl,h2⟩:=hq.2 (by omega);have eg:p[k]?=some p[k]:=aI (by omega);have c3:q[k]?=some q[k]:=aI (by omega);obtain⟨cZ,c1',SI,e8⟩:=h1 k _ eg;obtain⟨dT,c2',SJ,eT⟩:=h2 k _ c3;have HI:=SF Cm eg c3;refine RN 2 E I λa E=>?_;refine SS E (ag E (SI)) λa E=>?_;refine RN 6 E I λa E=>?_;refine SS E (ag E (SJ)) λa E=>?_;refine CL 5 E I (HH e8 eT) λa w E hx=>?_;obtain rfl:=hx;refine IF 1 E (U.start _) (λay a E=>?_) λay a E=>?_
  ·
   have bN:¬ p[k]=q[k]:=by simpa using ay
   refine RT 2 E (U.start _) ?_;refine⟨?_,rfl⟩;have:(p==q)=false:=by
    rw[lx];intro e;exact bN (HI.1 (by rw[e]))
   rw[this]
  have heq:p[k]=q[k]:=by simpa using ay
  refine RN 2 E (U.start _) λa E=>?_;exact⟨m-(k+1),by omega,k+1,⟨rfl,by omega,HI.2 heq,rfl⟩,E.ab [1,2,15,16,17],U.start _⟩
 refine RT 2 E I ?_;obtain rfl:k=m:=by omega
 rw[fX (by omega),fX (by omega)]at Cm;subst Cm;exact⟨by rw[beq_self_eq_true],rfl⟩
def iJ (w:World)(ad:Option Addr)(xs:List ea):Prop:=(0<xs.length→∃ b off,ad=some ⟨b,off,none⟩∧Rd w b off (xs.map aM))∧∀ x∈xs,a6 w x.1 x.2.2.length x.2.2
theorem iJ.bb (h:iJ w ad xs):kB w ad xs.length (xs.map (·.2.2)):=by
 refine⟨by simp,λh0=>?_⟩;obtain⟨b,off,h1,h2⟩:=h.1 h0;refine⟨b,off,h1,λj bs hj=>?_⟩;rw[bm]at hj;obtain⟨x,hx,rfl⟩:=Option.map_eq_some_iff.1 hj;exact⟨x.1,x.2.1,h2 j _ (by rw[bm,hx];rfl),h.2 x (bK hx)⟩
theorem U.lY {m:Nat}(I:U W w (Sl 22 1 ad m c (xs.map aM)::ah a7 xs::L)):iJ w ad xs:=by
 have hm:xs.length=m:=by have:=(I.sl ad).1;simpa using this
 refine⟨λh0=>I.bY ad (by omega),λx hx=>?_⟩;obtain⟨i,hi,rfl⟩:=List.mem_iff_getElem.1 hx;have h4:=(I.perm (List.Perm.swap _ _ _)).fE hi;have h5:U W w (Sl 5 1 xs[i].1 xs[i].2.2.length xs[i].2.1 (bc xs[i].2.2)::_):=h4;exact h5.cF xs[i].1 xs[i].2.2 rfl rfl
end
end
end Go.Proofs.YteoldcfapaiobaaGreat
