/- Rows of structs: a list laid out flat, so many cells each. -/
import Derived.Test.YteoldcfapaiobaaGreatI00Sl
import Derived.Laws.RangeAny
import Derived.Laws.Strings
import Derived.Laws.MakeOwn
import Derived.KernelRfl
import Derived.Test.YteoldcfapaiobaaGreatProg
namespace Go.Proofs.YteoldcfapaiobaaGreat
open Tryz
open List (all_eq_true drop_zero take_succ_cons nil_append map_cons getElem?_cons_succ mem_range getElem?_toArray drop_eq_nil_of_le ext_getElem getElem_map cons_append eraseIdx_set_eq append_nil)
open Go.RowKit
set_option linter.unusedVariables false
set_option linter.unusedSimpArgs false
set_option maxRecDepth 10000
set_option synthInstance.maxSize 4000
set_option synthInstance.maxHeartbeats 400000
section
theorem S6 {x:Int}:decide (x≠x)=false:=by simp
def rows {α:Type}(f:α→List Value)(l:List α):List Value:=l.flatMap f
section
variable {α:Type}{f:α→List Value}{sz:Nat}
theorem oN (x:α)(l:List α):rows f (x::l)=f x++rows f l:=rfl
theorem kK (l m:List α):rows f (l++m)=rows f l++rows f m:=by simp[rows]
theorem A5 (h1:∀ x,∀ v∈f x,v.oneCell'=true)(l:List α):∀ v∈rows f l,v.oneCell'=true:=by
 intro v hv;simp only[rows,List.mem_flatMap]at hv;obtain⟨x,_,hx⟩:=hv;exact h1 x v hx
theorem jC (hf:∀ x,(f x).length=sz)(l:List α):(rows f l).length=l.length*sz:=by
 induction l with
 | nil=>simp[rows]
 | cons x l ih=>rw[oN,aM,hf,ih,eV,Nat.succ_mul,Nat.add_comm]
theorem Kf (hf:∀ x,(f x).length=sz)(l:List α)(i:Nat):(rows f l).drop (i*sz)=rows f (l.drop i):=by
 induction i generalizing l with
 | zero=>simp
 | succ i ih =>
  cases l with
  | nil=>simp[rows]
  | cons x l=>rw[oN,Nat.succ_mul,Nat.add_comm,← kF,List.drop_left' (hf x),ih,List.drop_succ_cons]
theorem S7 (hf:∀ x,(f x).length=sz)(l:List α)(i:Nat):(rows f l).take (i*sz)=rows f (l.take i):=by
 induction i generalizing l with
 | zero=>simp[rows]
 | succ i ih =>
  cases l with
  | nil=>simp[rows]
  | cons x l =>
   rw[oN,Nat.succ_mul,Nat.add_comm,uV,hf,gl (by rw[hf];omega),show sz+i*sz-sz=i*sz from by omega,ih,take_succ_cons,oN]
theorem wM (hf:∀ x,(f x).length=sz)(l:List α)(i:Nat)(h:i<l.length):((rows f l).drop (i*sz)).take sz=f l[i]:=by
 rw[Kf hf,kL h,oN,List.take_left' (hf _)]
theorem Ey (hf:∀ x,(f x).length=sz)(l:List α){i k:Nat}{v:Value}(h:i<l.length)(hv:(f l[i])[k]?=some v):(rows f l)[i*sz+k]?=some v:=by
 have hk:k<sz:=by rw[← hf l[i]];exact (a2.1 hv).1
 have:=wM hf l i h;rw[← this,uQ,aj hk,qE]at hv;exact hv
theorem Kg (hf:∀ x,(f x).length=sz)(l:List α){i:Nat}(x:α)(h:i<l.length):cH (rows f l) (i*sz) (f x)=rows f (l.set i x):=by
 rw[rH,aj h,kK,oN,cH,S7 hf,hf,show i*sz+sz=(i+1)*sz from by rw[Nat.succ_mul],Kf hf,dz]
theorem qO (hf:∀ x,(f x).length=sz)(l:List α){i k:Nat}{v:Value}(x:α)(h:i<l.length)(hk:k<sz)(hx:(f l[i]).set k v=f x):(rows f l).set (i*sz+k) v=rows f (l.set i x):=by
 have h0:l=l.take i++l[i]::l.drop (i+1):=by rw[← kL h,j6]
 have wN:l.set i x=l.take i++x::l.drop (i+1):=by rw[rH,aj h]
 rw[wN,kK,oN]
 conv=>lhs;rw[h0,kK,oN]
 have hl:(rows f (l.take i)).length=i*sz:=by rw[jC hf];simp;rw[Nat.min_eq_left (by omega)]
 rw[wH _ _ (by omega),hl,show i*sz+k-i*sz=k from by omega,uW _ _ (by rw[hf];exact hk),hx]
theorem S8 (A B C vs:List Value)(k:Nat)(hk:k+vs.length≤B.length):cH (A++(B++C)) (A.length+k) vs=A++(cH B k vs++C):=by
 have e1:(A++(B++C)).take (A.length+k)=A++B.take k:=by
  rw[uV,gl (by omega),show A.length+k-A.length=k from by omega,List.take_append_of_le_length (by omega)]
 have e2:(A++(B++C)).drop (A.length+k+vs.length)=B.drop (k+vs.length)++C:=by
  rw[List.drop_append,drop_eq_nil_of_le (by omega),show A.length+k+vs.length-A.length=k+vs.length from by omega,List.drop_append_of_le_length (by omega),nil_append]
 rw[cH,e1,e2,cH];simp only[dz]
theorem S9 (hf:∀ x,(f x).length=sz)(l:List α){i k:Nat}{vs:List Value}(x:α)(h:i<l.length)(hk:k+vs.length≤sz)(hx:cH (f l[i]) k vs=f x):cH (rows f l) (i*sz+k) vs=rows f (l.set i x):=by
 have h0:rows f l=rows f (l.take i)++(f l[i]++rows f (l.drop (i+1))):=by
  rw[← oN,← kK,← kL h,j6]
 have wN:l.set i x=l.take i++x::l.drop (i+1):=by rw[rH,aj h]
 have hl:(rows f (l.take i)).length=i*sz:=by rw[jC hf];simp;rw[Nat.min_eq_left (by omega)]
 rw[wN,kK,oN,h0,← hl,S8 _ _ _ _ _ (by rw[hf];exact hk),hx]
theorem Ta (hf:∀ x,(f x).length=sz)(l:List α){i k m:Nat}(h:i<l.length)(hk:k+m≤sz):((rows f l).drop (i*sz+k)).take m=((f l[i]).drop k).take m:=by
 have:=wM hf l i h;rw[← this,List.drop_take,List.take_take,kF,Nat.min_eq_left (by omega)]
end
def fn (m:Nat)(g:Nat→Value):List Value:=(List.range m).map g
theorem Kh (m:Nat)(g:Nat→Value):(fn m g).length=m:=by simp[fn]
theorem Ki {m k:Nat}(g:Nat→Value)(h:k<m):(fn m g)[k]?=some (g k):=by simp[fn,h]
theorem Ez {m:Nat}{g g':Nat→Value}(h:∀ k,k<m→g k=g' k):fn m g=fn m g':=by
 simp only[fn];exact List.map_congr_left λk hk=>h k (mem_range.1 hk)
theorem Kj {m k:Nat}(g:Nat→Value)(v:Value):(fn m g).set k v=fn m (λj=>if j=k then v else g j):=by
 apply ext_getElem (by simp[fn]);intro i h1 h2;simp only[fn,List.getElem_set,getElem_map,List.getElem_range];by_cases h:k=i
 ·simp[h]
 ·rw[ag h,ag (λe=>h e.symm)]
theorem Tb {m:Nat}{g:Nat→Value}(h:∀ k,(g k).oneCell'=true):∀ v∈fn m g,v.oneCell'=true:=by
 intro v hv;simp only[fn,cX]at hv;obtain⟨k,_,rfl⟩:=hv;exact h k
theorem Tc {m k n:Nat}(g:Nat→Value)(h:k+n≤m):((fn m g).drop k).take n=fn n (λj=>g (k+j)):=by
 apply ext_getElem (by simp[fn];omega);intro i h1 h2;simp[fn]
def cn (g:Nat→Int)(c:Nat)(v:Int):Nat→Int:=λj=>if j=c then v else g j
def ints (k:IntKind)(m:Nat)(g:Nat→Int):List Value:=fn m (λj=>.int k (g j))
theorem dk (k:IntKind)(m:Nat)(g:Nat→Int):(ints k m g).length=m:=Kh _ _
theorem ga {k:IntKind}{m j:Nat}(g:Nat→Int)(h:j<m):(ints k m g)[j]?=some (.int k (g j)):=Ki _ h
theorem u0 {k:IntKind}{m:Nat}{g:Nat→Int}:∀ v∈ints k m g,v.oneCell'=true:=Tb λ_=>rfl
theorem ints_set {k:IntKind}{m j:Nat}(g:Nat→Int)(v:Int):(ints k m g).set j (.int k v)=ints k m (λi=>if i=j then v else g i):=by
 rw[ints,Kj];exact Ez λi _=>by by_cases h:i=j <;> simp[h]
theorem Td {k:IntKind}{m j n:Nat}(g:Nat→Int)(h:j+n≤m):((ints k m g).drop j).take n=ints k n (λi=>g (j+i)):=Tc _ h
theorem yI {k:IntKind}{m:Nat}{g g':Nat→Int}(h:∀ j,j<m→g j=g' j):ints k m g=ints k m g':=Ez λj hj=>by rw[h j hj]
class wO (fY:List (List Value))(out:outParam (List Value)):Prop where h:fY.flatten=out
instance wO.nil:wO [] []:=⟨rfl⟩
instance wO.one {x fY out}[k:wO fY out]:wO ([x]::fY) (x::out):=⟨by rw[List.flatten_cons,k.h];rfl⟩
instance mO.ints {k m g}:mO (ints k m g) m:=⟨dk k m g⟩
section
variable {P:Program}{ops:Array Oper}{Q:Exit→Act→World→Prop}{a:Act}{w w' W:World}{K:Act→World→Prop}{n d:Nat}{l:List (Nat×Value)}{v:Value}{L R:List SP}
theorem wP {x y k i j t u dst ty ps af g}(E:Fr a n l)(h:j≠0)(hi:k.wrap (i.tdiv j)=i.tdiv j)[e:Ev l x (.int k i)][f:Ev l y (.int k j)] :
   (execOp a.eval ⟨dst,.binOp .quo t x y u,ty,ps,af,g⟩).run P w=.ok (.value (.int k (i.tdiv j))) w:=by
 have:k.wrap (i.tdiv j)=i.tdiv j:=hi;simp[execOp,e.ev a n E,f.ev a n E,eqGuard,binOp,Op.intDiv,h,this]
theorem A6 {x y k i j t u dst ty ps af g}(E:Fr a n l)(h:j≠0)[e:Ev l x (.int k i)][f:Ev l y (.int k j)] :
   (execOp a.eval ⟨dst,.binOp .rem t x y u,ty,ps,af,g⟩).run P w=.ok (.value (.int k (i.tmod j))) w:=by
 simp[execOp,e.ev a n E,f.ev a n E,eqGuard,binOp,Op.intDiv,h]
theorem rM (i:Nat)(j:Nat):(i:Int).tdiv (j:Int)=((i/j:Nat):Int):=by rw[Int.natCast_ediv,Int.tdiv_eq_ediv_of_nonneg (by omega)]
theorem oO (i:Nat)(j:Nat):(i:Int).tmod (j:Int)=((i%j:Nat):Int):=by rw[Int.natCast_emod,Int.tmod_eq_emod_of_nonneg (by omega)]
theorem te {x y k i j vs t el m ej z a1 dst ty ps af g}(E:Fr a n l)(hu:P.underlying t=some (.array m el))(hd:P.underlying el=some ej)(h1:oH ej=true)(hi:TI P el z 1 a1)
   [ev:Ev l x (.agg (List.toArray vs))] [ha:Ev l y (.int k i)] [nj:ey i j] (hlt:j<m) (hv:vs[j]?=some v) :
   (execOp a.eval ⟨dst,.index t x y,ty,ps,af,g⟩).run P w=.ok (.value v) w:=by
 have:=nj.h;subst this;have yJ:(part el vs.toArray j).run P w=.ok v w:=by
  have EA:(isAgg el).run P w=.ok false w:=by
   simp only[isAgg,Sem.run_bind,eT hd,Result.andThen_ok];cases ej <;> first | rfl | (simp[oH]at h1)
  simp[part,EA,hv]
 simp[execOp,ev.ev a n E,ha.ev a n E,Instr.index,asIntOf,eT hu,mL hi,hlt,yJ]
theorem Te {x b off m t el z sz a1 dst ty ps af g}(E:Fr a n l)[ev:Ev l x (.pointer (some ⟨b,off,none⟩))](ht:P.underlying t=some (.array m el))(hi:TI P el z sz a1) :
   (execOp a.eval ⟨dst,.slice t x none none none,ty,ps,af,g⟩).run P w=.ok (.value (.slice (some ⟨b,off,none⟩) m m)) w:=by
 simp[execOp,ev.ev a n E,Instr.sliceAt,Instr.sliceBounds,eT ht,mL hi,Instr.sureAddr,k6]
theorem gA {x k k' i s t dst ty ps af g}(E:Fr a n l)(I:P.underlying s=some (.int k))(ht:P.underlying t=some (.int k'))[ev:Ev l x (.int k i)] :
   (execOp a.eval ⟨dst,.convert s t x,ty,ps,af,g⟩).run P w=.ok (.value (.int k' (k'.wrap i))) w:=by
 simp[execOp,ev.ev a n E,convert,eT I,eT ht,Conv.intToInt]
theorem pO {x k k' i s t dst ty ps af g}(E:Fr a n l)(I:P.underlying s=some (.int k))(ht:P.underlying t=some (.int k'))(hw:k'.wrap i=i)[ev:Ev l x (.int k i)] :
   (execOp a.eval ⟨dst,.convert s t x,ty,ps,af,g⟩).run P w=.ok (.value (.int k' i)) w:=by
 rw[gA E I ht,hw]
theorem EB {t el m z zs sz a1 Tf A7 be parts fY out dst ty ps af g}(E:Fr a n l)(hu:P.underlying t=some (.array m el))(hi:TI P t z sz a1)[El:Cells z zs](he:TI P el Tf A7 be)
   [s9:uU l parts 0 fY] (hc:(fY.all λc=>c.length==A7)=true) (hz:zs.length=fY.length*A7) [jg:wO fY out] :
   (execOp a.eval ⟨dst,.build t (List.toArray parts),ty,ps,af,g⟩).run P w=.ok (.value (.agg out.toArray)) w:=by
 obtain⟨vs,e1,e2⟩:=s9.h a n E;have hf:=Ej (sz:=A7) fY vs 0 [] zs e2 (λc yE=>by simpa using all_eq_true.1 hc c yE) (by simp) hz;simp only[nil_append]at hf;rw[jg.h]at hf;simp only[execOp,Sem.run_bind,Instr.build,uR hi,Result.andThen_ok,eT hu,mL he,El.h,List.map_toArray,e1];simp[hf]
theorem Tg {x y b off m t el z sz a1 k i j dst ty ps af g}(E:Fr a n l)[ev:Ev l x (.pointer (some ⟨b,off,none⟩))](ht:P.underlying t=some (.array m el))(hi:TI P el z sz a1)[ha:Ev l y (.int k i)][nj:ey i j](h:j<m) :
   (execOp a.eval ⟨dst,.slice t x (some y) none none,ty,ps,af,g⟩).run P w=.ok (.value (.slice (some ⟨b,off+j*sz,none⟩) (m-j) (m-j))) w:=by
 have:=nj.h;subst this;have h2:¬ (m=j):=by omega
 simp[execOp,ev.ev a n E,ha.ev a n E,Instr.sliceAt,Instr.sliceBounds,Instr.sliceBound,asIntOf,eT ht,mL hi,Instr.sureAddr,k6,Nat.le_of_lt h,h2]
theorem Th {x y t t2 el z sz a1 b off m c b2 gY tf c2 k vs e cs ty ps af g}(E:Fr a n l)(hw:Region.wanted ⟨some d,.call ⟨.builtin .copy,#[x,y],#[t,t2]⟩,ty,ps,af,g⟩ (yielded ops a.tmps)=true)(I:U W w L)
   (ht:P.underlying t=some (.slice el)) (hi:TI P el z sz a1) (hf:okB d n l=true) [ev:Ev l x (.slice (some ⟨b,off,none⟩) m c)] [ha:Ev l y (.slice (some ⟨b2,gY,none⟩) tf c2)] [Ep:fL L b e cs R]
   (hk:min tf m=k) (hr:Rd w b2 gY vs) (hl:vs.length=k*sz) (h1:∀ v∈vs,v.oneCell'=true) (hle:off+vs.length≤cs.length)
   (h:∀ a' w',Fr a' n ((d,.int .i64 k)::l)→U W w' (aa b e (cH cs off vs)::R)→K a' w'):cK P ops Q ⟨some d,.call ⟨.builtin .copy,#[x,y],#[t,t2]⟩,ty,ps,af,g⟩ K a w:=by
 obtain⟨i,lM,dI,k7,qH⟩:=info_parts hi.h;have g9:=I.j5 b;have oI:∀ j v,vs[j]?=some v→w.cell? ((⟨b2,gY,none⟩:Addr).add j)=some v:=λj v hj=>by rw[k6];exact hr j v hj
 have jA:=run_firstCells_some (P:=P) w sz k ⟨b2,gY,none⟩ tf c2 vs hl oI;have aS:=run_storeCells_at (P:=P) b off e vs 0 cs.toArray w g9.has.2 (by simpa using hle) h1;have rJ:(storeCells ⟨b,off,none⟩ vs).run P w=.ok () (w.setRow b (cH cs off vs).toArray):=by simpa [cH] using aS
 refine bA (v:=.int .i64 k) (w':=w.setRow b (cH cs off vs).toArray) E hw ?_ hf (λa' di=>h a' _ di g9.setRow);simp[execOp,resolve,ev.ev a n E,ha.ev a n E,invoke,builtin,Builtin.copy_,eT ht,sizeOf,typeInfo,lM,k7,Builtin.lenOf,hk,jA,rJ,goInt]
end
def ah {α:Type}(f:α→SP)(l:List α):SP:=λh=>cp (l.map f) h
section
variable {α:Type}{f:α→SP}{W w:World}{L:List SP}
theorem tg {β:Type}(l:List β){i:Nat}(h:i<l.length):l.Perm (l[i]::l.eraseIdx i):=by
 conv=>lhs;rw[← j6 i l,kL h]
 rw[th];exact nW
theorem U.ji (I:U W w L):U W w (ah f []::L) :=
 ⟨I.below,let ⟨h,p,q⟩:=I.sat;⟨h,p,λ_=>none,h,λ_=>.inl rfl,λ_ _ e=>(by cases e),Hp.Sub.refl _,trivial,q⟩⟩
theorem U.fA {l:List α}(I:U W w (ah f l::L)){i:Nat}(h:i<l.length):U W w (f l[i]::ah f (l.eraseIdx i)::L):=by
 have h1:=I.open (M:=l.map f) (λ_ x=>x);have hp:=((tg l h).map f).append_right L;have h2:=h1.perm hp;simp only[map_cons,cons_append]at h2;refine U.perm (L:=ah f (l.eraseIdx i)::f l[i]::L) ?_ (c1 _ _ _);exact U.shut (M:=(l.eraseIdx i).map f) (h2.perm nW.symm) (λ_ x=>x)
theorem U.wQ {l:List α}{x:α}(I:U W w (f x::ah f l::L)):U W w (ah f (x::l)::L):=by
 have h1:=(I.perm (c1 _ _ _)).open (M:=l.map f) (λ_ x=>x);exact U.shut (M:=(x::l).map f) (h1.perm nW) (λ_ x=>x)
theorem U.Kk {l l':List α}(I:U W w (ah f l::L))(hp:l.Perm l'):U W w (ah f l'::L):=by
 have h1:=I.open (M:=l.map f) (λ_ x=>x);exact U.shut (M:=l'.map f) (h1.perm ((hp.map f).append_right L)) (λ_ x=>x)
theorem U.la {l:List α}{x:α}{i:Nat}(h:i<l.length)(I:U W w (f x::ah f (l.eraseIdx i)::L)):U W w (ah f (l.set i x)::L):=by
 refine I.wQ.Kk ?_;have hi:i<(l.set i x).length:=by simpa using h
 have:=tg (l.set i x) hi;rw[oP,eraseIdx_set_eq]at this;exact this.symm
theorem U.j7 {l:List α}{x:α}(I:U W w (f x::ah f l::L)):U W w (ah f (l++[x])::L) :=
 I.wQ.Kk (List.perm_append_comm (l₁:=[x]))
end
end
section
def pP (s:ByteArray)(pos:Nat):List Value:=if pos<s.size then [.bool true,.int .i64 pos,.int .i32 (Utf8.decode s pos).1] else [.bool false]
def ed (s:ByteArray)(pos:Nat):Nat:=if pos<s.size then pos+(Utf8.decode s pos).2 else pos
theorem EC (s:ByteArray)(pos:Nat):(pP s pos)[0]?=some (.bool (decide (pos<s.size))):=by
 by_cases h:pos<s.size <;> simp[pP,h]
theorem Ti {s:ByteArray}{pos:Nat}(h:pos<s.size):(pP s pos)[1]?=some (.int .i64 pos):=by simp[pP,h]
theorem ED {s:ByteArray}{pos:Nat}(h:pos<s.size):(pP s pos)[2]?=some (.int .i32 (Utf8.decode s pos).1):=by simp[pP,h]
section
variable {P:Program}{ops:Array Oper}{Q:Exit→Act→World→Prop}{a:Act}{w w' W:World}{K:Act→World→Prop}{o:Oper}{n d:Nat}{l:List (Nat×Value)}{v:Value}{L R:List SP}
theorem EE {t x s ty ps af g}(E:Fr a n l)(hw:Region.wanted ⟨some d,.range t x,ty,ps,af,g⟩ (yielded ops a.tmps)=true)(I:U W w L)(ht:P.underlying t=some .string)[ev:Ev l x (.string s)]
   (hf:okB d n l=true) (h:∀ b a' w',Fr a' n ((d,.pointer (some ⟨b,0,none⟩))::l)→U W w' (k5 b (.stringIter s 0)::L)→Old w w'→K a' w'):cK P ops Q ⟨some d,.range t x,ty,ps,af,g⟩ K a w:=by
 refine bA (v:=.pointer (some ⟨w.heap.size,0,none⟩)) (w':=w.alloc (.stringIter s 0)) E hw ?_ hf (λa' di=>h _ _ _ di (I.alloc _) (Old.alloc _ _));have:=run_range_string (P:=P) w t s ht;simp[execOp,ev.ev a n E,this,World.iter]
class EF (L:List SP)(b:Nat)(o:outParam Obj)(R:outParam (List SP)):Prop where perm:L.Perm (k5 b o::R)
instance EF.head {L b o}:EF (k5 b o::L) b o L:=⟨lL _⟩
theorem EG {x s pos b ty ps af g}(E:Fr a n l)(hw:Region.wanted ⟨some d,.next x true,ty,ps,af,g⟩ (yielded ops a.tmps)=true)(I:U W w L)[ev:Ev l x (.pointer (some ⟨b,0,none⟩))][k:EF L b (.stringIter s pos) R]
   (hf:okB d n l=true) (h:∀ a' w',Fr a' n ((d,.tuple (List.toArray (pP s pos)))::l)→U W w' (k5 b (.stringIter s (ed s pos))::R)→K a' w'):cK P ops Q ⟨some d,.next x true,ty,ps,af,g⟩ K a w:=by
 have oL:=I.perm k.perm;have hb:=oL.has.2;by_cases hp:pos<s.size
 ·have dB:=oL.cn (o':=.stringIter s (ed s pos)) (w':={ w with heap:=w.heap.setIfInBounds b (.stringIter s (ed s pos)) }) rfl rfl rfl rfl;refine bA (v:=.tuple (List.toArray (pP s pos))) (w':={ w with heap:=w.heap.setIfInBounds b (.stringIter s (ed s pos)) }) E hw ?_ hf (λa' di=>h a' _ di dB);simp[execOp,ev.ev a n E,Instr.next,getObj,setObj,Sem.run,hb,hp,goInt,pP,ed,Sem.run_bind]
 ·have e:ed s pos=pos:=by simp[ed,hp]
  refine bA (v:=.tuple (List.toArray (pP s pos))) (w':=w) E hw ?_ hf (λa' di=>h a' _ di (by rw[e];exact oL));simp[execOp,ev.ev a n E,Instr.next,getObj,Sem.run,hb,hp,pP,Sem.run_bind]
theorem Tj {x s t dst ty ps af g}(E:Fr a n l)[ev:Ev l x (.string s)](hu:P.underlying t=some .string) :
   (execOp a.eval ⟨dst,.call ⟨.builtin .len,#[x],#[t]⟩,ty,ps,af,g⟩).run P w=.ok (.value (.int .i64 s.size)) w:=by
 simp[execOp,resolve,ev.ev a n E,invoke,builtin,Builtin.len_,eT hu,goInt]
theorem A8 {x y s k i j t dst ty ps af g}(E:Fr a n l)(hu:P.underlying t=some .string)[ev:Ev l x (.string s)][ha:Ev l y (.int k i)][nj:ey i j](h:j<s.size) :
   (execOp a.eval ⟨dst,.index t x y,ty,ps,af,g⟩).run P w=.ok (.value (.int .u8 (s[j]'h).toNat)) w:=by
 have:=nj.h;subst this;have h2:=run_index_string (P:=P) w t s k (j:Int) hu;have h3:0≤(j:Int)∧(j:Int)<s.size:=by omega
 rw[dif_pos h3]at h2;simp[execOp,ev.ev a n E,ha.ev a n E,h2]
theorem EH {x y s k i j t dst ty ps af g}(E:Fr a n l)(hu:P.underlying t=some .string)[ev:Ev l x (.string s)][ha:Ev l y (.int k i)][nj:ey i j](h:j≤s.size) :
   (execOp a.eval ⟨dst,.slice t x (some y) none none,ty,ps,af,g⟩).run P w=.ok (.value (.string (s.extract j s.size))) w:=by
 have:=nj.h;subst this;have h2:=run_slice_string_l (P:=P) w t s hu k (j:Int) (by omega) (by omega);simp only[c9]at h2;simp[execOp,ev.ev a n E,ha.ev a n E,run_sliceAt_string (P:=P) (w:=w) t _ _ _ _ hu,h2]
theorem Kl {x y k i k' j jn t u dst ty ps af g}(E:Fr a n l)[e:Ev l x (.int k i)][f:Ev l y (.int k' j)][nj:ey j jn](h:jn≤k.bits) :
   (execOp a.eval ⟨dst,.binOp .shl t x y u,ty,ps,af,g⟩).run P w=.ok (.value (.int k (k.wrap (i*2 ^ jn)))) w:=by
 have:=nj.h;subst this;have h2:min jn k.bits=jn:=Nat.min_eq_left h;have h3:¬ ((jn:Int)<0):=by omega
 simp[execOp,e.ev a n E,f.ev a n E,eqGuard,binOp,Op.shift,h2,h3]
theorem Tk {x y k i k' j jn t u dst ty ps af g}(E:Fr a n l)[e:Ev l x (.int k i)][f:Ev l y (.int k' j)][nj:ey j jn](h:jn≤k.bits) :
   (execOp a.eval ⟨dst,.binOp .shr t x y u,ty,ps,af,g⟩).run P w=.ok (.value (.int k (i.fdiv (2 ^ jn)))) w:=by
 have:=nj.h;subst this;have h2:min jn k.bits=jn:=Nat.min_eq_left h;have h3:¬ ((jn:Int)<0):=by omega
 simp[execOp,e.ev a n E,f.ev a n E,eqGuard,binOp,Op.shift,h2,h3]
theorem Tm {x y k i j t u dst ty ps af g}(E:Fr a n l)[e:Ev l x (.int k i)][f:Ev l y (.int k j)] :
   (execOp a.eval ⟨dst,.binOp .or t x y u,ty,ps,af,g⟩).run P w=.ok (.value (.int k (k.wrap ((BitVec.ofInt k.bits i ||| BitVec.ofInt k.bits j).toNat)))) w:=by
 simp[execOp,e.ev a n E,f.ev a n E,eqGuard,binOp,Op.intBits]
theorem Tn {x y k i j t u dst ty ps af g}(E:Fr a n l)[e:Ev l x (.int k i)][f:Ev l y (.int k j)] :
   (execOp a.eval ⟨dst,.binOp .and t x y u,ty,ps,af,g⟩).run P w=.ok (.value (.int k (k.wrap ((BitVec.ofInt k.bits i &&& BitVec.ofInt k.bits j).toNat)))) w:=by
 simp[execOp,e.ev a n E,f.ev a n E,eqGuard,binOp,Op.intBits]
theorem To {x y k i j t u dst ty ps af g}(E:Fr a n l)[e:Ev l x (.int k i)][f:Ev l y (.int k j)] :
   (execOp a.eval ⟨dst,.binOp .xor t x y u,ty,ps,af,g⟩).run P w=.ok (.value (.int k (k.wrap ((BitVec.ofInt k.bits i ^^^ BitVec.ofInt k.bits j).toNat)))) w:=by
 simp[execOp,e.ev a n E,f.ev a n E,eqGuard,binOp,Op.intBits]
theorem Tp {x k i t dst ty ps af g}(E:Fr a n l)[e:Ev l x (.int k i)] :
   (execOp a.eval ⟨dst,.unOp .xor t x,ty,ps,af,g⟩).run P w=.ok (.value (.int k (k.wrap ((BitVec.ofInt k.bits (if k.signed then -1 else k.max) ^^^ BitVec.ofInt k.bits i).toNat)))) w:=by
 simp[execOp,e.ev a n E,Op.unary,Op.intBits]
theorem Tq {x k i t dst ty ps af g}(E:Fr a n l)[e:Ev l x (.int k i)] :
   (execOp a.eval ⟨dst,.unOp .neg t x,ty,ps,af,g⟩).run P w=.ok (.value (.int k (k.wrap (0-i)))) w:=by
 simp[execOp,e.ev a n E,Op.unary,Op.intArith]
theorem Km {x y k i j t u dst ty ps af g}(E:Fr a n l)(h:j≠0)[e:Ev l x (.int k i)][f:Ev l y (.int k j)] :
   (execOp a.eval ⟨dst,.binOp .quo t x y u,ty,ps,af,g⟩).run P w=.ok (.value (.int k (k.wrap (i.tdiv j)))) w:=by
 simp[execOp,e.ev a n E,f.ev a n E,eqGuard,binOp,Op.intDiv,h]
theorem Ts {t t':TypeId} {ms}(ht:P.underlying t=some (.interface ms))(v:Value)(k:Nat):(Op.equalIn (k+1) t (.iface t' v) .nilIface).run P w=.ok false w:=by
 simp[Op.equalIn,eT ht]
theorem Tt {x t v t' ms u dst ty ps af g}(E:Fr a n l)(ht:P.underlying t=some (.interface ms))[e:Ev l x (.iface t' v)] :
   (execOp a.eval ⟨dst,.binOp .eql t x (.const .nilIface) u,ty,ps,af,g⟩).run P w=.ok (.value (.bool false)) w:=by
 have hc:a.eval (.const .nilIface)=.nilIface:=rfl;have h2:(Op.equal t (.iface t' v) .nilIface).run P w=.ok false w:=Ts ht v 9999;simp only[execOp,e.ev a n E,hc,Sem.run_bind];simp[eqGuard,binOp,h2]
theorem Tu {x t ej dst ty ps af g}(E:Fr a n l)(ht:P.underlying t=some ej)(hd:(match ej with | .interface _=>false | _=>true)=true)[e:Ev l x v] :
   (execOp a.eval ⟨dst,.makeInterface t x,ty,ps,af,g⟩).run P w=.ok (.value (.iface t v)) w:=by
 cases ej <;> first | (simp at hd) | skip
 all_goals simp[execOp,e.ev a n E,Instr.makeInterface,eT ht]
def pQ (P:Program)(t:TypeId)(name:String)(f:FuncId):Prop:=∀ (ad:Option Addr) (w:World),(method (P.types.size+Made.depth) t (.pointer ad) name).run P w=.ok (f,.pointer ad) w
theorem jU {x t ad name f args pR ty ps af g vs all}{X:Ending→World→Prop}(E:Fr a n l)(hw:Region.wanted ⟨some d,.call ⟨.invoke x name,List.toArray args,pR⟩,ty,ps,af,g⟩ (yielded ops a.tmps)=true)
   [ex:Ev l x (.iface t (.pointer ad))] (hm:pQ P t name f) (hb:hZ P f=true) (hf:okB d n l=true) [ev:nV l args vs] (hc:Calls P f (List.toArray all) w X) (iv:.pointer ad::vs=all)
   (h:∀ e w',X e w'→∃ v,e=.returned v∧∀ a',Fr a' n ((d,v)::l)→K a' w') :
   cK P ops Q ⟨some d,.call ⟨.invoke x name,List.toArray args,pR⟩,ty,ps,af,g⟩ K a w:=by
 subst iv;refine JN hw ?_ hc λe w' hx=>let ⟨v,he,hv⟩:=h e w' hx;⟨v,he,hv _ (E.put hf v)⟩;have h3:=hm ad w;simp[execOp,resolve,ex.ev a n E,invoke,callMethod,ev.ev a n E,h3,AX hb,program,Sem.run]
end
end
section
section
variable {P:Program}{a:Act}{w:World}{n:Nat}{l:List (Nat×Value)}{v:Value}
theorem Kn {x vs t f fs jg ej dst ty ps af g}(E:Fr a n l)(hu:P.underlying t=some (.struct fs))(hf:fs[f]?=some jg)(hd:P.underlying jg.type=some ej)(h1:oH ej=true)
   [ev:Ev l x (.agg (List.toArray vs))] (hv:vs[jg.offset]?=some v) :
   (execOp a.eval ⟨dst,.field t x f,ty,ps,af,g⟩).run P w=.ok (.value v) w:=by
 have yJ:(part jg.type vs.toArray jg.offset).run P w=.ok v w:=by
  have EA:(isAgg jg.type).run P w=.ok false w:=by
   simp only[isAgg,Sem.run_bind,eT hd,Result.andThen_ok];cases ej <;> first | rfl | (simp[oH]at h1)
  simp[part,EA,hv]
 simp[execOp,ev.ev a n E,Instr.field,eT hu,hf,asAgg,yJ]
end
end
section
section
variable {P:Program}{a:Act}{w W:World}{n:Nat}{l:List (Nat×Value)}{L R:List SP}
theorem EI {x u z3 k' yF i' yG j' n1 ad m c t el z sz a1 dst ty ps af g}(E:Fr a n l)(ht:P.underlying t=some (.slice el))(hi:TI P el z sz a1)[ev:Ev l x (.slice ad m c)][uT:Ev l u (.int k' i')][Em:Ev l z3 (.int yF yG)]
   [yD:ey i' j'] [En:ey yG n1] (h':j'≤n1) (SJ:n1≤c) :
   (execOp a.eval ⟨dst,.slice t x none (some u) (some z3),ty,ps,af,g⟩).run P w=.ok (.value (.slice (fw ad 0 n1 sz) j' n1)) w:=by
 have lN:=yD.h;subst lN;have Eo:=En.h;subst Eo;have e1:=(qJ ht).1;have e2:=(qJ ht).2;have:=run_slice_hm (P:=P) (w:=w) t ad m c e1 k' yF (j':Int) (n1:Int) (by omega) (by omega) (by omega);rw[e2,mL hi]at this;simp only[Result.andThen_ok,c9]at this;simp[execOp,ev.ev a n E,uT.ev a n E,Em.ev a n E,run_sliceAt_slice (P:=P) (w:=w) t _ _ _ _ e1,this,sliced,fw]
theorem U.Ko {e sz k c:Nat}{cs:List Value}(I:U W w L)(ad:Option Addr)(m:Nat)[pk:fX L ad k c e sz cs R](hm:m≤k):U W w (Sl e sz (fw ad 0 m sz) m m (cs.take (m*sz))::R):=by
 have h1:=I.perm pk.perm;rcases k8 m with h0 | h0
 ·subst h0;simpa using h1.tail.bQ e sz (fw ad 0 0 sz)
 ·have hc:=(I.sl ad);obtain⟨b,pre,post,⟨g1,nr,rN,ti⟩,h2⟩:=h1.mh (by omega);subst rN;rw[pK (by omega),Nat.zero_mul,Nat.add_zero];have mi:m*sz≤cs.length:=by rw[g1];exact oJ _ hm
  rw[show pre++cs++post=pre++cs.take (m*sz)++(cs.drop (m*sz)++post) from by
   conv=>lhs;rw[← j6 (m*sz) cs]
   simp only[dz]]at h2
  exact U.jh h2 (by rw[eA];omega) (a7 _) (by simp)
end
end
section
section
variable {P:Program}{ops:Array Oper}{Q:Exit→Act→World→Prop}{a:Act}{w w' W:World}{K:Act→World→Prop}{n d:Nat}{l:List (Nat×Value)}{L:List SP}
theorem rO {t el z sz a1 x y k k' i j ty ps af g}(E:Fr a n l)(hw:Region.wanted ⟨some d,.makeSlice t x y,ty,ps,af,g⟩ (yielded ops a.tmps)=true)(I:U W w L)(ht:P.underlying t=some (.slice el))
   (hi:TI P el z sz a1) (hf:okB d n l=true) (hb:a1*j≤281474976710656) (hj:j≤9223372036854775807) [e:Ev l x (.int k i)] [e2:Ev l y (.int k' i)] [nj:ey i j]
   (h:∀ b a' w',Fr a' n ((d,.slice (some ⟨b,0,none⟩) j j)::l)→U W w' (aa b el (madeCells z.cells (j*sz)).toList::L)→Old w w'→K a' w') :
   cK P ops Q ⟨some d,.makeSlice t x y,ty,ps,af,g⟩ K a w:=by
 have Tv:=nj.h;subst Tv;obtain⟨Kp,lM,dI,k7,qH⟩:=info_parts hi.h;have Tw:(Kp.bytes:Int)*(j:Int)≤281474976710656:=by
  rw[qH];have:((a1*j:Nat):Int)≤281474976710656:=by omega
  rwa [Int.natCast_mul]at this
 have hr:=run_make (P:=P) w t el Kp z ht lM dI k k' (j:Int) (j:Int) (by omega) (Int.le_refl _) Tw (by omega);rw[c9,k7]at hr;refine bA (v:=.slice (some ⟨w.heap.size,0,none⟩) j j) (w':=w.alloc (.cells (madeCells z.cells (j*sz)) el)) E hw ?_ hf (λa' di=>h _ _ _ di (by
  have:=I.alloc (.cells (madeCells z.cells (j*sz)) el);simpa [aa] using this) (Old.alloc _ _))
 simp[execOp,e.ev a n E,e2.ev a n E,hr]
end
end
section
class u1 (os:List Oper)(j:Nat)(s:outParam Nat):Prop where h:(os[j]?).bind (·.dst)=some s
instance u1.zero {s op ty ps af g r}:u1 (⟨some s,op,ty,ps,af,g⟩::r) 0 s:=⟨rfl⟩
instance u1.succ {o r j s}[h:u1 r j s]:u1 (o::r) (j+1) s:=⟨by rw[getElem?_cons_succ];exact h.h⟩
class oQ (os:List Oper)(j:Nat)(o:outParam Oper):Prop where h:os[j]?=some o
instance oQ.zero {o r}:oQ (o::r) 0 o:=⟨rfl⟩
instance oQ.succ {x r j o}[h:oQ r j o]:oQ (x::r) (j+1) o:=⟨by rw[getElem?_cons_succ];exact h.h⟩
class GB (v:Value)(b:Bool)(r:outParam Bool):Prop where h:((match v with | .bool c=>Option.some c | _=>none)==Option.some b)=r
instance GB.afp:GB (.bool true) true true:=⟨rfl⟩
instance GB.afq:GB (.bool true) false false:=⟨rfl⟩
instance GB.afr:GB (.bool false) true false:=⟨rfl⟩
instance GB.afs:GB (.bool false) false true:=⟨rfl⟩
instance GB.u {b}:GB undef b false:=⟨rfl⟩
class Gd (os:List Oper)(l:List (Nat×Value))(g:Option (Nat×Bool))(r:outParam Bool):Prop where
 h:∀ {a n},Fr a n l→∀ {dst op ty ps af},Region.wanted ⟨dst,op,ty,ps,af,g⟩ (yielded os.toArray a.tmps)=r
instance Gd.none {os l}:Gd os l none true:=⟨λ_=>rfl⟩
instance Gd.some {os l j b s v r}[d:u1 os j s][k:fv l s v][x:GB v b r]:Gd os l (some (j,b)) r:=⟨λ{a n} E dst op ty ps af=>by
 have h1:=E.has _ k.mem;have h2:(os.toArray[j]?).bind (·.dst)=Option.some s:=by rw[getElem?_toArray];exact d.h
 rw[← x.h];simp only[Region.wanted,yielded,h2,Option.bind_some,h1];cases v <;> rfl⟩
class rP (p q:Prop)(r:outParam Prop):Prop where h:r→p∧q
instance rP.l {q}:rP True q q:=⟨λh=>⟨trivial,h⟩⟩
instance rP.r {p}:rP p True p:=⟨λh=>⟨h,trivial⟩⟩
instance (priority:=low) rP.b {p q}:rP p q (p∧q):=⟨id⟩
class tj (cs:List Value)(i:Nat)(v:outParam Value):Prop where h:cs[i]?=some v
instance tj.zero {v cs}:tj (v::cs) 0 v:=⟨rfl⟩
instance tj.succ {c cs i v}[h:tj cs i v]:tj (c::cs) (i+1) v:=⟨by rw[getElem?_cons_succ];exact h.h⟩
instance tj.apZ {v xs ys}:tj ((v::xs)++ys) 0 v:=⟨rfl⟩
class nt (o j sz:Nat)(r:outParam Nat):Prop where h:o+j*sz=r
instance (priority:=10) nt.any {o j sz}:nt o j sz (o+j*sz):=⟨rfl⟩
instance (priority:=20) nt.one {o j}:nt o j 1 (o+j):=⟨by rw[fB]⟩
instance (priority:=25) nt.at0 {o sz}:nt o 0 sz (o+0):=⟨by rw[Nat.zero_mul]⟩
instance (priority:=50) nt.aft {sz}:nt 0 0 sz 0:=⟨by rw[Nat.zero_mul]⟩
instance (priority:=30) nt.zero {j sz}:nt 0 j sz (j*sz):=⟨ei _⟩
instance (priority:=40) nt.both {j}:nt 0 j 1 j:=⟨by omega⟩
class aI (P:Program)(t:TypeId)(d:outParam TypeDesc):Prop where h:P.underlying t=some d
theorem aI.of {P:Program}{t:TypeId}{d:TypeDesc}(h:P.underlying t=some d):aI P t d:=⟨h⟩
class nu (d:TypeDesc)(r:outParam Bool):Prop where h:oH d=r
instance Ex.afu {P:Program} {l x v1 v2 v3} [Ev l x (.tuple #[v1,v2,v3])]:Ex P l (.extract x 0) v1:=⟨λ_ _ E _ _ _ _ _ _=>oM E rfl⟩
instance Ex.afv {P:Program} {l x v1 v2 v3} [Ev l x (.tuple #[v1,v2,v3])]:Ex P l (.extract x 1) v2:=⟨λ_ _ E _ _ _ _ _ _=>oM E rfl⟩
instance Ex.afw {P:Program} {l x v1 v2 v3} [Ev l x (.tuple #[v1,v2,v3])]:Ex P l (.extract x 2) v3:=⟨λ_ _ E _ _ _ _ _ _=>oM E rfl⟩
instance:nu .bool true:=⟨rfl⟩
instance:nu .string true:=⟨rfl⟩
instance {k}:nu (.int k) true:=⟨rfl⟩
instance {t}:nu (.pointer t) true:=⟨rfl⟩
instance {t}:nu (.slice t) true:=⟨rfl⟩
instance {t u}:nu (.map t u) true:=⟨rfl⟩
instance {p r b}:nu (.func p r b) true:=⟨rfl⟩
instance {m}:nu (.interface m) true:=⟨rfl⟩
instance {f}:nu (.struct f) false:=⟨rfl⟩
instance {m t}:nu (.array m t) false:=⟨rfl⟩
class EJ (d:TypeDesc):Prop where h:(match d with | .interface _=>false | _=>true)=true
instance {t}:EJ (.pointer t):=⟨rfl⟩
instance {f}:EJ (.struct f):=⟨rfl⟩
class Kq (m:Nat)(k:outParam Nat):Prop where h:m=k+1
instance {k}:Kq (k+1) k:=⟨rfl⟩
class wR (fs:List Field)(f:Nat)(t k:outParam Nat):Prop where h:∃ jg,fs[f]?=some jg∧jg.type=t∧jg.offset=k
instance wR.zero {Tx t k e Tz pp ld r}:wR (⟨Tx,t,k,e,Tz,pp,ld⟩::r) 0 t k:=⟨_,rfl,rfl,rfl⟩
instance wR.succ {x r f t k}[h:wR r f t k]:wR (x::r) (f+1) t k:=⟨by rw[getElem?_cons_succ];exact h.h⟩
section
variable {P:Program}{t u el k sz a1 f:Nat}{d:TypeDesc}{z:Value}{fs:List Field}
instance [h:aI P t (.pointer el)]:yH P t:=⟨_,h.h⟩
instance [h:aI P t (.slice el)]:Es P t:=⟨_,h.h⟩
instance [h:aI P t d][g:nu d true]:Et P t:=⟨_,h.h,g.h⟩
instance {m:Nat}[h:aI P t (.struct fs.toArray)][g:wR fs f u k][hi:TI P u z m a1][q:Kq m sz]:Eu P t f k:=by
 obtain⟨jg,h1,h2,h3⟩:=g.h;rw[q.h]at hi;exact⟨_,jg,z,sz,a1,h.h,by rw[getElem?_toArray];exact h1,by rw[h2];exact hi,h3⟩
end
def Lk (L:List SP)(w:World):Prop:=∃ W w0,U W w0 L∧Old w0 w
theorem Lk.of {W w:World}{L:List SP}(I:U W w L):Lk L w:=⟨W,w,I,Old.refl _⟩
theorem Lk.nil (w:World):Lk [] w:=⟨w,w,U.start _,Old.refl _⟩
theorem Lk.bC {w:World}{L R:List SP}{b e off:Nat}{cs:List Value}{v:Value}(h:Lk L w)[k:fL L b e cs R](hv:cs[off]?=some v):w.cell? ⟨b,off,none⟩=some v:=by
 obtain⟨W,w0,I,ho⟩:=h;exact ho.cell (I.bC hv)
theorem Lk.qD {w:World}{L R:List SP}{b e off:Nat}{cs:List Value}(h:Lk L w)[k:fL L b e cs R](m:Nat){vs:List Value}[sc:mK cs off m vs]:Rd w b off vs:=by
 obtain⟨W,w0,I,ho⟩:=h;exact ho.rd (I.qD m)
instance mK.whole {cs m}[h:mO cs m]:mK cs 0 m cs:=⟨by rw[drop_zero,← h.h,lf]⟩
class u2 (ad:Option Addr)(r:outParam Bool):Prop where h:ad.isNone=r
instance u2.n:u2 none true:=⟨rfl⟩
instance u2.s {a}:u2 (some a) false:=⟨rfl⟩
instance (priority:=low) u2.any {ad}:u2 ad ad.isNone:=⟨rfl⟩
theorem Kr {P:Program}{a:Act}{w:World}{n:Nat}{l:List (Nat×Value)}{fn:Func} {t u x v v2 v3}{X:Ending→World→Prop}(E:Fr a n l)(hr:fn.results=#[.tmp t,.tmp u,.tmp x])[k:fv l t v][k2:fv l u v2][k3:fv l x v3](h:X (.returned (.tuple #[v,v2,v3])) w):bodyPost P fn X .ret a w:=by
 refine bodyPost_ret ?_ E.defers h;have h1:=E.has _ k.mem;have h2:=E.has _ k2.mem;have h3:=E.has _ k3.mem;simp[results,hr,Array.getD_eq_getD_getElem?,h1,h2,h3]
theorem Fr.ek {a:Act}{n:Nat}{l l':List (Nat×Value)}(E:Fr a n l)(s:Nat){b:Bool}[k:fv l s (.bool b)][e:g8 l s l'](h:b=true:=by first | rfl | decide):Fr a n ((s,.bool true)::l') :=
 E.bool (s:=s) (λ_ h=>h) (λe _=>by rw[h]at e;cases e)
theorem Fr.aQ {a:Act}{n:Nat}{l l':List (Nat×Value)}(E:Fr a n l)(s:Nat){b:Bool}[k:fv l s (.bool b)][e:g8 l s l'](h:b=false:=by first | rfl | decide):Fr a n ((s,.bool false)::l') :=
 E.bool (s:=s) (λe _=>by rw[h]at e;cases e) (λ_ h=>h)
class Sx (P:Program)(L:List SP)(l:List (Nat×Value))(op:Go.Op)(c:outParam Prop)(v:outParam Value):Prop where
 ex:c→∀ {a n w},Fr a n l→Lk L w→∀ {dst ty ps af g},(execOp a.eval ⟨dst,op,ty,ps,af,g⟩).run P w=.ok (.value v) w
section
variable {P:Program}{L R:List SP}{l:List (Nat×Value)}{x y z:Operand}{v u zv:Value}{k k':IntKind}{i j i':Int}{m m' rQ c:Nat}{t t' el sz a1 b off r:Nat}{ad:Option Addr}{s:ByteArray}{p q:Bool}{vs ws zs:List Value}
instance (priority:=high) Sx.of {op}[h:Ex P l op v]:Sx P L l op True v:=⟨λ_ _ _ _ E _ _ _ _ _ _=>h.ex _ _ E _ _ _ _ _ _⟩
instance Sx.afx [Ev l x (.bool true)] [Ev l y v]:Sx P L l (.pick x y z) True v:=⟨λ_ _ _ _ E _ _ _ _ _ _=>Rt E⟩
instance Sx.afy [Ev l x (.bool false)] [Ev l z v]:Sx P L l (.pick x y z) True v:=⟨λ_ _ _ _ E _ _ _ _ _ _=>Ru E⟩
instance Sx.load {e cs} [Ev l x (.pointer (some ⟨b,off,none⟩))][u:Et P t] [fL L b e cs R][n:tj cs off v]:Sx P L l (.load t x) True v :=
 ⟨λ_ _ _ _ E I _ _ _ _ _=>by obtain⟨ej,h1,h2⟩:=u.h;exact JJ E h1 h2 (I.bC n.h)⟩
instance Sx.afz {e cs d} [Ev l x (.pointer (some ⟨b,off,none⟩))][u:aI P t d][g:nu d false][hi:TI P t zv m a1] [fL L b e cs R] [mK cs off m vs][k:mO vs m]:Sx P L l (.load t x) True (.agg vs.toArray) :=
 ⟨λ_ _ _ _ E I _ _ _ _ _=>bT E u.h g.h (by rw[k.h];exact hi) (I.qD m)⟩
instance Sx.add [Ev l x (.int .i64 i)] [Ev l y (.int .i64 j)]:Sx P L l (.binOp .add t x y t') (-9223372036854775808≤i+j∧i+j≤9223372036854775807) (.int .i64 (i+j)) :=
 ⟨λh _ _ _ E _ _ _ _ _ _=>Rw E h.1 h.2⟩
instance Sx.sub [Ev l x (.int .i64 i)] [Ev l y (.int .i64 j)]:Sx P L l (.binOp .sub t x y t') (-9223372036854775808≤i-j∧i-j≤9223372036854775807) (.int .i64 (i-j)) :=
 ⟨λh _ _ _ E _ _ _ _ _ _=>Rx E h.1 h.2⟩
instance Sx.mul [Ev l x (.int .i64 i)] [Ev l y (.int .i64 j)]:Sx P L l (.binOp .mul t x y t') (-9223372036854775808≤i*j∧i*j≤9223372036854775807) (.int .i64 (i*j)) :=
 ⟨λh _ _ _ E _ _ _ _ _ _=>Ry E h.1 h.2⟩
instance (priority:=low) Sx.afA [Ev l x (.int k i)] [Ev l y (.int k j)]:Sx P L l (.binOp .add t x y t') (True) (.int k (k.wrap (i+j))):=⟨λ_ _ _ _ E _ _ _ _ _ _=>JH E⟩
instance (priority:=low) Sx.afB [Ev l x (.int k i)] [Ev l y (.int k j)]:Sx P L l (.binOp .sub t x y t') (True) (.int k (k.wrap (i-j))):=⟨λ_ _ _ _ E _ _ _ _ _ _=>AV E⟩
instance (priority:=low) Sx.afC [Ev l x (.int k i)] [Ev l y (.int k j)]:Sx P L l (.binOp .mul t x y t') (True) (.int k (k.wrap (i*j))):=⟨λ_ _ _ _ E _ _ _ _ _ _=>JI E⟩
instance Sx.rem [Ev l x (.int k i)] [Ev l y (.int k j)]:Sx P L l (.binOp .rem t x y t') (j≠0) (.int k (i.tmod j)):=⟨λg _ _ _ E _ _ _ _ _ _=>A6 E g⟩
instance Sx.or [Ev l x (.int k i)] [Ev l y (.int k j)]:Sx P L l (.binOp .or t x y t') (True) (.int k (k.wrap ((BitVec.ofInt k.bits i ||| BitVec.ofInt k.bits j).toNat))):=⟨λ_ _ _ _ E _ _ _ _ _ _=>Tm E⟩
instance Sx.and [Ev l x (.int k i)] [Ev l y (.int k j)]:Sx P L l (.binOp .and t x y t') (True) (.int k (k.wrap ((BitVec.ofInt k.bits i &&& BitVec.ofInt k.bits j).toNat))):=⟨λ_ _ _ _ E _ _ _ _ _ _=>Tn E⟩
instance (priority:=low) Sx.xor [Ev l x (.int k i)] [Ev l y (.int k j)]:Sx P L l (.binOp .xor t x y t') (True) (.int k (k.wrap ((BitVec.ofInt k.bits i ^^^ BitVec.ofInt k.bits j).toNat))):=⟨λ_ _ _ _ E _ _ _ _ _ _=>To E⟩
instance Sx.afD {i j:UInt8} [Ev l x (.int .u8 (i.toNat:Int))] [Ev l y (.int .u8 (j.toNat:Int))]:Sx P L l (.binOp .xor t x y t') True (.int .u8 ((i ^^^ j).toNat:Int)):=⟨λ_ _ _ _ E _ _ _ _ _ _=>SQ E⟩
instance Sx.min {uY} [Ev l x (.int k i)] [Ev l y (.int k j)]:Sx P L l (.call ⟨.builtin .min,#[x,y],uY⟩) (True) (.int k (min i j)):=⟨λ_ _ _ _ E _ _ _ _ _ _=>SG E⟩
instance Sx.max {uY} [Ev l x (.int k i)] [Ev l y (.int k j)]:Sx P L l (.call ⟨.builtin .max,#[x,y],uY⟩) (True) (.int k (max i j)):=⟨λ_ _ _ _ E _ _ _ _ _ _=>SH E⟩
instance Sx.shl [Ev l x (.int k i)] [Ev l y (.int k' j)] [ey j m]:Sx P L l (.binOp .shl t x y t') (m≤k.bits) (.int k (k.wrap (i*2 ^ m))):=⟨λg _ _ _ E _ _ _ _ _ _=>Kl E g⟩
instance Sx.shr [Ev l x (.int k i)] [Ev l y (.int k' j)] [ey j m]:Sx P L l (.binOp .shr t x y t') (m≤k.bits) (.int k (i.fdiv (2 ^ m))):=⟨λg _ _ _ E _ _ _ _ _ _=>Tk E g⟩
instance Sx.com [Ev l x (.int k i)]:Sx P L l (.unOp .xor t x) True (.int k (k.wrap ((BitVec.ofInt k.bits (if k.signed then -1 else k.max) ^^^ BitVec.ofInt k.bits i).toNat))):=⟨λ_ _ _ _ E _ _ _ _ _ _=>Tp E⟩
instance Sx.neg [Ev l x (.int k i)]:Sx P L l (.unOp .neg t x) True (.int k (k.wrap (0-i))):=⟨λ_ _ _ _ E _ _ _ _ _ _=>Tq E⟩
instance Sx.afE [h:aI P t (.slice el)] [Ev l x (.slice ad m c)][q:u2 ad p]:Sx P L l (.binOp .eql t x (.const (.slice none 0 0)) t') True (.bool p):=⟨λ_ _ _ _ E _ _ _ _ _ _=>by rw[← q.h];exact SL E h.h⟩
instance Sx.afF [h:aI P t .string] [Ev l x (.string s)]:Sx P L l (.call ⟨.builtin .len,#[x],#[t]⟩) (True) (.int .i64 s.size):=⟨λ_ _ _ _ E _ _ _ _ _ _=>Tj E h.h⟩
instance Sx.afG [h:aI P t .bool] [Ev l x (.bool p)] [Ev l y (.bool q)]:Sx P L l (.binOp .eql t x y t') (True) (.bool (p==q)):=⟨λ_ _ _ _ E _ _ _ _ _ _=>SE E h.h⟩
instance Sx.afH [h:aI P t .bool] [Ev l x (.bool p)] [Ev l y (.bool q)]:Sx P L l (.binOp .neq t x y t') (True) (.bool (p != q)):=⟨λ_ _ _ _ E _ _ _ _ _ _=>SF E h.h⟩
instance Sx.afI {fn xs ys} [nV l xs vs] [nV l ys ws]:Sx P L l (.makeFunc fn xs.toArray ys.toArray) (True) (.func fn vs.toArray ws.toArray):=⟨λ_ _ _ _ E _ _ _ _ _ _=>RS E⟩
instance Sx.afJ {d}[h:aI P t d][g:EJ d] [Ev l x v]:Sx P L l (.makeInterface t x) (True) (.iface t v):=⟨λ_ _ _ _ E _ _ _ _ _ _=>Tu E h.h (by have:=g.h;cases d <;> first | rfl | (simp at this))⟩
instance Sx.afK {ms}[h:aI P t (.interface ms)] [Ev l x (.iface m v)]:Sx P L l (.binOp .eql t x (.const .nilIface) t') (True) (.bool false):=⟨λ_ _ _ _ E _ _ _ _ _ _=>Tt E h.h⟩
instance Sx.index [h:aI P t (.slice el)][hi:TI P el zv sz a1] [Ev l x (.slice (some ⟨b,off,none⟩) m c)] [Ev l y (.int k i)] [ey i m'][q:nt off m' sz r]:Sx P L l (.indexAddr t x y) (m'<m) (.pointer (some ⟨b,r,none⟩)):=⟨λg _ _ _ E _ _ _ _ _ _=>by rw[← q.h];exact JM E h.h hi g⟩
instance Sx.afL [h:aI P t (.array m el)][hi:TI P el zv sz a1] [Ev l x (.pointer (some ⟨b,off,none⟩))] [Ev l y (.int k i)] [ey i m'][q:nt off m' sz r]:Sx P L l (.indexAddr t x y) (m'<m) (.pointer (some ⟨b,r,none⟩)):=⟨λg _ _ _ E _ _ _ _ _ _=>by rw[← q.h];exact RP E h.h hi g⟩
instance Sx.afM [h:aI P t (.slice el)][hi:TI P el zv sz a1] [Ev l x (.slice ad m c)] [Ev l y (.int k i)] [ey i m']:Sx P L l (.slice t x (some y) none none) (m'≤m) (.slice (fw ad m' c sz) (m-m') (c-m')):=⟨λg _ _ _ E _ _ _ _ _ _=>R9 E h.h hi g⟩
instance Sx.afN [h:aI P t (.slice el)][hi:TI P el zv sz a1] [Ev l x (.slice ad m c)] [Ev l y (.int k i)] [ey i m']:Sx P L l (.slice t x none (some y) none) (m'≤c) (.slice (fw ad 0 c sz) (m'-0) (c-0)):=⟨λg _ _ _ E _ _ _ _ _ _=>Sa E h.h hi g⟩
instance Sx.afO [h:aI P t (.slice el)][hi:TI P el zv sz a1] [Ev l x (.slice ad m c)] [Ev l y (.int k i)] [ey i m'] [Ev l z (.int k' i')] [ey i' rQ]:Sx P L l (.slice t x (some y) (some z) none) (m'≤rQ∧rQ≤c) (.slice (fw ad m' c sz) (rQ-m') (c-m')):=⟨λg _ _ _ E _ _ _ _ _ _=>Sb E h.h hi g.1 g.2⟩
instance Sx.afP [h:aI P t (.slice el)][hi:TI P el zv sz a1] [Ev l x (.slice ad m c)] [Ev l y (.int k i)] [ey i m'] [Ev l z (.int k' i')] [ey i' rQ]:Sx P L l (.slice t x none (some y) (some z)) (m'≤rQ∧rQ≤c) (.slice (fw ad 0 rQ sz) m' rQ):=⟨λg _ _ _ E _ _ _ _ _ _=>EI E h.h hi g.1 g.2⟩
instance Sx.afQ [h:aI P t (.array m el)][hi:TI P el zv sz a1] [Ev l x (.pointer (some ⟨b,off,none⟩))]:Sx P L l (.slice t x none none none) (True) (.slice (some ⟨b,off,none⟩) m m):=⟨λ_ _ _ _ E _ _ _ _ _ _=>Te E h.h hi⟩
instance Sx.conv [h:aI P t (.int k)][q:aI P t' (.int k')] [Ev l x (.int k i)]:Sx P L l (.convert t t' x) (k'.wrap i=i) (.int k' i):=⟨λg _ _ _ E _ _ _ _ _ _=>pO E h.h q.h g⟩
instance Sx.build {kJ parts}[hb:ep P t kJ][hi:TI P t zv sz a1] [Cells zv zs] [uX kJ zs l parts vs]:Sx P L l (.build t (List.toArray parts)) ((kJ.all λp=>Nat.ble (p.1+p.2) zs.length)=true) (.agg vs.toArray):=⟨λg _ _ _ E _ _ _ _ _ _=>Kd E hb hi g⟩
end
def Hd (C:World→Prop)(L:List SP):Prop:=∀ w',C w'→Lk L w'
theorem Hd.any (C:World→Prop):Hd C []:=λw' _=>Lk.nil w'
theorem Hd.gw {W w:World}{L:List SP}(I:U W w L):Hd (Old w) L:=λ_ h=>⟨W,w,I,h⟩
def CN (b:Bool)(C:World→Prop)(K:Act→World→Prop):Act→World→Prop:=λa w=>(b=true→C w)∧K a w
def tk (X:Ending→World→Prop)(v:Value):Act→World→Prop:=λ_ w=>X (.returned v) w
def rR (P:Program)(rs:List ResultVar)(X:Ending→World→Prop):Exit→Act→World→Prop:=λe a w=>∀ fn:Func,fn.results=rs.toArray→bodyPost P fn X e a w
class nv (Q:Exit→Act→World→Prop):Prop where h:lO Q
instance {K Q}[h:nv Q]:nv (Exit.then K Q):=⟨Sf h.h⟩
instance {i Q}[h:nv Q]:nv (Exit.inBlock i Q):=⟨Sg h.h⟩
instance {P rs X}:nv (rR P rs X):=⟨λc a o v w h fn hr=>Sh c a o v w (h fn hr)⟩
class A9 (P:Program):Prop where h:P.follows .mixedOrders=true
class Rn (k n:Nat)(C:World→Prop)(L0 L:List SP)(l:List (Nat×Value))(X:Act→World→Prop)(b:outParam Bool)(c:outParam Prop)(l':outParam (List (Nat×Value)))(Y:outParam (Act→World→Prop)):Prop where
 rn:b=true→c→∀ {a W w},Fr a n l→U W w L→Hd C L0∧C w→(∀ a,Fr a n l'→Y a w)→X a w
class Way (v:Value)(x y:Code)(z:outParam Code):Prop where h:∃ b,v=.bool b∧z=if b then x else y
instance {x y}:Way (.bool true) x y x:=⟨true,rfl,rfl⟩
instance {x y}:Way (.bool false) x y y:=⟨false,rfl,rfl⟩
def EK (os:List Oper)(m i:Nat):Bool:=match Region.ready .any os.toArray (lb os.toArray.size m) with | [j]=>Nat.beq j i | _=>false
theorem TA {os:List Oper}{m i:Nat}(h:EK os m i=true):Region.ready .any os.toArray (lb os.toArray.size m)=[i]:=by
 unfold EK at h;split at h
 ·rename_i j e;rw[e,Nat.eq_of_beq_eq_true h]
 ·cases h
def TB (os:List Oper)(m:Nat):Bool:=(Region.ready .any os.toArray (lb os.toArray.size m)).isEmpty
section
variable {P:Program}{k n d i j m fuel:Nat}{C C2:World→Prop}{L0 L:List SP}{l l1 l':List (Nat×Value)}{X Y K:Act→World→Prop}{b b2:Bool}{c eW c2:Prop}{os rest:List Oper}{Q:Exit→Act→World→Prop}{op:Go.Op}{v:Value}{ty:TypeId}{ps:String}{af:Array Edge}{g:Option (Nat×Bool)}{x y z:Code}{o:Operand}{bk od:List Nat}
instance (priority:=1) Rn.stop:Rn 0 n C L0 L l X true True l X:=⟨λ_ _ _ _ _ E _ _ h=>h _ E⟩
instance Rn.oper [e:Gd os l g true][s:Sx P L l op eW v][q:g8 l d l1][r:Rn k n C L0 L ((d,v)::l1) K b2 c2 l' Y][p:rP eW c2 c] :
   Rn (k+1) n C L0 L l (cK P os.toArray Q ⟨some d,op,ty,ps,af,g⟩ K) (okB d n l1&&b2) c l' Y:=⟨λhb hc a W w E I hx h=>by
 rw[fK]at hb;obtain⟨h1,h2⟩:=p.h hc;exact bA (E.del d) (e.h E) (s.ex h1 E (Lk.of I)) hb.1 λa E=>r.rn hb.2 h2 E I hx h⟩
instance Rn.off {jb}[e:Gd os l (some jb) false][q:g8 l d l1][r:Rn k n C L0 L ((d,undef)::l1) K b2 c l' Y] :
   Rn (k+1) n C L0 L l (cK P os.toArray Q ⟨some d,op,ty,ps,af,some jb⟩ K) (okB d n l1&&b2) c l' Y:=⟨λhb hc a W w E I hx h=>by
 rw[fK]at hb;exact Rp (E.del d) (e.h E) hb.1 λa E=>r.rn hb.2 hc E I hx h⟩
instance Rn.cons {ops}{o:Oper}[r:Rn k n C L0 L l (cK P ops Q o (wpList P ops Q rest)) b c l' Y]:Rn k n C L0 L l (wpList P ops Q (o::rest)) b c l' Y:=⟨λhb hc _ _ _ E I hx h=>(r.rn hb hc E I hx h)⟩
instance Rn.nil {ops}[r:Rn k n C L0 L l (Q .normal) b c l' Y]:Rn k n C L0 L l (wpList P ops Q []) b c l' Y:=⟨λhb hc _ _ _ E I hx h=>SR (r.rn hb hc E I hx h)⟩
instance Rn.seq [r:Rn k n C L0 L l (x.wp P (Exit.then (y.wp P Q) Q)) b c l' Y]:Rn (k+1) n C L0 L l ((Code.seq x y).wp P Q) b c l' Y:=⟨λhb hc _ _ _ E I hx h=>wp_seq (r.rn hb hc E I hx h)⟩
instance Rn.region {id}[r:Rn k n C L0 L l (wpList P os.toArray Q os) b c l' Y]:Rn k n C L0 L l ((Code.region id os.toArray false).wp P Q) b c l' Y:=⟨λhb hc _ _ _ E I hx h=>wp_region_lit (r.rn hb hc E I hx h)⟩
instance Rn.skip [r:Rn k n C L0 L l (Q .normal) b c l' Y]:Rn k n C L0 L l (Code.skip.wp P Q) b c l' Y:=⟨λhb hc _ _ _ E I hx h=>wp_skip (r.rn hb hc E I hx h)⟩
instance Rn.block [r:Rn k n C L0 L l (x.wp P (Exit.inBlock i Q)) b c l' Y]:Rn k n C L0 L l ((Code.block i x).wp P Q) b c l' Y:=⟨λhb hc _ _ _ E I hx h=>wp_block (r.rn hb hc E I hx h)⟩
instance Rn.exit [r:Rn k n C L0 L l (Q (.exit i)) b c l' Y]:Rn k n C L0 L l ((Code.exit i).wp P Q) b c l' Y:=⟨λhb hc _ _ _ E I hx h=>wp_exit (r.rn hb hc E I hx h)⟩
instance Rn.ret [r:Rn k n C L0 L l (Q .ret) b c l' Y]:Rn k n C L0 L l (Code.ret.wp P Q) b c l' Y:=⟨λhb hc _ _ _ E I hx h=>wp_ret (r.rn hb hc E I hx h)⟩
instance Rn.cond [e:Ev l o v][q:Way v x y z][r:Rn k n C L0 L l (z.wp P Q) b c l' Y]:Rn (k+1) n C L0 L l ((Code.cond o x y).wp P Q) b c l' Y:=⟨λhb hc _ _ _ E I hx h=>by
 obtain⟨t,rfl,rfl⟩:=q.h;exact wp_cond (e.ev _ _ E) (r.rn hb hc E I hx h)⟩
instance Rn.afR [r:Rn k n C L0 L l (K) b c l' Y]:Rn k n C L0 L l (Exit.then K Q .normal) b c l' Y:=⟨λhb hc _ _ _ E I hx h=>TN (r.rn hb hc E I hx h)⟩
instance Rn.afS [r:Rn k n C L0 L l (Q .ret) b c l' Y]:Rn k n C L0 L l (Exit.then K Q .ret) b c l' Y:=⟨λhb hc _ _ _ E I hx h=>TR (r.rn hb hc E I hx h)⟩
instance Rn.afT [r:Rn k n C L0 L l (Q (.exit i)) b c l' Y]:Rn k n C L0 L l (Exit.then K Q (.exit i)) b c l' Y:=⟨λhb hc _ _ _ E I hx h=>TE (r.rn hb hc E I hx h)⟩
instance Rn.afU [r:Rn k n C L0 L l (Q .normal) b c l' Y]:Rn k n C L0 L l (Exit.inBlock i Q .normal) b c l' Y:=⟨λhb hc _ _ _ E I hx h=>SU (r.rn hb hc E I hx h)⟩
instance Rn.afV [r:Rn k n C L0 L l (Q .ret) b c l' Y]:Rn k n C L0 L l (Exit.inBlock i Q .ret) b c l' Y:=⟨λhb hc _ _ _ E I hx h=>SV (r.rn hb hc E I hx h)⟩
instance (priority:=high) Rn.afW [r:Rn k n C L0 L l (Q .normal) b c l' Y]:Rn k n C L0 L l (Exit.inBlock i Q (.exit i)) b c l' Y:=⟨λhb hc _ _ _ E I hx h=>RX (r.rn hb hc E I hx h)⟩
instance Rn.afX [r:Rn k n C L0 L l (Q (.exit j)) b c l' Y]:Rn k n C L0 L l (Exit.inBlock i Q (.exit j)) (!Nat.beq j i&&b) c l' Y:=⟨λhb hc _ _ _ E I hx h=>by
 rw[fK,Bool.not_eq_true']at hb;exact RY hb.1 (r.rn hb.2 hc E I hx h)⟩
variable {t u r3:Nat}{v2 v3 zv:Value}{vs cs:List Value}{R:Ending→World→Prop}{bb off e sz a1:Nat}{RR:List SP}{ej:TypeDesc}
instance Rn.JR:Rn 0 n C L0 L l (rR P [] R .normal) true True l (tk R (.tuple #[])):=⟨λ_ _ _ _ _ E _ _ h _ hr=>Go.Proofs.YteoldcfapaiobaaGreat.JR E hr (h _ E)⟩
instance Rn.JQ:Rn 0 n C L0 L l (rR P [] R .ret) true True l (tk R (.tuple #[])):=⟨λ_ _ _ _ _ E _ _ h _ hr=>Go.Proofs.YteoldcfapaiobaaGreat.JQ E hr (h _ E)⟩
instance Rn.JO [fv l t v]:Rn 0 n C L0 L l (rR P [.tmp t] R .ret) true True l (tk R v):=⟨λ_ _ _ _ _ E _ _ h _ hr=>Go.Proofs.YteoldcfapaiobaaGreat.JO E hr (h _ E)⟩
instance Rn.JP [fv l t v] [fv l u v2]:Rn 0 n C L0 L l (rR P [.tmp t,.tmp u] R .ret) true True l (tk R (.tuple #[v,v2])):=⟨λ_ _ _ _ _ E _ _ h _ hr=>Go.Proofs.YteoldcfapaiobaaGreat.JP E hr (h _ E)⟩
instance Rn.Kr [fv l t v] [fv l u v2] [fv l r3 v3]:Rn 0 n C L0 L l (rR P [.tmp t,.tmp u,.tmp r3] R .ret) true True l (tk R (.tuple #[v,v2,v3])):=⟨λ_ _ _ _ _ E _ _ h _ hr=>Go.Proofs.YteoldcfapaiobaaGreat.Kr E hr (h _ E)⟩
instance Rn.afY [fv l t (.pointer (some ⟨bb,off,none⟩))][q:aI P u ej][p2:nu ej false][hi:TI P u zv sz a1] [fL L bb e cs RR] [mK cs off sz vs][p:mO vs sz]:Rn 0 n C L0 L l (rR P [.cell t u] R .ret) true True l (tk R (.agg vs.toArray)):=⟨λ_ _ _ _ _ E I _ h _ hr =>
 Go.Proofs.YteoldcfapaiobaaGreat.RU E hr (Eg q.h p2.h (by rw[p.h];exact hi) (I.qD sz)) (h _ E)⟩
instance Rn.afZ [fv l t (.pointer (some ⟨bb,off,none⟩))][q:aI P u ej][p2:nu ej false][hi:TI P u zv sz a1] [fL L bb e cs RR] [mK cs off sz vs][p:mO vs sz] [fv l r3 v2]:Rn 0 n C L0 L l (rR P [.cell t u,.tmp r3] R .ret) true True l (tk R (.tuple #[.agg vs.toArray,v2])):=⟨λ_ _ _ _ _ E I _ h _ hr =>
 Go.Proofs.YteoldcfapaiobaaGreat.RV E hr (Eg q.h p2.h (by rw[p.h];exact hi) (I.qD sz)) (h _ E)⟩
instance Rn.u3 [r:Rn k n C L0 L l K b c l' Y]:Rn k n C L0 L l (CN b2 C K) b c l' Y:=⟨λhb hc _ _ _ E I hx h=>⟨λ_=>hx.2,r.rn hb hc E I hx h⟩⟩
instance (priority:=low) Rn.cnF [r:Rn k n C L0 L l K b c l' Y]:Rn k n C L0 L l (CN b2 C2 K) (!b2&&b) c l' Y:=⟨λhb hc _ _ _ E I hx h=>by
 rw[fK,Bool.not_eq_true']at hb;exact⟨λe=>(by rw[hb.1]at e;cases e),r.rn hb.2 hc E I hx h⟩⟩
instance Rn.one {o}[p:oQ os i o][r:Rn k n C L0 L l (cK P os.toArray Q o (CN (bk.contains i) C2 (gm P os.toArray Q C2 bk od fuel (mP m i)))) b c l' Y] :
   Rn k n C L0 L l (gm P os.toArray Q C2 bk ((i+1000)::od) (fuel+1) m) (EK os m i&&b) c l' Y:=⟨λhb hc a W w E I hx h=>by
 rw[fK]at hb;show gm P os.toArray Q C2 bk (i::od) (fuel+1) m a w;exact SW (by rw[getElem?_toArray];exact p.h) (r.rn hb.2 hc E I hx h) (TA hb.1)⟩
instance (priority:=low) Rn.pure [p:oQ os i ⟨some d,op,ty,ps,af,g⟩][pk:nv Q][e:Gd os l g true][s:Sx P [] l op eW v][q:g8 l d l1][r:Rn k n C L0 L ((d,v)::l1) (gm P os.toArray Q C2 bk od fuel (mP m i)) b2 c2 l' Y][EL:rP eW c2 c] :
   Rn (k+1) n C L0 L l (gm P os.toArray Q C2 bk (i::od) (fuel+1) m) (np os.toArray (lb os.toArray.size m) bk true i&&!bk.contains i&&okB d n l1&&b2) c l' Y:=⟨λhb hc a W w E I hx h=>by
 simp only[fK,Bool.not_eq_true']at hb;obtain⟨h1,h2⟩:=EL.h hc;exact J9 (qN _ _ _) (by rw[getElem?_toArray];exact p.h) hb.1.1.1 hb.1.1.2 pk.h (E.del d) (e.h E) (λw=>s.ex h1 E (Lk.nil w)) hb.1.2 λa E=>r.rn hb.2 h2 E I hx h⟩
instance (priority:=low) Rn.af0 {jb}[p:oQ os i ⟨some d,op,ty,ps,af,some jb⟩][pk:nv Q][e:Gd os l (some jb) false][q:g8 l d l1][r:Rn k n C L0 L ((d,undef)::l1) (gm P os.toArray Q C2 bk od fuel (mP m i)) b2 c l' Y] :
   Rn (k+1) n C L0 L l (gm P os.toArray Q C2 bk (i::od) (fuel+1) m) (np os.toArray (lb os.toArray.size m) bk true i&&!bk.contains i&&okB d n l1&&b2) c l' Y:=⟨λhb hc a W w E I hx h=>by
 simp only[fK,Bool.not_eq_true']at hb;exact Sr (qN _ _ _) (by rw[getElem?_toArray];exact p.h) hb.1.1.1 hb.1.1.2 pk.h (E.del d) (e.h E) hb.1.2 λa E=>r.rn hb.2 hc E I hx h⟩
instance (priority:=high) Rn.held [p:oQ os i ⟨some d,op,ty,ps,af,g⟩][pk:nv Q][e:Gd os l g true][s:Sx P L0 l op eW v][q:g8 l d l1][r:Rn k n C L0 L ((d,v)::l1) (gm P os.toArray Q C bk od fuel (mP m i)) b2 c2 l' Y][EL:rP eW c2 c] :
   Rn (k+1) n C L0 L l (gm P os.toArray Q C bk ((i+3000)::od) (fuel+1) m) (np os.toArray (lb os.toArray.size m) bk false i&&okB d n l1&&b2) c l' Y:=⟨λhb hc a W w E I hx h=>by
 simp only[fK]at hb;obtain⟨h1,h2⟩:=EL.h hc;exact Ka (qN _ _ _) (by rw[getElem?_toArray];exact p.h) hb.1.1 pk.h (E.del d) (e.h E) (λw hw=>s.ex h1 E (hx.1 w hw)) hx.2 hb.1.2 λa E=>r.rn hb.2 h2 E I hx h⟩
instance (priority:=high) Rn.af1 {jb}[p:oQ os i ⟨some d,op,ty,ps,af,some jb⟩][pk:nv Q][e:Gd os l (some jb) false][q:g8 l d l1][r:Rn k n C L0 L ((d,undef)::l1) (gm P os.toArray Q C bk od fuel (mP m i)) b2 c l' Y] :
   Rn (k+1) n C L0 L l (gm P os.toArray Q C bk ((i+3000)::od) (fuel+1) m) (np os.toArray (lb os.toArray.size m) bk false i&&okB d n l1&&b2) c l' Y:=⟨λhb hc a W w E I hx h=>by
 simp only[fK]at hb;exact Ss (qN _ _ _) (by rw[getElem?_toArray];exact p.h) hb.1.1 pk.h (E.del d) (e.h E) hx.2 hb.1.2 λa E=>r.rn hb.2 hc E I hx h⟩
instance Rn.done [r:Rn k n C L0 L l (Q .normal) b c l' Y]:Rn k n C L0 L l (gm P os.toArray Q C2 bk [] fuel m) (TB os m&&b) c l' Y:=⟨λhb hc _ _ _ E I hx h=>by
 rw[fK]at hb;exact S5 (r.rn hb.2 hc E I hx h) (List.isEmpty_iff.1 hb.1)⟩
class Zp (vs:List Value)(ks:List Nat)(l:outParam (List (Nat×Value))):Prop where h:ks.zip vs=l
instance Zp.nil {ks}:Zp [] ks []:=⟨by simp⟩
instance Zp.cons {v vs k ks l}[h:Zp vs ks l]:Zp (v::vs) (k::ks) ((k,v)::l):=⟨by rw[List.zip_cons_cons,h.h]⟩
class App (xs ys:List Value)(zs:outParam (List Value)):Prop where h:xs++ys=zs
instance App.nil {ys}:App [] ys ys:=⟨rfl⟩
instance App.cons {x xs ys zs}[h:App xs ys zs]:App (x::xs) ys (x::zs):=⟨by rw[cons_append,h.h]⟩
instance Zp.app {xs ys zs ks l}[q:App xs ys zs][h:Zp zs ks l]:Zp (xs++ys) ks l:=⟨by rw[q.h];exact h.h⟩
class tl (n:Nat)(l:List (Nat×Value))(d:Option Tmp)(b:outParam Bool)(F:outParam (Value→List (Nat×Value))):Prop where h:b=true→∀ {a v},Fr a n l→Fr (a.put d v) n (F v)
instance tl.some {n l d l1}[q:g8 l d l1]:tl n l (some d) (okB d n l1) (λv=>(d,v)::l1):=⟨λh _ v E=>(E.del d).put h v⟩
class oR (P:Program)(l:List (Nat×Value))(ce:Callee)(args:List Operand)(f:outParam Nat)(vs:outParam (List Value)):Prop where
 h:hZ P f=true→∀ {a n w},Fr a n l→∀ {dst pR ty ps af g},(execOp a.eval ⟨dst,.call ⟨ce,args.toArray,pR⟩,ty,ps,af,g⟩).run P w=.ok (.enter f vs.toArray) w
instance oR.fn {P l f args vs}[ev:nV l args vs]:oR P l (.value (.func f)) args f vs:=⟨λhb a n w E _ _ _ _ _ _=>by
 have h2:a.eval (.func f)=.func (.func f) #[] #[]:=rfl;simp[execOp,resolve,h2,Deferred.ofValue,invoke,ev.ev a n E,AX hb]⟩
instance oR.kM {P l x f us args vs zs}[ex:Ev l (.tmp x) (.func (.func f) #[] (List.toArray us))][ev:nV l args vs][q:App vs us zs]:oR P l (.value (.tmp x)) args f zs:=⟨λhb a n w E _ _ _ _ _ _=>by
 rw[← q.h];simp[execOp,resolve,ex.ev a n E,Deferred.ofValue,invoke,ev.ev a n E,AX hb]⟩
class tm (vs:List Value):Prop where h:∀ v∈vs,v.oneCell'=true
instance tm.nil:tm []:=⟨by simp⟩
instance tm.ints {k m g}:tm (ints k m g):=⟨u0⟩
class One (v:Value):Prop where h:v.oneCell'=true
instance {k i}:One (.int k i):=⟨rfl⟩
instance {b}:One (.bool b):=⟨rfl⟩
instance {s}:One (.string s):=⟨rfl⟩
instance {p}:One (.pointer p):=⟨rfl⟩
instance {p n c}:One (.slice p n c):=⟨rfl⟩
instance {t v}:One (.iface t v):=⟨rfl⟩
instance tm.cons {v vs}[h:One v][k:tm vs]:tm (v::vs):=⟨λx hx=>by
 rcases List.mem_cons.1 hx with rfl | hx
 ·exact h.h
 ·exact k.h x hx⟩
variable {a:Act}{w W:World}{l2:List (Nat×Value)}{p q:Prop}{bp:Bool}{F:Value→List (Nat×Value)}{dst:Option Tmp}{ce:Callee}{args:List Operand}{f:Nat}{pR:Array TypeId}{xo Ba:Operand}
abbrev j8:World→Prop:=λ_=>True
theorem lg {w:World}:Hd j8 []∧j8 w:=⟨Hd.any _,trivial⟩
theorem EN {fn:Func}{Kt:Code}{rs:List ResultVar}{X:Ending→World→Prop}(hf:P.funcs[f]?=some fn)(hn:fn.ntmps=m)(hb:fn.body=some Kt)(hr:fn.results=rs.toArray)[z:Zp vs [0,1,2,3,4,5,6,7,8,9,10,11] l](h:∀ a,Fr a m l→Kt.wp P (rR P rs X) a w)
   (hm:(Nat.ble vs.length m&&Nat.ble vs.length 12)=true:=by rfl):Calls P f vs.toArray w X:=by
 rw[fK]at hm;refine RW hf hb hn (Nat.le_of_ble_eq_true hm.1) λa E=>wp_mono (h a ?_) λ_ _ _ hq=>hq fn hr;have EM:=Nat.le_of_ble_eq_true hm.2;rw[← z.h];have e:((List.range vs.length).zip vs)=[0,1,2,3,4,5,6,7,8,9,10,11].zip vs:=by
  have h3:[0,1,2,3,4,5,6,7,8,9,10,11]=List.range (vs.length+(12-vs.length)):=by rw[show vs.length+(12-vs.length)=12 from by omega];rfl
  rw[h3,List.range_add];have h4:=List.zip_append (l₁:=List.range vs.length) (l₂:=vs) (r₁:=(List.range (12-vs.length)).map (vs.length+·)) (r₂:=[]) (by simp);rw[append_nil]at h4;rw[h4];simp
 rw[← e];exact E
theorem RN (k:Nat)(E:Fr a n l)(I:U W w L)[r:Rn k n j8 [] L l X b c l' Y](h:∀ a,Fr a n l'→Y a w)(hb:b=true:=by kernel_rfl)(hc:c:=by (repeat' refine And.intro ?_ ?_) <;> first | exact True.intro | omega | exact (rfl:_=_) | decide):X a w:=r.rn hb hc E I lg h
theorem RH (k:Nat)(E:Fr a n l)(I:U W w L)(hH:Hd C L0)(hC:C w)[r:Rn k n C L0 L l X b c l' Y](h:∀ a,Fr a n l'→Y a w)(hb:b=true:=by kernel_rfl)(hc:c:=by (repeat' refine And.intro ?_ ?_) <;> first | exact True.intro | omega | exact (rfl:_=_) | decide):X a w:=r.rn hb hc E I ⟨hH,hC⟩ h
theorem RT (k:Nat)(E:Fr a n l)(I:U W w L)[r:Rn k n j8 [] L l X b c l' (tk R v)](h:R (.returned v) w)(hb:b=true:=by kernel_rfl)(hc:c:=by (repeat' refine And.intro ?_ ?_) <;> first | exact True.intro | omega | exact (rfl:_=_) | decide):X a w:=r.rn hb hc E I lg λ_ _=>h
theorem IF (k:Nat)(E:Fr a n l)(I:U W w L)[r:Rn k n j8 [] L l X b c l1 ((Code.cond (.tmp t) x y).wp P Q)][g1:fv l1 t (.bool b2)][nr:g8 l1 t l2][rN:BP b2 p q]
   (ht:p→∀ a,Fr a n ((t,.bool true)::l2)→x.wp P Q a w) (hf:q→∀ a,Fr a n ((t,.bool false)::l2)→y.wp P Q a w) (hb:b=true:=by kernel_rfl) (hc:c:=by (repeat' refine And.intro ?_ ?_) <;> first | exact True.intro | omega | exact (rfl:_=_) | decide):X a w :=
 r.rn hb hc E I lg λa E=>E.by (s:=t) (λh E=>JS E (ht h _ E)) (λh E=>JT E (hf h _ E))
theorem TC (k:Nat)(E:Fr a n l)(I:U W w L)[r:Rn k n j8 [] L l X b c l1 ((Code.cond (.tmp t) x y).wp P Q)][g1:fv l1 t (.bool b2)][nr:g8 l1 t l2]
   (ht:b2=true→∀ a,Fr a n ((t,.bool true)::l2)→x.wp P Q a w) (hf:b2=false→∀ a,Fr a n ((t,.bool false)::l2)→y.wp P Q a w) (hb:b=true:=by kernel_rfl) (hc:c:=by (repeat' refine And.intro ?_ ?_) <;> first | exact True.intro | omega | exact (rfl:_=_) | decide):X a w :=
 r.rn hb hc E I lg λa E=>E.bool (s:=t) (λh E=>JS E (ht h _ E)) (λh E=>JT E (hf h _ E))
theorem BY (k:Nat)(E:Fr a n l)(I:U W w L)[r:Rn k n j8 [] L l X b c l1 (cK P os.toArray Q ⟨dst,op,ty,ps,af,some (j,bp)⟩ K)][d1:u1 os j t][g1:fv l1 t (.bool b2)][nr:g8 l1 t l2][rN:BP b2 p q]
   (ht:p→∀ a,Fr a n ((t,.bool true)::l2)→cK P os.toArray Q ⟨dst,op,ty,ps,af,some (j,bp)⟩ K a w) (hf:q→∀ a,Fr a n ((t,.bool false)::l2)→cK P os.toArray Q ⟨dst,op,ty,ps,af,some (j,bp)⟩ K a w)
   (hb:b=true:=by kernel_rfl) (hc:c:=by (repeat' refine And.intro ?_ ?_) <;> first | exact True.intro | omega | exact (rfl:_=_) | decide):X a w :=
 r.rn hb hc E I lg λa E=>E.by (s:=t) (λh E=>ht h _ E) (λh E=>hf h _ E)
theorem yK (E:Fr a n l)[e:Gd os l g true][ev:oR P l ce args f vs][wS:tl n l dst bp F]{X:Ending→World→Prop}(hc:Calls P f vs.toArray w X)(EO:bp=true)(hf:hZ P f=true)
   (h:∀ e w',X e w'→∃ v,e=.returned v∧∀ a',Fr a' n (F v)→K a' w'):cK P os.toArray Q ⟨dst,.call ⟨ce,args.toArray,pR⟩,ty,ps,af,g⟩ K a w :=
 JN (e.h E) (ev.h hf E) hc λe w' hx=>let ⟨v,he,hv⟩:=h e w' hx;⟨v,he,hv _ (wS.h EO E)⟩
section
variable {α β γ:Type}{S0:World→Prop}{S1:α→World→Prop}{S2:α→β→World→Prop}{S3:α→β→γ→World→Prop}{v1:α→Value}{w2:α→β→Value}{w3:α→β→γ→Value}
theorem CL (k:Nat)(E:Fr a n l)(I:U W w L)[r:Rn k n j8 [] L l X b c l1 (cK P os.toArray Q ⟨dst,.call ⟨ce,args.toArray,pR⟩,ty,ps,af,g⟩ K)][e:Gd os l1 g true][ev:oR P l1 ce args f vs][wS:tl n l1 dst bp F]
   (hq:Calls P f vs.toArray w λr w'=>r=.returned v∧S0 w') (h:∀ a w,Fr a n (F v)→S0 w→K a w) (hb:(b&&bp)=true:=by kernel_rfl) (hf:hZ P f=true:=by kernel_rfl) (hc:c:=by (repeat' refine And.intro ?_ ?_) <;> first | exact True.intro | omega | exact (rfl:_=_) | decide):X a w:=by
 simp only[fK]at hb;exact r.rn hb.1 hc E I lg λa E=>yK E hq hb.2 hf λe w' ⟨h1,h2⟩=>⟨_,h1,λa E=>h a w' E h2⟩
theorem bg (k:Nat)(E:Fr a n l)(I:U W w L)[r:Rn k n j8 [] L l X b c l1 (cK P os.toArray Q ⟨dst,.call ⟨ce,args.toArray,pR⟩,ty,ps,af,g⟩ K)][e:Gd os l1 g true][ev:oR P l1 ce args f vs][wS:tl n l1 dst bp F]
   (hq:Calls P f vs.toArray w λr w'=>∃ x,r=.returned (v1 x)∧S1 x w') (h:∀ x a w,Fr a n (F (v1 x))→S1 x w→K a w) (hb:(b&&bp)=true:=by kernel_rfl) (hf:hZ P f=true:=by kernel_rfl) (hc:c:=by (repeat' refine And.intro ?_ ?_) <;> first | exact True.intro | omega | exact (rfl:_=_) | decide):X a w:=by
 simp only[fK]at hb;exact r.rn hb.1 hc E I lg λa E=>yK E hq hb.2 hf λe w' ⟨x,h1,h2⟩=>⟨_,h1,λa E=>h x a w' E h2⟩
theorem aY (k:Nat)(E:Fr a n l)(I:U W w L)[r:Rn k n j8 [] L l X b c l1 (cK P os.toArray Q ⟨dst,.call ⟨ce,args.toArray,pR⟩,ty,ps,af,g⟩ K)][e:Gd os l1 g true][ev:oR P l1 ce args f vs][wS:tl n l1 dst bp F]
   (hq:Calls P f vs.toArray w λr w'=>∃ x y,r=.returned (w2 x y)∧S2 x y w') (h:∀ x y a w,Fr a n (F (w2 x y))→S2 x y w→K a w) (hb:(b&&bp)=true:=by kernel_rfl) (hf:hZ P f=true:=by kernel_rfl) (hc:c:=by (repeat' refine And.intro ?_ ?_) <;> first | exact True.intro | omega | exact (rfl:_=_) | decide):X a w:=by
 simp only[fK]at hb;exact r.rn hb.1 hc E I lg λa E=>yK E hq hb.2 hf λe w' ⟨x,y,h1,h2⟩=>⟨_,h1,λa E=>h x y a w' E h2⟩
theorem j9 (k:Nat)(E:Fr a n l)(I:U W w L)[r:Rn k n j8 [] L l X b c l1 (cK P os.toArray Q ⟨dst,.call ⟨ce,args.toArray,pR⟩,ty,ps,af,g⟩ K)][e:Gd os l1 g true][ev:oR P l1 ce args f vs][wS:tl n l1 dst bp F]
   (hq:Calls P f vs.toArray w λr w'=>∃ x y z,r=.returned (w3 x y z)∧S3 x y z w') (h:∀ x y z a w,Fr a n (F (w3 x y z))→S3 x y z w→K a w) (hb:(b&&bp)=true:=by kernel_rfl) (hf:hZ P f=true:=by kernel_rfl) (hc:c:=by (repeat' refine And.intro ?_ ?_) <;> first | exact True.intro | omega | exact (rfl:_=_) | decide):X a w:=by
 simp only[fK]at hb;exact r.rn hb.1 hc E I lg λa E=>yK E hq hb.2 hf λe w' ⟨x,y,z,h1,h2⟩=>⟨_,h1,λa E=>h x y z a w' E h2⟩
end
theorem ka (k:Nat)(E:Fr a n l)(I:U W w L)[r:Rn k n j8 [] L l X b c l1 (cK P os.toArray Q ⟨dst,.call ⟨ce,args.toArray,pR⟩,ty,ps,af,g⟩ K)][e:Gd os l1 g true][ev:oR P l1 ce args f vs][wS:tl n l1 dst bp F]{Z:Ending→World→Prop}
   (hq:Calls P f vs.toArray w Z) (h:∀ e w,Z e w→∃ v,e=.returned v∧∀ a,Fr a n (F v)→K a w) (hb:(b&&bp)=true:=by kernel_rfl) (hf:hZ P f=true:=by kernel_rfl) (hc:c:=by (repeat' refine And.intro ?_ ?_) <;> first | exact True.intro | omega | exact (rfl:_=_) | decide):X a w:=by
 simp only[fK]at hb;exact r.rn hb.1 hc E I lg λa E=>yK E hq hb.2 hf h
variable {cs mJ:List Value}{Bb:TypeId}{S:List SP}
theorem ST (k:Nat)(E:Fr a n l)(I:U W w L)[r:Rn k n j8 [] L l X b c l1 (cK P os.toArray Q ⟨none,.store t xo Ba,ty,ps,af,g⟩ K)][rS:Gd os l1 g true][ev:Ev l1 xo (.pointer (some ⟨bb,off,none⟩))][uS:Ev l1 Ba v][hi:TI P t zv 1 a1][qF:Cells v [v]][o1:One v]
   [Ep:fL L bb Bb cs S] [sc:qC cs off v mJ] (h:∀ a w,Fr a n l1→U W w (aa bb Bb mJ::S)→K a w) (hb:b=true:=by kernel_rfl) (hc:c:=by (repeat' refine And.intro ?_ ?_) <;> first | exact True.intro | omega | exact (rfl:_=_) | decide) (hlt:off<cs.length:=by first | exact Nat.af2 rfl | omega | simp):X a w :=
 r.rn hb hc E I lg λa E=>JL E (rS.h E) I hi o1.h hlt h
theorem SA (k:Nat)(E:Fr a n l)(I:U W w L)[r:Rn k n j8 [] L l X b c l1 (cK P os.toArray Q ⟨none,.store t xo Ba,ty,ps,af,g⟩ K)][rS:Gd os l1 g true][ev:Ev l1 xo (.pointer (some ⟨bb,0,none⟩))][uS:Ev l1 Ba v][hi:TI P t zv m a1][qF:Cells v vs][le:mO vs m][o1:tm vs]
   [Ep:fL L bb Bb cs S] [TD:mO cs m] (h:∀ a w,Fr a n l1→U W w (aa bb Bb vs::S)→K a w) (hb:b=true:=by kernel_rfl) (hc:c:=by (repeat' refine And.intro ?_ ?_) <;> first | exact True.intro | omega | exact (rfl:_=_) | decide):X a w :=
 r.rn hb hc E I lg λa E=>RL E (rS.h E) I (by rw[le.h];exact hi) o1.h (by rw[le.h,TD.h]) h
theorem AL (k:Nat)(E:Fr a n l)(I:U W w L)[r:Rn k n j8 [] L l X b c l1 (cK P os.toArray Q ⟨some d,.alloc t,ty,ps,af,g⟩ K)][rS:Gd os l1 g true][hi:TI P t zv m a1][qF:Cells zv vs][q:g8 l1 d l2]
   (h:∀ b a w',Fr a n ((d,.pointer (some ⟨b,0,none⟩))::l2)→U W w' (aa b t vs::L)→K a w') (hb:(b&&okB d n l2)=true:=by kernel_rfl) (hc:c:=by (repeat' refine And.intro ?_ ?_) <;> first | exact True.intro | omega | exact (rfl:_=_) | decide):X a w:=by
 rw[fK]at hb;exact r.rn hb.1 hc E I lg λa E=>e5 (E.del d) (rS.h E) I hi hb.2 λb a w E I _=>h b a w E I
theorem BX (k:Nat)(E:Fr a n l)(I:U W w L)[r:Rn k n j8 [] L l X b c l1 (cK P os.toArray Q ⟨some d,.box t xo,ty,ps,af,g⟩ K)][rS:Gd os l1 g true][ev:Ev l1 xo v][qF:Cells v vs][q:g8 l1 d l2]
   (h:∀ b a w',Fr a n ((d,.pointer (some ⟨b,0,none⟩))::l2)→U W w' (aa b t vs::L)→K a w') (hb:(b&&okB d n l2)=true:=by kernel_rfl) (hc:c:=by (repeat' refine And.intro ?_ ?_) <;> first | exact True.intro | omega | exact (rfl:_=_) | decide):X a w:=by
 rw[fK]at hb;refine r.rn hb.1 hc E I lg λa E=>?_;have:=ev.ev a n E;refine bA (v:=.pointer (some ⟨w.heap.size,0,none⟩)) (w':=w.alloc (.cells vs.toArray t)) (E.del d) (rS.h E) ?_ hb.2 (λa' di=>h _ _ _ di (I.alloc _));simp[execOp,Instr.box,this,newVar,newRow,newObj,Sem.run,qF.h,Sem.run_bind]
theorem SX (k:Nat)(E:Fr a n l)(I:U W w L)[r:Rn k n j8 [] L l X b c l1 (cK P os.toArray Q ⟨some d,op,ty,ps,af,g⟩ K)][rS:Gd os l1 g true][s:Sx P L l1 op eW v][q:g8 l1 d l2](h1:eW)
   (h:∀ a,Fr a n ((d,v)::l2)→K a w) (hb:(b&&okB d n l2)=true:=by kernel_rfl) (hc:c:=by (repeat' refine And.intro ?_ ?_) <;> first | exact True.intro | omega | exact (rfl:_=_) | decide):X a w:=by
 rw[fK]at hb;exact r.rn hb.1 hc E I lg λa E=>bA (E.del d) (rS.h E) (s.ex h1 E (Lk.of I)) hb.2 h
theorem QP [p:oQ os i ⟨some d,op,ty,ps,af,g⟩][pk:nv Q][e:Gd os l g true][q:g8 l d l1](E:Fr a n l)(hr:∀ w,(execOp a.eval ⟨some d,op,ty,ps,af,g⟩).run P w=.ok (.value v) w)
   (h:∀ a,Fr a n ((d,v)::l1)→gm P os.toArray Q C2 bk od fuel (mP m i) a w) (hb:(np os.toArray (lb os.toArray.size m) bk true i&&!bk.contains i&&okB d n l1)=true:=by kernel_rfl):gm P os.toArray Q C2 bk (i::od) (fuel+1) m a w:=by
 simp only[fK,Bool.not_eq_true']at hb;exact J9 (qN _ _ _) (by rw[getElem?_toArray];exact p.h) hb.1.1 hb.1.2 pk.h (E.del d) (e.h E) hr hb.2 h
theorem QH [p:oQ os i ⟨some d,op,ty,ps,af,g⟩][pk:nv Q][e:Gd os l g true][q:g8 l d l1](E:Fr a n l)(hr:∀ w,C2 w→(execOp a.eval ⟨some d,op,ty,ps,af,g⟩).run P w=.ok (.value v) w)(hC:C2 w)
   (h:∀ a,Fr a n ((d,v)::l1)→gm P os.toArray Q C2 bk od fuel (mP m i) a w) (hb:(np os.toArray (lb os.toArray.size m) bk false i&&okB d n l1)=true:=by kernel_rfl):gm P os.toArray Q C2 bk ((i+3000)::od) (fuel+1) m a w:=by
 simp only[fK]at hb;exact Ka (qN _ _ _) (by rw[getElem?_toArray];exact p.h) hb.1 pk.h (E.del d) (e.h E) hr hC hb.2 h
theorem aV (k:Nat)(C:World→World→Prop)(bk od:List Nat)(E:Fr a n l)(I:U W w L)[r:Rn k n j8 [] L l X b c l1 ((Code.region i os.toArray true).wp P Q)][pk:nv Q][yL:A9 P]
   (h:∀ a w,Fr a n l1→U W w L→Hd (C w) []→gm P os.toArray Q (C w) bk od os.length 0 a w) (hb:b=true:=by kernel_rfl) (hc:c:=by (repeat' refine And.intro ?_ ?_) <;> first | exact True.intro | omega | exact (rfl:_=_) | decide):X a w :=
 r.rn hb hc E I lg λa E=>Go.Proofs.YteoldcfapaiobaaGreat.Ew (C w.drew) bk od yL.h pk.h (λ_=>h a _ E I.drew (Hd.any _)) List.size_toArray
theorem rT (k:Nat)(C:World→Prop)(bk od:List Nat)(E:Fr a n l)(I:U W w L)[r:Rn k n j8 [] L l X b c l1 ((Code.region i os.toArray true).wp P Q)][pk:nv Q][yL:A9 P]
   (h:∀ a,Fr a n l1→gm P os.toArray Q C bk od os.length 0 a w.drew) (hb:b=true:=by kernel_rfl) (hc:c:=by (repeat' refine And.intro ?_ ?_) <;> first | exact True.intro | omega | exact (rfl:_=_) | decide):X a w :=
 r.rn hb hc E I lg λa E=>Go.Proofs.YteoldcfapaiobaaGreat.Ew C bk od yL.h pk.h (λ_=>h a E) List.size_toArray
theorem bM (k:Nat)(bk od:List Nat)(E:Fr a n l)(I:U W w L)[r:Rn k n j8 [] L l X b c l1 ((Code.region i os.toArray true).wp P Q)][pk:nv Q][yL:A9 P]
   (h:∀ a w,Fr a n l1→U W w L→Hd (Old w) L→Old w w→gm P os.toArray Q (Old w) bk od os.length 0 a w) (hb:b=true:=by kernel_rfl) (hc:c:=by (repeat' refine And.intro ?_ ?_) <;> first | exact True.intro | omega | exact (rfl:_=_) | decide):X a w :=
 r.rn hb hc E I lg λa E=>Go.Proofs.YteoldcfapaiobaaGreat.Ew (Old w.drew) bk od yL.h pk.h (λ_=>h a _ E I.drew (Hd.gw I.drew) (Old.refl _)) List.size_toArray
end
section
variable {P:Program}{ops:Array Oper}{Q:Exit→Act→World→Prop}{C:World→Prop}{bk:List Nat}{fuel m:Nat}{a:Act}{w:World}
def yM (P:Program)(ops:Array Oper)(Q:Exit→Act→World→Prop)(C:World→Prop)(bk:List Nat)(fuel m:Nat)(a:Act)(w:World):List (Nat×List Nat)→Prop
 | []=>True
 | (i,od)::r=>(∃ o,ops[i]?=some o∧cK P ops Q o (CN (bk.contains i) C (gm P ops Q C bk od fuel (mP m i))) a w)∧yM P ops Q C bk fuel m a w r
theorem yM.get:∀ {l:List (Nat×List Nat)} {i:Nat},yM P ops Q C bk fuel m a w l→i∈l.map (·.1)→∃ (o:Oper) (od:List Nat),ops[i]?=some o∧cK P ops Q o (CN (bk.contains i) C (gm P ops Q C bk od fuel (mP m i))) a w
 | [],_,_,h=>by simp at h
 | (j,od)::r,i,⟨⟨o,h1,h2⟩,h3⟩,h=>by
  rw[map_cons]at h;rcases List.mem_cons.1 h with rfl | h
  ·exact⟨o,od,h1,h2⟩
  ·exact yM.get h3 h
theorem DN {od:List Nat}(l:List (Nat×List Nat))(hr:Region.ready .any ops (lb ops.size m)=l.map (·.1))(bq:l.isEmpty=false)(h:yM P ops Q C bk fuel m a w l):gm P ops Q C bk od (fuel+1) m a w:=by
 refine⟨λh0=>?_,λj hj=>?_⟩
 ·rw[hr]at h0;cases l with
  | nil=>cases bq
  | cons x r=>cases h0
 ·rw[hr]at hj;obtain⟨o,od,h1,h2⟩:=h.get hj;simp only[wpOp,h1,qN];exact h2
end
end
section
abbrev pt (b:Nat):Value:=.pointer (some ⟨b,0,none⟩)
theorem Hd.at {C:World→Prop}{L:List SP}(_:Hd C L)(w:World)(h:C w):C w:=h
theorem ae {P:Program}{a:Act}{w:World}{n:Nat}{l:List (Nat × Value)}{x ad t v dst ty ps af g}(E:Fr a n l)(hc:w.cell? ad=some v)[u:Et P t][ev:Ev l x (.pointer (some ad))]:(execOp a.eval ⟨dst,.load t x,ty,ps,af,g⟩).run P w=.ok (.value v) w:=by
 obtain ⟨ej,h1,h2⟩:=u.h;exact JJ E h1 h2 hc
theorem SS {P:Program}{ops:Array Oper}{Q:Exit→Act→World→Prop}{a:Act}{w:World}{K:Act→World→Prop}{n d:Nat}{l:List (Nat × Value)}{v:Value}{op ty ps af g}(E:Fr a n l)(hr:(execOp a.eval ⟨some d,op,ty,ps,af,g⟩).run P w=.ok (.value v) w)(h:∀ a',Fr a' n ((d,v)::l)→K a' w)(hw:Region.wanted ⟨some d,op,ty,ps,af,g⟩ (yielded ops a.tmps)=true:=by rfl)(hf:okB d n l=true:=by rfl):cK P ops Q ⟨some d,op,ty,ps,af,g⟩ K a w:=bA E hw hr hf h
end
section
instance Ty.t2:TI prog 2 (.int .i64 0) 1 8:=TI.of (by kernel_rfl)
instance Ty.t3:TI prog 3 (.int .i64 0) 1 8:=TI.of (by kernel_rfl)
instance Ty.t4:TI prog 4 (.bool false) 1 1:=TI.of (by kernel_rfl)
instance Ty.t5:TI prog 5 (.int .u8 0) 1 1:=TI.of (by kernel_rfl)
instance Ty.t9:TI prog 9 (.string ⟨#[]⟩) 1 16:=TI.of (by kernel_rfl)
instance Ty.t21:TI prog 21 (.int .i32 0) 1 4:=TI.of (by kernel_rfl)
instance Ty.t22:TI prog 22 (.slice none 0 0) 1 24:=TI.of (by kernel_rfl)
instance Ty.t28:TI prog 28 (.agg #[.int .i64 0,.int .i64 0,.int .i64 0,.int .i64 0,.int .i64 0,.int .i64 0,.int .i64 0,.int .i64 0,.int .i64 0,.int .i64 0]) 10 80:=TI.of (by kernel_rfl)
instance Ty.t31:TI prog 31 (.pointer none) 1 8:=TI.of (by kernel_rfl)
instance Ty.t33:TI prog 33 (.agg #[.pointer none,.int .i64 0,.bool false]) 3 24:=TI.of (by kernel_rfl)
instance Ty.t34:TI prog 34 (.pointer none) 1 8:=TI.of (by kernel_rfl)
instance Ty.t35:TI prog 35 (.pointer none) 1 8:=TI.of (by kernel_rfl)
instance Ty.t36:TI prog 36 (.slice none 0 0) 1 24:=TI.of (by kernel_rfl)
instance Ty.t37:TI prog 37 (.slice none 0 0) 1 24:=TI.of (by kernel_rfl)
instance Ty.t38:TI prog 38 (.slice none 0 0) 1 24:=TI.of (by kernel_rfl)
instance Ty.t40:TI prog 40 (.agg #[.pointer none,.slice none 0 0,.slice none 0 0,.slice none 0 0]) 4 80:=TI.of (by kernel_rfl)
instance Ty.t42:TI prog 42 (.pointer none) 1 8:=TI.of (by kernel_rfl)
instance Ty.t43:TI prog 43 (.slice none 0 0) 1 24:=TI.of (by kernel_rfl)
instance Ty.t45:TI prog 45 (.agg #[.string ⟨#[]⟩,.slice none 0 0]) 2 40:=TI.of (by kernel_rfl)
instance Ty.t47:TI prog 47 (.agg #[.int .i64 0,.int .i64 0,.slice none 0 0]) 3 40:=TI.of (by kernel_rfl)
instance Ty.t49:TI prog 49 (.agg #[.int .i32 0,.int .i32 0,.int .i32 0,.int .i32 0,.int .i32 0,.int .i32 0,.int .i32 0,.int .i32 0,.int .i32 0,.int .i32 0,.int .i32 0,.int .i32 0,.int .i32 0,.int .i32 0,.int .i32 0,.int .i32 0,.int .i32 0,.int .i32 0,.int .i32 0,.int .i32 0,.int .i32 0,.int .i32 0,.int .i32 0,.int .i32 0,.int .i32 0,.int .i32 0,.int .i32 0,.int .i32 0,.int .i32 0,.int .i32 0,.int .i32 0,.int .i32 0]) 32 128:=TI.of (by kernel_rfl)
instance Ty.t51:TI prog 51 (.agg ((.pointer none::.string ⟨#[]⟩::.slice none 0 0::.int .i64 0::.int .i64 0::.slice none 0 0::.int .i32 0::.int .i32 0::.int .i32 0::.int .i32 0::.int .i32 0::.int .i32 0::.int .i32 0::.int .i32 0::.int .i32 0::.int .i32 0::.int .i32 0::.int .i32 0::.int .i32 0::.int .i32 0::.int .i32 0::.int .i32 0::.int .i32 0::.int .i32 0::.int .i32 0::.int .i32 0::.int .i32 0::.int .i32 0::.int .i32 0::.int .i32 0::.int .i32 0::.int .i32 0::.int .i32 0::.int .i32 0::.int .i32 0::.int .i32 0::.int .i32 0::.int .i32 0::[]):List Value).toArray) 38 216:=TI.of (by kernel_rfl)
instance Ty.t53:TI prog 53 (.slice none 0 0) 1 24:=TI.of (by kernel_rfl)
instance Ty.t54:TI prog 54 (.agg #[.int .i64 0,.int .i64 0,.int .i64 0,.int .i64 0,.int .i64 0,.int .i64 0,.int .i64 0,.int .i64 0]) 8 64:=TI.of (by kernel_rfl)
instance Ty.t58:TI prog 58 (.agg #[.int .i64 0,.int .i64 0,.int .i64 0,.int .i64 0]) 4 32:=TI.of (by kernel_rfl)
instance Ty.t60:TI prog 60 (.agg #[.int .i64 0,.int .i64 0,.slice none 0 0]) 3 40:=TI.of (by kernel_rfl)
instance Ty.t62:TI prog 62 (.pointer none) 1 8:=TI.of (by kernel_rfl)
instance Ty.t65:TI prog 65 (.agg #[.slice none 0 0]) 1 24:=TI.of (by kernel_rfl)
instance Ty.t66:TI prog 66 (.slice none 0 0) 1 24:=TI.of (by kernel_rfl)
instance Ty.t67:TI prog 67 (.slice none 0 0) 1 24:=TI.of (by kernel_rfl)
instance Ty.t68:TI prog 68 (.slice none 0 0) 1 24:=TI.of (by kernel_rfl)
instance Ty.t69:TI prog 69 (.slice none 0 0) 1 24:=TI.of (by kernel_rfl)
instance Ty.t70:TI prog 70 (.slice none 0 0) 1 24:=TI.of (by kernel_rfl)
instance Ty.t72:TI prog 72 (.agg #[.int .i64 0,.int .i64 0,.int .i64 0,.int .i64 0,.int .i64 0,.int .i64 0,.int .i64 0,.int .i64 0,.int .i64 0,.int .i64 0,.slice none 0 0,.int .i64 0,.slice none 0 0,.slice none 0 0,.slice none 0 0,.slice none 0 0,.slice none 0 0,.slice none 0 0,.bool false]) 19 264:=TI.of (by kernel_rfl)
instance Ty.t81:TI prog 81 (.nilIface) 1 16:=TI.of (by kernel_rfl)
instance Ty.t90:TI prog 90 (.slice none 0 0) 1 24:=TI.of (by kernel_rfl)
instance Ty.t100:TI prog 100 (.int .u32 0) 1 4:=TI.of (by kernel_rfl)
instance Ty.t102:TI prog 102 (.agg #[.int .i64 0,.int .i64 0,.int .i64 0]) 3 24:=TI.of (by kernel_rfl)
instance Ty.t104:TI prog 104 (.slice none 0 0) 1 24:=TI.of (by kernel_rfl)
instance Ty.t105:TI prog 105 (.slice none 0 0) 1 24:=TI.of (by kernel_rfl)
instance Ty.t107:TI prog 107 (.agg #[.slice none 0 0,.pointer none,.slice none 0 0]) 3 56:=TI.of (by kernel_rfl)
instance Ty.t108:TI prog 108 (.slice none 0 0) 1 24:=TI.of (by kernel_rfl)
instance Ty.t110:TI prog 110 (.agg #[.slice none 0 0]) 1 24:=TI.of (by kernel_rfl)
instance Ty.t114:TI prog 114 (.agg #[.int .i64 0,.int .i64 0,.int .i64 0,.int .i64 0]) 4 32:=TI.of (by kernel_rfl)
instance Ty.t124:TI prog 124 (.agg #[.int .i64 0,.int .i64 0,.slice none 0 0]) 3 40:=TI.of (by kernel_rfl)
instance Ty.t133:TI prog 133 (.nilIface) 1 16:=TI.of (by kernel_rfl)
instance Ty.t135:TI prog 135 (.agg #[.nilIface]) 1 16:=TI.of (by kernel_rfl)
instance Ty.t139:TI prog 139 (.pointer none) 1 8:=TI.of (by kernel_rfl)
instance Ty.t158:TI prog 158 (.pointer none) 1 8:=TI.of (by kernel_rfl)
instance Ty.t162:TI prog 162 (.pointer none) 1 8:=TI.of (by kernel_rfl)
instance Ty.t164:TI prog 164 (.agg (List.replicate 201 (.int .i64 0)).toArray) 201 1608:=TI.of (by kernel_rfl)
instance Ty.t166:TI prog 166 (.int .i64 0) 1 8:=TI.of (by kernel_rfl)
instance Ty.t168:TI prog 168 (.slice none 0 0) 1 24:=TI.of (by kernel_rfl)
instance Ty.t169:TI prog 169 (.pointer none) 1 8:=TI.of (by kernel_rfl)
instance Ty.t173:TI prog 173 (.pointer none) 1 8:=TI.of (by kernel_rfl)
instance Ty.t175:TI prog 175 (.slice none 0 0) 1 24:=TI.of (by kernel_rfl)
instance Ty.t177:TI prog 177 (.agg #[.pointer none,.string ⟨#[]⟩,.slice none 0 0,.pointer none,.pointer none,.pointer none,.slice none 0 0,.int .i64 0,.int .i64 0]) 9 112:=TI.of (by kernel_rfl)
instance Ty.t179:TI prog 179 (.pointer none) 1 8:=TI.of (by kernel_rfl)
instance Ty.t183:TI prog 183 (.agg #[.int .i32 0,.int .i32 0,.int .i32 0,.int .i32 0,.int .i32 0,.int .i32 0,.int .i32 0,.int .i32 0,.int .i32 0,.int .i32 0,.int .i32 0,.int .i32 0,.int .i32 0,.int .i32 0,.int .i32 0,.int .i32 0,.int .i32 0,.int .i32 0,.int .i32 0,.int .i32 0,.int .i32 0,.int .i32 0,.int .i32 0,.int .i32 0,.int .i32 0,.int .i32 0,.int .i32 0,.int .i32 0,.int .i32 0,.int .i32 0,.int .i32 0,.int .i32 0]) 32 128:=TI.of (by kernel_rfl)
instance Ty.t186:TI prog 186 (.agg #[.int .i64 0,.int .i64 0,.slice none 0 0]) 3 40:=TI.of (by kernel_rfl)
instance Ty.t187:TI prog 187 (.pointer none) 1 8:=TI.of (by kernel_rfl)
instance Ty.t192:TI prog 192 (.agg ((.pointer none::.string ⟨#[]⟩::.slice none 0 0::.int .i64 0::.int .i64 0::.slice none 0 0::.int .i32 0::.int .i32 0::.int .i32 0::.int .i32 0::.int .i32 0::.int .i32 0::.int .i32 0::.int .i32 0::.int .i32 0::.int .i32 0::.int .i32 0::.int .i32 0::.int .i32 0::.int .i32 0::.int .i32 0::.int .i32 0::.int .i32 0::.int .i32 0::.int .i32 0::.int .i32 0::.int .i32 0::.int .i32 0::.int .i32 0::.int .i32 0::.int .i32 0::.int .i32 0::.int .i32 0::.int .i32 0::.int .i32 0::.int .i32 0::.int .i32 0::.int .i32 0::[]):List Value).toArray) 38 216:=TI.of (by kernel_rfl)
instance Ty.t203:TI prog 203 (.agg #[.int .i64 0,.int .i64 0,.int .i64 0,.int .i64 0,.int .i64 0,.slice none 0 0,.int .i64 0,.int .i64 0,.int .u32 0]) 9 88:=TI.of (by kernel_rfl)
instance Ty.t207:TI prog 207 (.slice none 0 0) 1 24:=TI.of (by kernel_rfl)
instance Ty.t210:TI prog 210 (.agg #[.int .i64 0]) 1 8:=TI.of (by kernel_rfl)
instance Ty.t211:TI prog 211 (.agg #[.int .i64 0]) 1 8:=TI.of (by kernel_rfl)
instance Ty.t213:TI prog 213 (.agg #[.int .i64 0,.int .i64 0]) 2 16:=TI.of (by kernel_rfl)
instance Ty.t218:TI prog 218 (.map none) 1 8:=TI.of (by kernel_rfl)
instance Ty.t219:TI prog 219 (.pointer none) 1 8:=TI.of (by kernel_rfl)
instance Ty.t221:TI prog 221 (.agg #[.pointer none,.map none,.int .i64 0]) 3 24:=TI.of (by kernel_rfl)
instance Ty.t222:TI prog 222 (.slice none 0 0) 1 24:=TI.of (by kernel_rfl)
instance Ty.t224:TI prog 224 (.agg #[.slice none 0 0]) 1 24:=TI.of (by kernel_rfl)
instance Ty.t225:TI prog 225 (.agg #[.int .i32 0,.int .i32 0,.int .i32 0,.int .i32 0,.int .i32 0,.int .i32 0,.int .i32 0,.int .i32 0]) 8 32:=TI.of (by kernel_rfl)
instance Ty.t227:TI prog 227 (.agg #[.int .i32 0,.int .i32 0,.int .i32 0,.int .i32 0,.int .i32 0,.int .i32 0,.int .i32 0,.int .i32 0,.int .i64 0]) 9 40:=TI.of (by kernel_rfl)
instance Ty.t230:TI prog 230 (.agg #[.int .i64 0,.int .i64 0,.int .i64 0,.int .i64 0]) 4 32:=TI.of (by kernel_rfl)
instance Ty.t232:TI prog 232 (.agg #[.int .i64 0,.int .i64 0,.int .i64 0,.int .i64 0,.int .i64 0]) 5 40:=TI.of (by kernel_rfl)
instance Ty.t236:TI prog 236 (.agg #[.pointer none,.int .i64 0,.slice none 0 0,.int .i64 0,.int .i64 0]) 5 56:=TI.of (by kernel_rfl)
instance Ty.t238:TI prog 238 (.agg #[.int .i64 0,.int .i64 0,.slice none 0 0,.int .i64 0,.int .i64 0]) 5 56:=TI.of (by kernel_rfl)
instance Ty.t241:TI prog 241 (.slice none 0 0) 1 24:=TI.of (by kernel_rfl)
instance Ty.t243:TI prog 243 (.agg #[.slice none 0 0]) 1 24:=TI.of (by kernel_rfl)
instance Ty.t245:TI prog 245 (.agg #[.int .i64 0,.int .i64 0]) 2 16:=TI.of (by kernel_rfl)
instance Ty.t247:TI prog 247 (.agg #[.string ⟨#[]⟩,.slice none 0 0,.pointer none,.pointer none,.pointer none,.bool false,.int .i64 0,.int .i64 0,.int .i64 0,.int .i64 0,.bool false]) 11 112:=TI.of (by kernel_rfl)
instance Ty.t253:TI prog 253 (.pointer none) 1 8:=TI.of (by kernel_rfl)
instance Ty.t255:TI prog 255 (.slice none 0 0) 1 24:=TI.of (by kernel_rfl)
instance Ty.t257:TI prog 257 (.agg #[.int .i64 0,.int .i64 0,.int .i64 0,.int .i64 0,.int .i64 0,.int .i64 0,.int .i64 0,.int .i64 0,.int .i64 0,.int .i64 0,.pointer none,.slice none 0 0,.slice none 0 0,.slice none 0 0,.int .i64 0,.bool false]) 16 176:=TI.of (by kernel_rfl)
instance Ty.t259:TI prog 259 (.agg #[.int .i64 0,.int .i64 0,.int .i64 0,.int .u32 0,.bool false]) 5 32:=TI.of (by kernel_rfl)
instance Ty.t286:TI prog 286 (.slice none 0 0) 1 24:=TI.of (by kernel_rfl)
instance Ty.t288:TI prog 288 (.agg #[.slice none 0 0]) 1 24:=TI.of (by kernel_rfl)
instance Ty.t289:TI prog 289 (.pointer none) 1 8:=TI.of (by kernel_rfl)
instance Ty.t296:TI prog 296 (.agg ((.int .i32 0::.int .i32 0::.int .i32 0::.int .i32 0::.int .i32 0::.int .i32 0::.int .i32 0::.int .i32 0::.int .i32 0::.int .i32 0::.int .i32 0::.int .i32 0::.int .i32 0::.int .i32 0::.int .i32 0::.int .i32 0::.int .i32 0::.int .i32 0::.int .i32 0::.int .i32 0::.int .i32 0::.int .i32 0::.int .i32 0::.int .i32 0::.int .i32 0::.int .i32 0::.int .i32 0::.int .i32 0::.int .i32 0::.int .i32 0::.int .i32 0::.int .i32 0::[]):List Value).toArray) 32 128:=TI.of (by kernel_rfl)
instance Ty.t307:TI prog 307 (.agg #[.pointer none,.int .i64 0,.bool false]) 3 24:=TI.of (by kernel_rfl)
instance Ty.t313:TI prog 313 (.agg #[.int .i64 0,.int .u32 0]) 2 16:=TI.of (by kernel_rfl)
instance Ty.t320:TI prog 320 (.agg (List.replicate 256 (.int .i64 0)).toArray) 256 2048:=TI.of (by kernel_rfl)
instance Ty.t322:TI prog 322 (.agg (List.replicate 256 (.bool false)).toArray) 256 256:=TI.of (by kernel_rfl)
instance Ty.t328:TI prog 328 (.agg #[.slice none 0 0]) 1 24:=TI.of (by kernel_rfl)
instance Ty.t333:TI prog 333 (.nilIface) 1 16:=TI.of (by kernel_rfl)
instance Ty.t336:TI prog 336 (.agg #[.string ⟨#[]⟩,.slice none 0 0,.nilIface,.int .i64 0,.slice none 0 0,.int .i64 0]) 6 96:=TI.of (by kernel_rfl)
instance Ty.t345:TI prog 345 (.agg #[.int .i64 0,.int .i64 0,.int .i64 0,.int .i64 0]) 4 32:=TI.of (by kernel_rfl)
instance Ty.t423:TI prog 423 (.agg #[.int .u8 0,.int .u8 0]) 2 2:=TI.of (by kernel_rfl)
instance Ty.t427:TI prog 427 (.agg #[.slice none 0 0,.bool false]) 2 32:=TI.of (by kernel_rfl)
instance Ty.t429:TI prog 429 (.agg #[.int .i64 0,.int .i64 0,.int .i64 0]) 3 24:=TI.of (by kernel_rfl)
instance Ty.Ku:ep prog 28 [(0,1),(1,1),(2,1),(3,1),(4,1),(5,1),(6,1),(7,1),(8,1),(9,1)]:=⟨_,rU,λw=>by kernel_rfl⟩
instance Ty.jV:ep prog 33 [(0,1),(1,1),(2,1)]:=⟨_,underlying33,λw=>by kernel_rfl⟩
instance Ty.Kv:ep prog 40 [(0,1),(1,1),(2,1),(3,1)]:=⟨_,underlying40,λw=>by kernel_rfl⟩
instance Ty.b45:ep prog 45 [(0,1),(1,1)]:=⟨_,n2,λw=>by kernel_rfl⟩
instance Ty.b47:ep prog 47 [(0,1),(1,1),(2,1)]:=⟨_,EP,λw=>by kernel_rfl⟩
instance Ty.TF:ep prog 51 [(0,1),(1,2),(3,3),(6,32)]:=⟨_,underlying51,λw=>by kernel_rfl⟩
instance Ty.b58:ep prog 58 [(0,1),(1,1),(2,1),(3,1)]:=⟨_,ER,λw=>by kernel_rfl⟩
instance Ty.TG:ep prog 60 [(0,1),(1,1),(2,1)]:=⟨_,yN,λw=>by kernel_rfl⟩
instance Ty.TH:ep prog 65 [(0,1)]:=⟨_,underlying65,λw=>by kernel_rfl⟩
instance Ty.b72:ep prog 72 [(0,10),(10,1),(11,1),(12,1),(13,1),(14,1),(15,1),(16,1),(17,1),(18,1)]:=⟨_,underlying72,λw=>by kernel_rfl⟩
instance Ty.af3:ep prog 102 [(0,1),(1,1),(2,1)]:=⟨_,Bd,λw=>by kernel_rfl⟩
instance Ty.af4:ep prog 107 [(0,1),(1,1),(2,1)]:=⟨_,underlying107,λw=>by kernel_rfl⟩
instance Ty.TJ:ep prog 110 [(0,1)]:=⟨_,underlying110,λw=>by kernel_rfl⟩
instance Ty.TL:ep prog 114 [(0,1),(1,1),(2,1),(3,1)]:=⟨_,rV,λw=>by kernel_rfl⟩
instance Ty.af5:ep prog 124 [(0,1),(1,1),(2,1)]:=⟨_,Be,λw=>by kernel_rfl⟩
instance Ty.af6:ep prog 135 [(0,1)]:=⟨_,ES,λw=>by kernel_rfl⟩
instance Ty.af7:ep prog 177 [(0,1),(1,2),(3,1),(4,1),(5,1),(6,1),(7,1),(8,1)]:=⟨_,underlying177,λw=>by kernel_rfl⟩
instance Ty.af8:ep prog 186 [(0,1),(1,1),(2,1)]:=⟨_,Bf,λw=>by kernel_rfl⟩
instance Ty.af9:ep prog 192 [(0,1),(1,2),(3,3),(6,32)]:=⟨_,underlying192,λw=>by kernel_rfl⟩
instance Ty.aga:ep prog 203 [(0,1),(1,1),(2,1),(3,1),(4,1),(5,1),(6,1),(7,1),(8,1)]:=⟨_,wT,λw=>by kernel_rfl⟩
instance Ty.agb:ep prog 210 [(0,1)]:=⟨_,yO,λw=>by kernel_rfl⟩
instance Ty.agc:ep prog 211 [(0,1)]:=⟨_,Bg,λw=>by kernel_rfl⟩
instance Ty.agd:ep prog 213 [(0,1),(1,1)]:=⟨_,ET,λw=>by kernel_rfl⟩
instance Ty.age:ep prog 221 [(0,1),(1,1),(2,1)]:=⟨_,underlying221,λw=>by kernel_rfl⟩
instance Ty.agf:ep prog 224 [(0,1)]:=⟨_,underlying224,λw=>by kernel_rfl⟩
instance Ty.agh:ep prog 227 [(0,8),(8,1)]:=⟨_,EU,λw=>by kernel_rfl⟩
instance Ty.agi:ep prog 236 [(0,1),(1,1),(2,1),(3,1),(4,1)]:=⟨_,underlying236,λw=>by kernel_rfl⟩
instance Ty.agj:ep prog 238 [(0,1),(1,1),(2,1),(3,1),(4,1)]:=⟨_,oS,λw=>by kernel_rfl⟩
instance Ty.agk:ep prog 243 [(0,1)]:=⟨_,underlying243,λw=>by kernel_rfl⟩
instance Ty.agl:ep prog 245 [(0,1),(1,1)]:=⟨_,rW,λw=>by kernel_rfl⟩
instance Ty.agm:ep prog 247 [(0,2),(2,1),(3,1),(4,1),(5,1),(6,2),(8,1),(9,1),(10,1)]:=⟨_,underlying247,λw=>by kernel_rfl⟩
instance Ty.agn:ep prog 257 [(0,10),(10,1),(11,1),(12,1),(13,1),(14,1),(15,1)]:=⟨_,underlying257,λw=>by kernel_rfl⟩
instance Ty.ago:ep prog 259 [(0,1),(1,1),(2,1),(3,1),(4,1)]:=⟨_,underlying259,λw=>by kernel_rfl⟩
instance Ty.agp:ep prog 288 [(0,1)]:=⟨_,underlying288,λw=>by kernel_rfl⟩
instance Ty.TM:ep prog 296 [(0,32)]:=⟨_,underlying296,λw=>by kernel_rfl⟩
instance Ty.agq:ep prog 307 [(0,1),(1,1),(2,1)]:=⟨_,underlying307,λw=>by kernel_rfl⟩
instance Ty.agr:ep prog 313 [(0,1),(1,1)]:=⟨_,EV,λw=>by kernel_rfl⟩
instance Ty.ags:ep prog 328 [(0,1)]:=⟨_,underlying328,λw=>by kernel_rfl⟩
instance Ty.agt:ep prog 336 [(0,2),(2,1),(3,1),(4,1),(5,1)]:=⟨_,underlying336,λw=>by kernel_rfl⟩
instance Ty.agu:ep prog 427 [(0,1),(1,1)]:=⟨_,underlying427,λw=>by kernel_rfl⟩
abbrev U2:=aI.of yP
abbrev U3:=aI.of fk
abbrev U4:=aI.of wU
abbrev U5:=aI.of dF
abbrev U9:=aI.of gB
abbrev TO:=aI.of tn
abbrev TP:=aI.of bj
abbrev TQ:=aI.of rU
abbrev TT:=aI.of underlying31
abbrev TU:=aI.of underlying33
abbrev TW:=aI.of underlying34
abbrev TX:=aI.of underlying35
abbrev TY:=aI.of EW
abbrev TZ:=aI.of tp
abbrev T4:=aI.of underlying38
abbrev T5:=aI.of underlying40
abbrev T6:=aI.of underlying42
abbrev T7:=aI.of Bh
abbrev T8:=aI.of n2
abbrev T9:=aI.of EP
abbrev Ua:=aI.of pS
abbrev Ub:=aI.of underlying51
abbrev Uc:=aI.of lR
abbrev Ud:=aI.of underlying54
abbrev Ue:=aI.of underlying55
abbrev Uf:=aI.of ER
abbrev Ug:=aI.of yN
abbrev Uh:=aI.of underlying62
abbrev Ui:=aI.of underlying65
abbrev Uj:=aI.of Bi
abbrev Uk:=aI.of underlying67
abbrev Ul:=aI.of underlying68
abbrev Um:=aI.of yQ
abbrev Un:=aI.of wV
abbrev Uo:=aI.of underlying72
abbrev Up:=aI.of underlying74
abbrev Uq:=aI.of underlying78
abbrev Ur:=aI.of underlying81
abbrev Us:=aI.of underlying84
abbrev Ut:=aI.of wW
abbrev Uu:=aI.of lh
abbrev Uv:=aI.of Bd
abbrev Uw:=aI.of EX
abbrev Ux:=aI.of underlying105
abbrev Uy:=aI.of underlying107
abbrev Uz:=aI.of qP
abbrev UA:=aI.of underlying110
abbrev UB:=aI.of rV
abbrev UC:=aI.of Be
abbrev UD:=aI.of underlying133
abbrev UE:=aI.of ES
abbrev UF:=aI.of underlying139
abbrev UG:=aI.of underlying158
abbrev UH:=aI.of Bj
abbrev UI:=aI.of underlying162
abbrev UJ:=aI.of underlying164
abbrev UK:=aI.of qQ
abbrev UL:=aI.of u4
abbrev UM:=aI.of underlying169
abbrev UN:=aI.of underlying173
abbrev UO:=aI.of EY
abbrev UP:=aI.of underlying177
abbrev UQ:=aI.of underlying179
abbrev UR:=aI.of rX
abbrev US:=aI.of Bf
abbrev UT:=aI.of underlying187
abbrev UU:=aI.of underlying192
abbrev UW:=aI.of wT
abbrev UX:=aI.of pT
abbrev UY:=aI.of yO
abbrev UZ:=aI.of Bg
abbrev U1:=aI.of ET
abbrev U6:=aI.of wX
abbrev U7:=aI.of underlying219
abbrev U8:=aI.of underlying221
abbrev Va:=aI.of underlying222
abbrev Vb:=aI.of underlying224
abbrev Vc:=aI.of EZ
abbrev Vd:=aI.of EU
abbrev Ve:=aI.of u5
abbrev Vf:=aI.of underlying232
abbrev Vg:=aI.of underlying233
abbrev Vh:=aI.of underlying236
abbrev Vi:=aI.of oS
abbrev Vj:=aI.of Bk
abbrev Vk:=aI.of underlying243
abbrev Vl:=aI.of rW
abbrev Vm:=aI.of underlying247
abbrev Vn:=aI.of underlying253
abbrev Vo:=aI.of E0
abbrev Vp:=aI.of underlying257
abbrev Vq:=aI.of underlying259
abbrev Vr:=aI.of Bl
abbrev Vs:=aI.of E1
abbrev Vt:=aI.of underlying288
abbrev Vu:=aI.of underlying289
abbrev Vv:=aI.of underlying294
abbrev Vw:=aI.of underlying296
abbrev Vx:=aI.of underlying305
abbrev Vy:=aI.of underlying307
abbrev Vz:=aI.of EV
abbrev VA:=aI.of underlying314
abbrev VB:=aI.of tr
abbrev VC:=aI.of underlying320
abbrev VD:=aI.of underlying322
abbrev VE:=aI.of underlying328
abbrev VF:=aI.of underlying333
abbrev VG:=aI.of underlying336
abbrev VH:=aI.of underlying343
abbrev VI:=aI.of underlying345
abbrev VJ:=aI.of underlying351
abbrev VK:=aI.of underlying366
abbrev VL:=aI.of E2
abbrev VM:=aI.of underlying427
abbrev VN:=aI.of E3
attribute [instance] U2 U3 U4 U5 U9 TO TP TQ TT TU TW TX TY TZ T4 T5 T6 T7 T8 T9 Ua Ub Uc Ud Ue Uf Ug Uh Ui Uj Uk Ul Um Un Uo Up Uq Ur Us Ut Uu Uv Uw Ux Uy Uz UA UB UC UD UE UF UG UH UI UJ UK UL UM UN UO UP UQ UR US UT UU UW UX UY UZ U1 U6 U7 U8 Va Vb Vc Vd Ve Vf Vg Vh Vi Vj Vk Vl Vm Vn Vo Vp Vq Vr Vs Vt Vu Vv Vw Vx Vy Vz VA VB VC VD VE VF VG VH VI VJ VK VL VM VN
theorem Ty.mixed:prog.follows .mixedOrders=true:=by kernel_rfl
instance:A9 prog:=⟨Ty.mixed⟩
end
section
theorem U.cw {W w:World}{L R:List SP}{n c e:Nat}{cs:List Value}(I:U W w L)(ad:Option Addr)(bs:List UInt8)[k:fX L ad n c e 1 cs R](h:cs=bc bs)(hn:bs.length=n):aX w ad n bs:=by
 subst h;refine⟨hn,λe=>?_,λx hx hp=>?_⟩
 ·rcases k8 n with h0 | h0
  ·exact h0
  ·obtain⟨b,off,e2,_⟩:=I.bU ad h0;rw[e]at e2;cases e2
 ·obtain⟨b,off,e2,hr⟩:=I.bU ad hp;exact⟨b,off,by rw[hx]at e2;cases e2;rfl,hr⟩
theorem aX.nil {w:World}{ad:Option Addr}:aX w ad 0 []:=⟨rfl,λ_=>rfl,λ_ _ h=>absurd h (by decide)⟩
theorem aX.gw {W w:World}{L:List SP}{ad:Option Addr}{m:Nat}{bs:List UInt8}(h:aX W ad m bs)(I:U W w L):aX w ad m bs:=by
 refine⟨h.1,h.2.1,λx hx h0=>?_⟩;obtain⟨b,off,rfl,hr⟩:=h.2.2 x hx h0;refine⟨b,off,rfl,λj v hj=>?_⟩;have h1:=hr j v hj;rw[I.gw (a:=⟨b,off+j,none⟩) (World.block_lt_of_cell? _ _ h1)];exact h1
theorem rZ (ad:Option Addr)(c sz:Nat):fw ad 0 c sz=ad:=by
 unfold fw;split
 ·rfl
 ·cases ad with
  | none=>rfl
  | some a=>simp[Addr.add]
def lj (w:World)(ad:Option Addr)(m:Nat)(p:List (List UInt8)):Prop :=
 p.length=m∧(0<m→∃ b off,ad=some ⟨b,off,none⟩∧∀ j bs,p[j]?=some bs→∃ av c',w.cell? ⟨b,off+j,none⟩=some (.slice av bs.length c')∧aX w av bs.length bs)
theorem lj.take {w:World}{ad:Option Addr}{m n:Nat}{p:List (List UInt8)}(h:lj w ad m p)(hn:n≤m):lj w ad n (p.take n):=by
 refine⟨by rw[eA,h.1];omega,λh0=>?_⟩;obtain⟨b,off,h1,h2⟩:=h.2 (by omega);refine⟨b,off,h1,λj bs hj=>?_⟩;rw[uQ]at hj;by_cases qR:j<n
 ·rw[aj qR]at hj;exact h2 j bs hj
 ·rw[ag qR]at hj;cases hj
abbrev ee:=Option Addr×Nat×List UInt8
def aK (x:ee):Value:=.slice x.1 x.2.2.length x.2.1
def ba (x:ee):SP:=Sl 5 1 x.1 x.2.2.length x.2.1 (bc x.2.2)
def cj (ad:Option Addr)(n c:Nat)(p:List (List UInt8)):SP:=λh=>∃ xs:List ee,(xs.map (·.2.2)=p∧p.length=n)∧cp [Sl 22 1 ad n c (xs.map aK),ah ba xs] h
section
variable {W w:World}{L L' R:List SP}{ad:Option Addr}{n c:Nat}{p:List (List UInt8)}{xs:List ee}
theorem cj.open (I:U W w (cj ad n c p::L)):∃ xs:List ee,xs.map (·.2.2)=p∧p.length=n∧U W w (Sl 22 1 ad n c (xs.map aK)::ah ba xs::L):=by
 obtain⟨xs,⟨h1,h2⟩,h3⟩:=I.jS (ι:=List ee) (p:=λxs=>xs.map (·.2.2)=p∧p.length=n) (B:=λxs h=>cp [Sl 22 1 ad n c (xs.map aK),ah ba xs] h) (λh ⟨xs,h1,h2⟩=>⟨xs,h1,h2⟩);exact⟨xs,h1,h2,h3.open λ_ h=>h⟩
theorem cj.close (I:U W w L)[k:fM L (Sl 22 1 ad n c (xs.map aK)::ah ba xs::L') R](h1:xs.map (·.2.2)=p)(h2:p.length=n):U W w (cj ad n c p::L') :=
 U.shut (M:=[_,_]) (I.sub (M:=Sl 22 1 ad n c (xs.map aK)::ah ba xs::L')) (λ_ x=>⟨xs,⟨h1,h2⟩,x⟩)
theorem cj.le (I:U W w (cj ad n c p::L)):p.length=n∧n≤c:=by
 obtain⟨xs,h1,h2,h3⟩:=cj.open I;exact⟨h2,(h3.sl ad).2⟩
theorem cj.nil (I:U W w L):U W w (cj none 0 0 []::L):=by
 have h:U W w (Sl 22 1 none 0 0 (([]:List ee).map aK)::ah ba []::L):=(I.ji (f:=ba)).bQ 22 1 none;exact cj.close (xs:=[]) h rfl rfl
theorem cj.rd (I:U W w (cj ad n c p::L)):lj w ad n p:=by
 obtain⟨xs,h1,h2,h3⟩:=cj.open I;refine⟨h2,λh0=>?_⟩;obtain⟨b,off,rfl,hr⟩:=h3.bU ad h0;refine⟨b,off,rfl,λj bs hj=>?_⟩;rw[← h1,bd]at hj;obtain⟨x,hx,rfl⟩:=r0.1 hj;obtain⟨b7,hE⟩:=a2.1 hx;refine⟨x.1,x.2.1,hr j _ (by rw[bd,hx];rfl),?_⟩;have h4:=(h3.perm (c1 _ _ _)).fA b7;rw[hE]at h4;have h5:U W w (Sl 5 1 x.1 x.2.2.length x.2.1 (bc x.2.2)::_):=h4;exact h5.cw x.1 x.2.2 rfl rfl
theorem ts {bs:List UInt8}{m:Nat}(I:U W w L)(hr:∀ w',U W w' L→aX w' ad m bs)(hb:m≤1099511627776) :
   Calls prog 95 #[.slice ad m c] w λe w'=>∃ av c',e=.returned (.slice av m c')∧U W w' (Sl 5 1 av m c' (bc bs)::L):=by
 obtain⟨h1,h2,h3⟩:=hr _ I;cases ad with
 | none =>
  obtain rfl:=h2 rfl;obtain rfl:bs=[]:=hs h1;refine EN func95 ntmps95 rfl rfl λa E=>?_;refine RN 6 E I λa E=>?_;replace E:=E.ek 4;refine RT 3 E I ?_;exact⟨_,_,rfl,I.bQ _ _ _⟩
 | some a =>
  rcases k8 m with h0 | h0
  ·subst h0;obtain rfl:bs=[]:=hs h1;refine EN func95 ntmps95 rfl rfl λa E=>?_;refine RN 6 E I λa E=>?_;replace E:=E.aQ 4;refine RN 2 E I λa E=>?_;refine uZ E rfl I bj Ty.t5 rfl λb5 a w E I ho=>?_;clear ho;refine RN 1 E I λa E=>?_;refine Er E rfl bj Ty.t5 rfl (a7 _) λa E=>?_;refine RT 1 E I ?_;exact⟨_,_,rfl,I⟩
  ·obtain⟨b,off,rfl,_⟩:=h3 a rfl h0;refine EN func95 ntmps95 rfl rfl λa E=>?_;refine RN 6 E I λa E=>?_;replace E:=E.aQ 4;refine RN 2 E I λa E=>?_;refine uZ E rfl I bj Ty.t5 rfl λb5 a w E I ho=>?_;clear ho;refine RN 1 E I λa E=>?_;obtain⟨b',dK,hx,da⟩:=(hr _ I.tail).2.2 _ rfl h0;cases hx;refine cR E rfl I bj Ty.t5 rfl rfl da (by rw[dA,h1,fB]) (ez bs) h0 (by decide) (by omega) λtt r4 a w E I=>?_;rw[ei]at E I;refine RT 1 E I ?_;exact⟨_,_,rfl,I⟩
theorem qS (a b:List UInt8):((⟨a.toArray⟩:ByteArray).data.toList==(⟨b.toArray⟩:ByteArray).data.toList)=(a==b):=rfl
theorem Kw {a b:List UInt8}{ad2:Option Addr}{m n c2:Nat}(di:aX w ad m a)(lP:aX w ad2 n b) :
   Calls prog 313 #[.slice ad m c,.slice ad2 n c2] w λe w'=>e=.returned (.bool (a==b))∧w'=w:=by
 have I:=U.start w;refine EN func313 ntmps313 rfl rfl λa E=>?_;refine RN 4 E I λa E=>?_;refine SS E (lQ E bj dF gB (di)) λa E=>?_;refine RN 1 E I λa E=>?_;refine SS E (lQ E bj dF gB (lP)) λa E=>?_;refine RN 0 E I λa E=>?_;refine SS E (td E) λa E=>?_;refine RT 1 E I ?_;exact⟨by rw[qS],rfl⟩
theorem VO {p q:List (List UInt8)}{k:Nat}{x y:List UInt8}(h:p.take k=q.take k)(hx:p[k]?=some x)(hy:q[k]?=some y):(p.take (k+1)=q.take (k+1))↔x=y:=by
 obtain⟨h1,rfl⟩:=a2.1 hx;obtain⟨h2,rfl⟩:=a2.1 hy;rw[jD h1,jD h2,h];exact⟨λe=>by have:=List.append_cancel_left e;simpa using this,λe=>by rw[e]⟩
theorem VP {p q:List (List UInt8)}{ad2:Option Addr}{m c2:Nat}(hp:lj w ad m p)(hq:lj w ad2 m q)(hb:m≤1099511627776) :
   Calls prog 312 #[.slice ad m c,.slice ad2 m c2,.func (.func 313) #[] #[]] w λe w'=>e=.returned (.bool (p==q))∧w'=w:=by
 have eI:=hp.1;have VQ:=hq.1;obtain⟨W,yR⟩:∃ W,w=W:=⟨w,rfl⟩;have I:U W w []:=yR ▸ U.start w;refine EN func312 ntmps312 rfl rfl λa E=>?_;refine RN 9 E I λa E=>?_;rw[S6]at E;replace E:=E.aQ 14;refine RN 6 E I λa E=>?_;refine aL (λμ a w=>∃ k:Nat,(μ=m-k∧k≤m∧p.take k=q.take k∧w=W)∧Fr a 32 [(1,.slice ad2 m c2),(2,.func (.func 313) #[] #[]),(15,.slice ad m c),(16,.int .i64 m),(17,.int .i64 k)]∧U W w []) (m) (⟨0,⟨by simp,by simp,by simp,yR⟩,E.ab [1,2,15,16,17],I⟩) ?_;clear E I;rintro μ a w ⟨k,⟨rfl,hk,E4,Bm⟩,E,I⟩;subst Bm yR;refine IF 3 E I (λao a E=>?_) λao a E=>?_
 ·
  refine RN 2 E I λa E=>?_;obtain⟨b1,o1,rfl,h1⟩:=hp.2 (by omega);obtain⟨b2,qT,rfl,h2⟩:=hq.2 (by omega);have eN:p[k]?=some p[k]:=aD (by omega);have dm:q[k]?=some q[k]:=aD (by omega);obtain⟨cV,c1',VR,fl⟩:=h1 k _ eN;obtain⟨cc,c2',VS,eO⟩:=h2 k _ dm;have Ky:=VO E4 eN dm;refine RN 2 E I λa E=>?_;refine SS E (ae E (VR)) λa E=>?_;refine RN 6 E I λa E=>?_;refine SS E (ae E (VS)) λa E=>?_;refine CL 5 E I (Kw fl eO) λa w E hx=>?_;obtain rfl:=hx;refine IF 1 E (U.start _) (λay a E=>?_) λay a E=>?_
  ·
   have bq:¬ p[k]=q[k]:=by simpa using ay
   refine RT 2 E (U.start _) ?_;refine⟨?_,rfl⟩;have:(p==q)=false:=by
    rw[mj];intro e;exact bq (Ky.1 (by rw[e]))
   rw[this]
  have heq:p[k]=q[k]:=by simpa using ay
  refine RN 2 E (U.start _) λa E=>?_;exact⟨m-(k+1),by omega,k+1,⟨rfl,by omega,Ky.2 heq,rfl⟩,E.ab [1,2,15,16,17],U.start _⟩
 refine RT 2 E I ?_;obtain rfl:k=m:=by omega
 rw[gl (by omega),gl (by omega)]at E4;subst E4;exact⟨by rw[beq_self_eq_true],rfl⟩
def iQ (w:World)(ad:Option Addr)(xs:List ee):Prop:=(0<xs.length→∃ b off,ad=some ⟨b,off,none⟩∧Rd w b off (xs.map aK))∧∀ x∈xs,aX w x.1 x.2.2.length x.2.2
theorem iQ.bb (h:iQ w ad xs):lj w ad xs.length (xs.map (·.2.2)):=by
 refine⟨by simp,λh0=>?_⟩;obtain⟨b,off,h1,h2⟩:=h.1 h0;refine⟨b,off,h1,λj bs hj=>?_⟩;rw[bd]at hj;obtain⟨x,hx,rfl⟩:=r0.1 hj;exact⟨x.1,x.2.1,h2 j _ (by rw[bd,hx];rfl),h.2 x (bI hx)⟩
theorem U.mQ {m:Nat}(I:U W w (Sl 22 1 ad m c (xs.map aK)::ah ba xs::L)):iQ w ad xs:=by
 have hm:xs.length=m:=by have:=(I.sl ad).1;simpa using this
 refine⟨λh0=>I.bU ad (by omega),λx hx=>?_⟩;obtain⟨i,hi,rfl⟩:=List.mem_iff_getElem.1 hx;have h4:=(I.perm (c1 _ _ _)).fA hi;have h5:U W w (Sl 5 1 xs[i].1 xs[i].2.2.length xs[i].2.1 (bc xs[i].2.2)::_):=h4;exact h5.cw xs[i].1 xs[i].2.2 rfl rfl
end
end
end Go.Proofs.YteoldcfapaiobaaGreat
