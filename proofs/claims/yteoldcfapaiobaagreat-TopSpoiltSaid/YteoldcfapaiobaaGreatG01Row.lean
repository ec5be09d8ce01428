/- Rows of structs: a list laid out flat, so many cells each. -/
import Derived.Test.YteoldcfapaiobaaGreatG00Sl
import Derived.Laws.RangeAny
import Derived.Laws.Strings
import Derived.Laws.MakeOwn
import Derived.KernelRfl
import Derived.Test.YteoldcfapaiobaaGreatProg
namespace Go.Proofs.YteoldcfapaiobaaGreat
open Tryz
open List (all_eq_true drop_zero take_succ_cons nil_append map_cons getElem?_cons_succ mem_range getElem?_toArray drop_eq_nil_of_le ext_getElem getElem_map cons_append eraseIdx_set_eq append_nil)
open Go.RowKit
set_option linter.unusedVariables false
set_option linter.unusedSimpArgs false
set_option maxRecDepth 10000
set_option synthInstance.maxSize 4000
set_option synthInstance.maxHeartbeats 400000
section
theorem Rw {x:Int}:decide (x≠x)=false:=by simp
def rows {α:Type}(f:α→List Value)(l:List α):List Value:=l.flatMap f
section
variable {α:Type}{f:α→List Value}{sz:Nat}
theorem oD (x:α)(l:List α):rows f (x::l)=f x++rows f l:=rfl
theorem kG (l m:List α):rows f (l++m)=rows f l++rows f m:=by simp[rows]
theorem Aj (h1:∀ x,∀ v∈f x,v.oneCell'=true)(l:List α):∀ v∈rows f l,v.oneCell'=true:=by
 intro v hv;simp only[rows,List.mem_flatMap]at hv;obtain⟨x,_,hx⟩:=hv;exact h1 x v hx
theorem jw (hf:∀ x,(f x).length=sz)(l:List α):(rows f l).length=l.length*sz:=by
 induction l with
 | nil=>simp[rows]
 | cons x l ih=>rw[oD,aJ,hf,ih,eH,Nat.succ_mul,Nat.add_comm]
theorem I2 (hf:∀ x,(f x).length=sz)(l:List α)(i:Nat):(rows f l).drop (i*sz)=rows f (l.drop i):=by
 induction i generalizing l with
 | zero=>simp
 | succ i ih =>
  cases l with
  | nil=>simp[rows]
  | cons x l=>rw[oD,Nat.succ_mul,Nat.add_comm,← kA,List.drop_left' (hf x),ih,List.drop_succ_cons]
theorem Rx (hf:∀ x,(f x).length=sz)(l:List α)(i:Nat):(rows f l).take (i*sz)=rows f (l.take i):=by
 induction i generalizing l with
 | zero=>simp[rows]
 | succ i ih =>
  cases l with
  | nil=>simp[rows]
  | cons x l =>
   rw[oD,Nat.succ_mul,Nat.add_comm,uy,hf,gi (by rw[hf];omega),show sz+i*sz-sz=i*sz from by omega,ih,take_succ_cons,oD]
theorem wa (hf:∀ x,(f x).length=sz)(l:List α)(i:Nat)(h:i<l.length):((rows f l).drop (i*sz)).take sz=f l[i]:=by
 rw[I2 hf,kH h,oD,List.take_left' (hf _)]
theorem Dw (hf:∀ x,(f x).length=sz)(l:List α){i k:Nat}{v:Value}(h:i<l.length)(hv:(f l[i])[k]?=some v):(rows f l)[i*sz+k]?=some v:=by
 have hk:k<sz:=by rw[← hf l[i]];exact (aY.1 hv).1
 have:=wa hf l i h;rw[← this,vV,ak hk,qw]at hv;exact hv
theorem I3 (hf:∀ x,(f x).length=sz)(l:List α){i:Nat}(x:α)(h:i<l.length):cG (rows f l) (i*sz) (f x)=rows f (l.set i x):=by
 rw[rr,ak h,kG,oD,cG,Rx hf,hf,show i*sz+sz=(i+1)*sz from by rw[Nat.succ_mul],I2 hf,dx]
theorem qG (hf:∀ x,(f x).length=sz)(l:List α){i k:Nat}{v:Value}(x:α)(h:i<l.length)(hk:k<sz)(hx:(f l[i]).set k v=f x):(rows f l).set (i*sz+k) v=rows f (l.set i x):=by
 have h0:l=l.take i++l[i]::l.drop (i+1):=by rw[← kH h,j0]
 have we:l.set i x=l.take i++x::l.drop (i+1):=by rw[rr,ak h]
 rw[we,kG,oD]
 conv=>lhs;rw[h0,kG,oD]
 have hl:(rows f (l.take i)).length=i*sz:=by rw[jw hf];simp;rw[Nat.min_eq_left (by omega)]
 rw[uz _ _ (by omega),hl,show i*sz+k-i*sz=k from by omega,sT _ _ (by rw[hf];exact hk),hx]
theorem Ry (A B C vs:List Value)(k:Nat)(hk:k+vs.length≤B.length):cG (A++(B++C)) (A.length+k) vs=A++(cG B k vs++C):=by
 have e1:(A++(B++C)).take (A.length+k)=A++B.take k:=by
  rw[uy,gi (by omega),show A.length+k-A.length=k from by omega,List.take_append_of_le_length (by omega)]
 have e2:(A++(B++C)).drop (A.length+k+vs.length)=B.drop (k+vs.length)++C:=by
  rw[List.drop_append,drop_eq_nil_of_le (by omega),show A.length+k+vs.length-A.length=k+vs.length from by omega,List.drop_append_of_le_length (by omega),nil_append]
 rw[cG,e1,e2,cG];simp only[dx]
theorem Rz (hf:∀ x,(f x).length=sz)(l:List α){i k:Nat}{vs:List Value}(x:α)(h:i<l.length)(hk:k+vs.length≤sz)(hx:cG (f l[i]) k vs=f x):cG (rows f l) (i*sz+k) vs=rows f (l.set i x):=by
 have h0:rows f l=rows f (l.take i)++(f l[i]++rows f (l.drop (i+1))):=by
  rw[← oD,← kG,← kH h,j0]
 have we:l.set i x=l.take i++x::l.drop (i+1):=by rw[rr,ak h]
 have hl:(rows f (l.take i)).length=i*sz:=by rw[jw hf];simp;rw[Nat.min_eq_left (by omega)]
 rw[we,kG,oD,h0,← hl,Ry _ _ _ _ _ (by rw[hf];exact hk),hx]
theorem RA (hf:∀ x,(f x).length=sz)(l:List α){i k m:Nat}(h:i<l.length)(hk:k+m≤sz):((rows f l).drop (i*sz+k)).take m=((f l[i]).drop k).take m:=by
 have:=wa hf l i h;rw[← this,List.drop_take,List.take_take,kA,Nat.min_eq_left (by omega)]
end
def fn (m:Nat)(g:Nat→Value):List Value:=(List.range m).map g
theorem I4 (m:Nat)(g:Nat→Value):(fn m g).length=m:=by simp[fn]
theorem I5 {m k:Nat}(g:Nat→Value)(h:k<m):(fn m g)[k]?=some (g k):=by simp[fn,h]
theorem Dx {m:Nat}{g g':Nat→Value}(h:∀ k,k<m→g k=g' k):fn m g=fn m g':=by
 simp only[fn];exact List.map_congr_left λk hk=>h k (mem_range.1 hk)
theorem I6 {m k:Nat}(g:Nat→Value)(v:Value):(fn m g).set k v=fn m (λj=>if j=k then v else g j):=by
 apply ext_getElem (by simp[fn]);intro i h1 h2;simp only[fn,List.getElem_set,getElem_map,List.getElem_range];by_cases h:k=i
 ·simp[h]
 ·rw[ag h,ag (λe=>h e.symm)]
theorem RB {m:Nat}{g:Nat→Value}(h:∀ k,(g k).oneCell'=true):∀ v∈fn m g,v.oneCell'=true:=by
 intro v hv;simp only[fn,cR]at hv;obtain⟨k,_,rfl⟩:=hv;exact h k
theorem RC {m k n:Nat}(g:Nat→Value)(h:k+n≤m):((fn m g).drop k).take n=fn n (λj=>g (k+j)):=by
 apply ext_getElem (by simp[fn];omega);intro i h1 h2;simp[fn]
def ck (g:Nat→Int)(c:Nat)(v:Int):Nat→Int:=λj=>if j=c then v else g j
def ints (k:IntKind)(m:Nat)(g:Nat→Int):List Value:=fn m (λj=>.int k (g j))
theorem dj (k:IntKind)(m:Nat)(g:Nat→Int):(ints k m g).length=m:=I4 _ _
theorem fV {k:IntKind}{m j:Nat}(g:Nat→Int)(h:j<m):(ints k m g)[j]?=some (.int k (g j)):=I5 _ h
theorem uD {k:IntKind}{m:Nat}{g:Nat→Int}:∀ v∈ints k m g,v.oneCell'=true:=RB λ_=>rfl
theorem ints_set {k:IntKind}{m j:Nat}(g:Nat→Int)(v:Int):(ints k m g).set j (.int k v)=ints k m (λi=>if i=j then v else g i):=by
 rw[ints,I6];exact Dx λi _=>by by_cases h:i=j <;> simp[h]
theorem RD {k:IntKind}{m j n:Nat}(g:Nat→Int)(h:j+n≤m):((ints k m g).drop j).take n=ints k n (λi=>g (j+i)):=RC _ h
theorem x7 {k:IntKind}{m:Nat}{g g':Nat→Int}(h:∀ j,j<m→g j=g' j):ints k m g=ints k m g':=Dx λj hj=>by rw[h j hj]
class wg (fT:List (List Value))(out:outParam (List Value)):Prop where h:fT.flatten=out
instance wg.nil:wg [] []:=⟨rfl⟩
instance wg.one {x fT out}[k:wg fT out]:wg ([x]::fT) (x::out):=⟨by rw[List.flatten_cons,k.h];rfl⟩
instance mH.ints {k m g}:mH (ints k m g) m:=⟨dj k m g⟩
section
variable {P:Program}{ops:Array Oper}{Q:Exit→Act→World→Prop}{a:Act}{w w' W:World}{K:Act→World→Prop}{n d:Nat}{l:List (Nat×Value)}{v:Value}{L R:List SP}
theorem wi {x y k i j t u dst ty ps af g}(E:Fr a n l)(h:j≠0)(hi:k.wrap (i.tdiv j)=i.tdiv j)[e:Ev l x (.int k i)][f:Ev l y (.int k j)] :
   (execOp a.eval ⟨dst,.binOp .quo t x y u,ty,ps,af,g⟩).run P w=.ok (.value (.int k (i.tdiv j))) w:=by
 have:k.wrap (i.tdiv j)=i.tdiv j:=hi;simp[execOp,e.ev a n E,f.ev a n E,eqGuard,binOp,Op.intDiv,h,this]
theorem Ak {x y k i j t u dst ty ps af g}(E:Fr a n l)(h:j≠0)[e:Ev l x (.int k i)][f:Ev l y (.int k j)] :
   (execOp a.eval ⟨dst,.binOp .rem t x y u,ty,ps,af,g⟩).run P w=.ok (.value (.int k (i.tmod j))) w:=by
 simp[execOp,e.ev a n E,f.ev a n E,eqGuard,binOp,Op.intDiv,h]
theorem rA (i:Nat)(j:Nat):(i:Int).tdiv (j:Int)=((i/j:Nat):Int):=by rw[Int.natCast_ediv,Int.tdiv_eq_ediv_of_nonneg (by omega)]
theorem oG (i:Nat)(j:Nat):(i:Int).tmod (j:Int)=((i%j:Nat):Int):=by rw[Int.natCast_emod,Int.tmod_eq_emod_of_nonneg (by omega)]
theorem sX {x y k i j vs t el m ej z a2 dst ty ps af g}(E:Fr a n l)(hu:P.underlying t=some (.array m el))(hd:P.underlying el=some ej)(h1:ow ej=true)(hi:TI P el z 1 a2)
   [ev:Ev l x (.agg (List.toArray vs))] [g3:Ev l y (.int k i)] [nj:ey i j] (hlt:j<m) (hv:vs[j]?=some v) :
   (execOp a.eval ⟨dst,.index t x y,ty,ps,af,g⟩).run P w=.ok (.value v) w:=by
 have:=nj.h;subst this;have x8:(part el vs.toArray j).run P w=.ok v w:=by
  have Dy:(isAgg el).run P w=.ok false w:=by
   simp only[isAgg,Sem.run_bind,eQ hd,Result.andThen_ok];cases ej <;> first | rfl | (simp[ow]at h1)
  simp[part,Dy,hv]
 simp[execOp,ev.ev a n E,g3.ev a n E,Instr.index,asIntOf,eQ hu,mE hi,hlt,x8]
theorem RE {x b off m t el z sz a2 dst ty ps af g}(E:Fr a n l)[ev:Ev l x (.pointer (some ⟨b,off,none⟩))](ht:P.underlying t=some (.array m el))(hi:TI P el z sz a2) :
   (execOp a.eval ⟨dst,.slice t x none none none,ty,ps,af,g⟩).run P w=.ok (.value (.slice (some ⟨b,off,none⟩) m m)) w:=by
 simp[execOp,ev.ev a n E,Instr.sliceAt,Instr.sliceBounds,eQ ht,mE hi,Instr.sureAddr,lF]
theorem gr {x k k' i s t dst ty ps af g}(E:Fr a n l)(I:P.underlying s=some (.int k))(ht:P.underlying t=some (.int k'))[ev:Ev l x (.int k i)] :
   (execOp a.eval ⟨dst,.convert s t x,ty,ps,af,g⟩).run P w=.ok (.value (.int k' (k'.wrap i))) w:=by
 simp[execOp,ev.ev a n E,convert,eQ I,eQ ht,Conv.intToInt]
theorem pH {x k k' i s t dst ty ps af g}(E:Fr a n l)(I:P.underlying s=some (.int k))(ht:P.underlying t=some (.int k'))(hw:k'.wrap i=i)[ev:Ev l x (.int k i)] :
   (execOp a.eval ⟨dst,.convert s t x,ty,ps,af,g⟩).run P w=.ok (.value (.int k' i)) w:=by
 rw[gr E I ht,hw]
theorem Dz {t el m z zs sz a2 RF Al be parts fT out dst ty ps af g}(E:Fr a n l)(hu:P.underlying t=some (.array m el))(hi:TI P t z sz a2)[Dm:Cells z zs](he:TI P el RF Al be)
   [sS:ux l parts 0 fT] (hc:(fT.all λc=>c.length==Al)=true) (hz:zs.length=fT.length*Al) [iY:wg fT out] :
   (execOp a.eval ⟨dst,.build t (List.toArray parts),ty,ps,af,g⟩).run P w=.ok (.value (.agg out.toArray)) w:=by
 obtain⟨vs,e1,e2⟩:=sS.h a n E;have hf:=Di (sz:=Al) fT vs 0 [] zs e2 (λc xZ=>by simpa using all_eq_true.1 hc c xZ) (by simp) hz;simp only[nil_append]at hf;rw[iY.h]at hf;simp only[execOp,Sem.run_bind,Instr.build,uu hi,Result.andThen_ok,eQ hu,mE he,Dm.h,List.map_toArray,e1];simp[hf]
theorem RG {x y b off m t el z sz a2 k i j dst ty ps af g}(E:Fr a n l)[ev:Ev l x (.pointer (some ⟨b,off,none⟩))](ht:P.underlying t=some (.array m el))(hi:TI P el z sz a2)[g3:Ev l y (.int k i)][nj:ey i j](h:j<m) :
   (execOp a.eval ⟨dst,.slice t x (some y) none none,ty,ps,af,g⟩).run P w=.ok (.value (.slice (some ⟨b,off+j*sz,none⟩) (m-j) (m-j))) w:=by
 have:=nj.h;subst this;have h2:¬ (m=j):=by omega
 simp[execOp,ev.ev a n E,g3.ev a n E,Instr.sliceAt,Instr.sliceBounds,Instr.sliceBound,asIntOf,eQ ht,mE hi,Instr.sureAddr,lF,Nat.le_of_lt h,h2]
theorem RJ {x y t t2 el z sz a2 b off m c b2 gS Am c2 k vs e cs ty ps af g}(E:Fr a n l)(hw:Region.wanted ⟨some d,.call ⟨.builtin .copy,#[x,y],#[t,t2]⟩,ty,ps,af,g⟩ (yielded ops a.tmps)=true)(I:U W w L)
   (ht:P.underlying t=some (.slice el)) (hi:TI P el z sz a2) (hf:okB d n l=true) [ev:Ev l x (.slice (some ⟨b,off,none⟩) m c)] [g3:Ev l y (.slice (some ⟨b2,gS,none⟩) Am c2)] [Dr:fH L b e cs R]
   (hk:min Am m=k) (hr:Rd w b2 gS vs) (hl:vs.length=k*sz) (h1:∀ v∈vs,v.oneCell'=true) (hle:off+vs.length≤cs.length)
   (h:∀ a' w',Fr a' n ((d,.int .i64 k)::l)→U W w' (aa b e (cG cs off vs)::R)→K a' w'):cJ P ops Q ⟨some d,.call ⟨.builtin .copy,#[x,y],#[t,t2]⟩,ty,ps,af,g⟩ K a w:=by
 obtain⟨i,lG,dL,kX,qz⟩:=info_parts hi.h;have g2:=I.jZ b;have ox:∀ j v,vs[j]?=some v→w.cell? ((⟨b2,gS,none⟩:Addr).add j)=some v:=λj v hj=>by rw[lF];exact hr j v hj
 have jv:=run_firstCells_some (P:=P) w sz k ⟨b2,gS,none⟩ Am c2 vs hl ox;have aS:=run_storeCells_at (P:=P) b off e vs 0 cs.toArray w g2.has.2 (by simpa using hle) h1;have rv:(storeCells ⟨b,off,none⟩ vs).run P w=.ok () (w.setRow b (cG cs off vs).toArray):=by simpa [cG] using aS
 refine bw (v:=.int .i64 k) (w':=w.setRow b (cG cs off vs).toArray) E hw ?_ hf (λa' dh=>h a' _ dh g2.setRow);simp[execOp,resolve,ev.ev a n E,g3.ev a n E,invoke,builtin,Builtin.copy_,eQ ht,sizeOf,typeInfo,lG,kX,Builtin.lenOf,hk,jv,rv,goInt]
end
def ah {α:Type}(f:α→SP)(l:List α):SP:=λh=>cm (l.map f) h
section
variable {α:Type}{f:α→SP}{W w:World}{L:List SP}
theorem sY {β:Type}(l:List β){i:Nat}(h:i<l.length):l.Perm (l[i]::l.eraseIdx i):=by
 conv=>lhs;rw[← j0 i l,kH h]
 rw[sZ];exact nP
theorem U.ja (I:U W w L):U W w (ah f []::L) :=
 ⟨I.below,let ⟨h,p,q⟩:=I.sat;⟨h,p,λ_=>none,h,λ_=>.inl rfl,λ_ _ e=>(by cases e),Hp.Sub.refl _,trivial,q⟩⟩
theorem U.fy {l:List α}(I:U W w (ah f l::L)){i:Nat}(h:i<l.length):U W w (f l[i]::ah f (l.eraseIdx i)::L):=by
 have h1:=I.open (M:=l.map f) (λ_ x=>x);have hp:=((sY l h).map f).append_right L;have h2:=h1.perm hp;simp only[map_cons,cons_append]at h2;refine U.perm (L:=ah f (l.eraseIdx i)::f l[i]::L) ?_ (cZ _ _ _);exact U.shut (M:=(l.eraseIdx i).map f) (h2.perm nP.symm) (λ_ x=>x)
theorem U.wj {l:List α}{x:α}(I:U W w (f x::ah f l::L)):U W w (ah f (x::l)::L):=by
 have h1:=(I.perm (cZ _ _ _)).open (M:=l.map f) (λ_ x=>x);exact U.shut (M:=(x::l).map f) (h1.perm nP) (λ_ x=>x)
theorem U.I7 {l l':List α}(I:U W w (ah f l::L))(hp:l.Perm l'):U W w (ah f l'::L):=by
 have h1:=I.open (M:=l.map f) (λ_ x=>x);exact U.shut (M:=l'.map f) (h1.perm ((hp.map f).append_right L)) (λ_ x=>x)
theorem U.kZ {l:List α}{x:α}{i:Nat}(h:i<l.length)(I:U W w (f x::ah f (l.eraseIdx i)::L)):U W w (ah f (l.set i x)::L):=by
 refine I.wj.I7 ?_;have hi:i<(l.set i x).length:=by simpa using h
 have:=sY (l.set i x) hi;rw[oH,eraseIdx_set_eq]at this;exact this.symm
theorem U.j1 {l:List α}{x:α}(I:U W w (f x::ah f l::L)):U W w (ah f (l++[x])::L) :=
 I.wj.I7 (List.perm_append_comm (l₁:=[x]))
end
end
section
def pI (s:ByteArray)(pos:Nat):List Value:=if pos<s.size then [.bool true,.int .i64 pos,.int .i32 (Utf8.decode s pos).1] else [.bool false]
def ec (s:ByteArray)(pos:Nat):Nat:=if pos<s.size then pos+(Utf8.decode s pos).2 else pos
theorem DA (s:ByteArray)(pos:Nat):(pI s pos)[0]?=some (.bool (decide (pos<s.size))):=by
 by_cases h:pos<s.size <;> simp[pI,h]
theorem RK {s:ByteArray}{pos:Nat}(h:pos<s.size):(pI s pos)[1]?=some (.int .i64 pos):=by simp[pI,h]
theorem DB {s:ByteArray}{pos:Nat}(h:pos<s.size):(pI s pos)[2]?=some (.int .i32 (Utf8.decode s pos).1):=by simp[pI,h]
section
variable {P:Program}{ops:Array Oper}{Q:Exit→Act→World→Prop}{a:Act}{w w' W:World}{K:Act→World→Prop}{o:Oper}{n d:Nat}{l:List (Nat×Value)}{v:Value}{L R:List SP}
theorem DD {t x s ty ps af g}(E:Fr a n l)(hw:Region.wanted ⟨some d,.range t x,ty,ps,af,g⟩ (yielded ops a.tmps)=true)(I:U W w L)(ht:P.underlying t=some .string)[ev:Ev l x (.string s)]
   (hf:okB d n l=true) (h:∀ b a' w',Fr a' n ((d,.pointer (some ⟨b,0,none⟩))::l)→U W w' (kW b (.stringIter s 0)::L)→Old w w'→K a' w'):cJ P ops Q ⟨some d,.range t x,ty,ps,af,g⟩ K a w:=by
 refine bw (v:=.pointer (some ⟨w.heap.size,0,none⟩)) (w':=w.alloc (.stringIter s 0)) E hw ?_ hf (λa' dh=>h _ _ _ dh (I.alloc _) (Old.alloc _ _));have:=run_range_string (P:=P) w t s ht;simp[execOp,ev.ev a n E,this,World.iter]
class DE (L:List SP)(b:Nat)(o:outParam Obj)(R:outParam (List SP)):Prop where perm:L.Perm (kW b o::R)
instance DE.head {L b o}:DE (kW b o::L) b o L:=⟨lE _⟩
theorem DF {x s pos b ty ps af g}(E:Fr a n l)(hw:Region.wanted ⟨some d,.next x true,ty,ps,af,g⟩ (yielded ops a.tmps)=true)(I:U W w L)[ev:Ev l x (.pointer (some ⟨b,0,none⟩))][k:DE L b (.stringIter s pos) R]
   (hf:okB d n l=true) (h:∀ a' w',Fr a' n ((d,.tuple (List.toArray (pI s pos)))::l)→U W w' (kW b (.stringIter s (ec s pos))::R)→K a' w'):cJ P ops Q ⟨some d,.next x true,ty,ps,af,g⟩ K a w:=by
 have oA:=I.perm k.perm;have hb:=oA.has.2;by_cases hp:pos<s.size
 ·have dz:=oA.ck (o':=.stringIter s (ec s pos)) (w':={ w with heap:=w.heap.setIfInBounds b (.stringIter s (ec s pos)) }) rfl rfl rfl rfl;refine bw (v:=.tuple (List.toArray (pI s pos))) (w':={ w with heap:=w.heap.setIfInBounds b (.stringIter s (ec s pos)) }) E hw ?_ hf (λa' dh=>h a' _ dh dz);simp[execOp,ev.ev a n E,Instr.next,getObj,setObj,Sem.run,hb,hp,goInt,pI,ec,Sem.run_bind]
 ·have e:ec s pos=pos:=by simp[ec,hp]
  refine bw (v:=.tuple (List.toArray (pI s pos))) (w':=w) E hw ?_ hf (λa' dh=>h a' _ dh (by rw[e];exact oA));simp[execOp,ev.ev a n E,Instr.next,getObj,Sem.run,hb,hp,pI,Sem.run_bind]
theorem RL {x s t dst ty ps af g}(E:Fr a n l)[ev:Ev l x (.string s)](hu:P.underlying t=some .string) :
   (execOp a.eval ⟨dst,.call ⟨.builtin .len,#[x],#[t]⟩,ty,ps,af,g⟩).run P w=.ok (.value (.int .i64 s.size)) w:=by
 simp[execOp,resolve,ev.ev a n E,invoke,builtin,Builtin.len_,eQ hu,goInt]
theorem An {x y s k i j t dst ty ps af g}(E:Fr a n l)(hu:P.underlying t=some .string)[ev:Ev l x (.string s)][g3:Ev l y (.int k i)][nj:ey i j](h:j<s.size) :
   (execOp a.eval ⟨dst,.index t x y,ty,ps,af,g⟩).run P w=.ok (.value (.int .u8 (s[j]'h).toNat)) w:=by
 have:=nj.h;subst this;have h2:=run_index_string (P:=P) w t s k (j:Int) hu;have h3:0≤(j:Int)∧(j:Int)<s.size:=by omega
 rw[dif_pos h3]at h2;simp[execOp,ev.ev a n E,g3.ev a n E,h2]
theorem DG {x y s k i j t dst ty ps af g}(E:Fr a n l)(hu:P.underlying t=some .string)[ev:Ev l x (.string s)][g3:Ev l y (.int k i)][nj:ey i j](h:j≤s.size) :
   (execOp a.eval ⟨dst,.slice t x (some y) none none,ty,ps,af,g⟩).run P w=.ok (.value (.string (s.extract j s.size))) w:=by
 have:=nj.h;subst this;have h2:=run_slice_string_l (P:=P) w t s hu k (j:Int) (by omega) (by omega);simp only[c8]at h2;simp[execOp,ev.ev a n E,g3.ev a n E,run_sliceAt_string (P:=P) (w:=w) t _ _ _ _ hu,h2]
theorem I8 {x y k i k' j jn t u dst ty ps af g}(E:Fr a n l)[e:Ev l x (.int k i)][f:Ev l y (.int k' j)][nj:ey j jn](h:jn≤k.bits) :
   (execOp a.eval ⟨dst,.binOp .shl t x y u,ty,ps,af,g⟩).run P w=.ok (.value (.int k (k.wrap (i*2 ^ jn)))) w:=by
 have:=nj.h;subst this;have h2:min jn k.bits=jn:=Nat.min_eq_left h;have h3:¬ ((jn:Int)<0):=by omega
 simp[execOp,e.ev a n E,f.ev a n E,eqGuard,binOp,Op.shift,h2,h3]
theorem RM {x y k i k' j jn t u dst ty ps af g}(E:Fr a n l)[e:Ev l x (.int k i)][f:Ev l y (.int k' j)][nj:ey j jn](h:jn≤k.bits) :
   (execOp a.eval ⟨dst,.binOp .shr t x y u,ty,ps,af,g⟩).run P w=.ok (.value (.int k (i.fdiv (2 ^ jn)))) w:=by
 have:=nj.h;subst this;have h2:min jn k.bits=jn:=Nat.min_eq_left h;have h3:¬ ((jn:Int)<0):=by omega
 simp[execOp,e.ev a n E,f.ev a n E,eqGuard,binOp,Op.shift,h2,h3]
theorem RO {x y k i j t u dst ty ps af g}(E:Fr a n l)[e:Ev l x (.int k i)][f:Ev l y (.int k j)] :
   (execOp a.eval ⟨dst,.binOp .or t x y u,ty,ps,af,g⟩).run P w=.ok (.value (.int k (k.wrap ((BitVec.ofInt k.bits i ||| BitVec.ofInt k.bits j).toNat)))) w:=by
 simp[execOp,e.ev a n E,f.ev a n E,eqGuard,binOp,Op.intBits]
theorem RP {x y k i j t u dst ty ps af g}(E:Fr a n l)[e:Ev l x (.int k i)][f:Ev l y (.int k j)] :
   (execOp a.eval ⟨dst,.binOp .and t x y u,ty,ps,af,g⟩).run P w=.ok (.value (.int k (k.wrap ((BitVec.ofInt k.bits i &&& BitVec.ofInt k.bits j).toNat)))) w:=by
 simp[execOp,e.ev a n E,f.ev a n E,eqGuard,binOp,Op.intBits]
theorem RQ {x y k i j t u dst ty ps af g}(E:Fr a n l)[e:Ev l x (.int k i)][f:Ev l y (.int k j)] :
   (execOp a.eval ⟨dst,.binOp .xor t x y u,ty,ps,af,g⟩).run P w=.ok (.value (.int k (k.wrap ((BitVec.ofInt k.bits i ^^^ BitVec.ofInt k.bits j).toNat)))) w:=by
 simp[execOp,e.ev a n E,f.ev a n E,eqGuard,binOp,Op.intBits]
theorem RS {x k i t dst ty ps af g}(E:Fr a n l)[e:Ev l x (.int k i)] :
   (execOp a.eval ⟨dst,.unOp .xor t x,ty,ps,af,g⟩).run P w=.ok (.value (.int k (k.wrap ((BitVec.ofInt k.bits (if k.signed then -1 else k.max) ^^^ BitVec.ofInt k.bits i).toNat)))) w:=by
 simp[execOp,e.ev a n E,Op.unary,Op.intBits]
theorem RU {x k i t dst ty ps af g}(E:Fr a n l)[e:Ev l x (.int k i)] :
   (execOp a.eval ⟨dst,.unOp .neg t x,ty,ps,af,g⟩).run P w=.ok (.value (.int k (k.wrap (0-i)))) w:=by
 simp[execOp,e.ev a n E,Op.unary,Op.intArith]
theorem I9 {x y k i j t u dst ty ps af g}(E:Fr a n l)(h:j≠0)[e:Ev l x (.int k i)][f:Ev l y (.int k j)] :
   (execOp a.eval ⟨dst,.binOp .quo t x y u,ty,ps,af,g⟩).run P w=.ok (.value (.int k (k.wrap (i.tdiv j)))) w:=by
 simp[execOp,e.ev a n E,f.ev a n E,eqGuard,binOp,Op.intDiv,h]
theorem RV {t t':TypeId} {ms}(ht:P.underlying t=some (.interface ms))(v:Value)(k:Nat):(Op.equalIn (k+1) t (.iface t' v) .nilIface).run P w=.ok false w:=by
 simp[Op.equalIn,eQ ht]
theorem RW {x t v t' ms u dst ty ps af g}(E:Fr a n l)(ht:P.underlying t=some (.interface ms))[e:Ev l x (.iface t' v)] :
   (execOp a.eval ⟨dst,.binOp .eql t x (.const .nilIface) u,ty,ps,af,g⟩).run P w=.ok (.value (.bool false)) w:=by
 have hc:a.eval (.const .nilIface)=.nilIface:=rfl;have h2:(Op.equal t (.iface t' v) .nilIface).run P w=.ok false w:=RV ht v 9999;simp only[execOp,e.ev a n E,hc,Sem.run_bind];simp[eqGuard,binOp,h2]
theorem RX {x t ej dst ty ps af g}(E:Fr a n l)(ht:P.underlying t=some ej)(hd:(match ej with | .interface _=>false | _=>true)=true)[e:Ev l x v] :
   (execOp a.eval ⟨dst,.makeInterface t x,ty,ps,af,g⟩).run P w=.ok (.value (.iface t v)) w:=by
 cases ej <;> first | (simp at hd) | skip
 all_goals simp[execOp,e.ev a n E,Instr.makeInterface,eQ ht]
def pJ (P:Program)(t:TypeId)(name:String)(f:FuncId):Prop:=∀ (ad:Option Addr) (w:World),(method (P.types.size+Made.depth) t (.pointer ad) name).run P w=.ok (f,.pointer ad) w
theorem jP {x t ad name f args pK ty ps af g vs all}{X:Ending→World→Prop}(E:Fr a n l)(hw:Region.wanted ⟨some d,.call ⟨.invoke x name,List.toArray args,pK⟩,ty,ps,af,g⟩ (yielded ops a.tmps)=true)
   [ex:Ev l x (.iface t (.pointer ad))] (hm:pJ P t name f) (hb:hQ P f=true) (hf:okB d n l=true) [ev:nO l args vs] (hc:Calls P f (List.toArray all) w X) (ik:.pointer ad::vs=all)
   (h:∀ e w',X e w'→∃ v,e=.returned v∧∀ a',Fr a' n ((d,v)::l)→K a' w') :
   cJ P ops Q ⟨some d,.call ⟨.invoke x name,List.toArray args,pK⟩,ty,ps,af,g⟩ K a w:=by
 subst ik;refine Ix hw ?_ hc λe w' hx=>let ⟨v,he,hv⟩:=h e w' hx;⟨v,he,hv _ (E.put hf v)⟩;have h3:=hm ad w;simp[execOp,resolve,ex.ev a n E,invoke,callMethod,ev.ev a n E,h3,Af hb,program,Sem.run]
end
end
section
section
variable {P:Program}{a:Act}{w:World}{n:Nat}{l:List (Nat×Value)}{v:Value}
theorem Ja {x vs t f fs iY ej dst ty ps af g}(E:Fr a n l)(hu:P.underlying t=some (.struct fs))(hf:fs[f]?=some iY)(hd:P.underlying iY.type=some ej)(h1:ow ej=true)
   [ev:Ev l x (.agg (List.toArray vs))] (hv:vs[iY.offset]?=some v) :
   (execOp a.eval ⟨dst,.field t x f,ty,ps,af,g⟩).run P w=.ok (.value v) w:=by
 have x8:(part iY.type vs.toArray iY.offset).run P w=.ok v w:=by
  have Dy:(isAgg iY.type).run P w=.ok false w:=by
   simp only[isAgg,Sem.run_bind,eQ hd,Result.andThen_ok];cases ej <;> first | rfl | (simp[ow]at h1)
  simp[part,Dy,hv]
 simp[execOp,ev.ev a n E,Instr.field,eQ hu,hf,asAgg,x8]
end
end
section
section
variable {P:Program}{a:Act}{w W:World}{n:Nat}{l:List (Nat×Value)}{L R:List SP}
theorem DH {x u z3 k' x4 i' x5 j' nU ad m c t el z sz a2 dst ty ps af g}(E:Fr a n l)(ht:P.underlying t=some (.slice el))(hi:TI P el z sz a2)[ev:Ev l x (.slice ad m c)][uw:Ev l u (.int k' i')][Dn:Ev l z3 (.int x4 x5)]
   [xY:ey i' j'] [Dp:ey x5 nU] (h':j'≤nU) (Rg:nU≤c) :
   (execOp a.eval ⟨dst,.slice t x none (some u) (some z3),ty,ps,af,g⟩).run P w=.ok (.value (.slice (ft ad 0 nU sz) j' nU)) w:=by
 have lH:=xY.h;subst lH;have Dq:=Dp.h;subst Dq;have e1:=(qB ht).1;have e2:=(qB ht).2;have:=run_slice_hm (P:=P) (w:=w) t ad m c e1 k' x4 (j':Int) (nU:Int) (by omega) (by omega) (by omega);rw[e2,mE hi]at this;simp only[Result.andThen_ok,c8]at this;simp[execOp,ev.ev a n E,uw.ev a n E,Dn.ev a n E,run_sliceAt_slice (P:=P) (w:=w) t _ _ _ _ e1,this,sliced,ft]
theorem U.Jb {e sz k c:Nat}{cs:List Value}(I:U W w L)(ad:Option Addr)(m:Nat)[pk:fS L ad k c e sz cs R](hm:m≤k):U W w (Sl e sz (ft ad 0 m sz) m m (cs.take (m*sz))::R):=by
 have h1:=I.perm pk.perm;rcases lI m with h0 | h0
 ·subst h0;simpa using h1.tail.bM e sz (ft ad 0 0 sz)
 ·have hc:=(I.sl ad);obtain⟨b,pre,post,⟨g1,hS,l9,ma⟩,h2⟩:=h1.l8 (by omega);subst l9;rw[pE (by omega),Nat.zero_mul,Nat.add_zero];have lM:m*sz≤cs.length:=by rw[g1];exact oy _ hm
  rw[show pre++cs++post=pre++cs.take (m*sz)++(cs.drop (m*sz)++post) from by
   conv=>lhs;rw[← j0 (m*sz) cs]
   simp only[dx]]at h2
  exact U.iZ h2 (by rw[eA];omega) (a7 _) (by simp)
end
end
section
section
variable {P:Program}{ops:Array Oper}{Q:Exit→Act→World→Prop}{a:Act}{w w' W:World}{K:Act→World→Prop}{n d:Nat}{l:List (Nat×Value)}{L:List SP}
theorem rB {t el z sz a2 x y k k' i j ty ps af g}(E:Fr a n l)(hw:Region.wanted ⟨some d,.makeSlice t x y,ty,ps,af,g⟩ (yielded ops a.tmps)=true)(I:U W w L)(ht:P.underlying t=some (.slice el))
   (hi:TI P el z sz a2) (hf:okB d n l=true) (hb:a2*j≤281474976710656) (hj:j≤9223372036854775807) [e:Ev l x (.int k i)] [e2:Ev l y (.int k' i)] [nj:ey i j]
   (h:∀ b a' w',Fr a' n ((d,.slice (some ⟨b,0,none⟩) j j)::l)→U W w' (aa b el (madeCells z.cells (j*sz)).toList::L)→Old w w'→K a' w') :
   cJ P ops Q ⟨some d,.makeSlice t x y,ty,ps,af,g⟩ K a w:=by
 have RY:=nj.h;subst RY;obtain⟨Jc,lG,dL,kX,qz⟩:=info_parts hi.h;have RZ:(Jc.bytes:Int)*(j:Int)≤281474976710656:=by
  rw[qz];have:((a2*j:Nat):Int)≤281474976710656:=by omega
  rwa [Int.natCast_mul]at this
 have hr:=run_make (P:=P) w t el Jc z ht lG dL k k' (j:Int) (j:Int) (by omega) (Int.le_refl _) RZ (by omega);rw[c8,kX]at hr;refine bw (v:=.slice (some ⟨w.heap.size,0,none⟩) j j) (w':=w.alloc (.cells (madeCells z.cells (j*sz)) el)) E hw ?_ hf (λa' dh=>h _ _ _ dh (by
  have:=I.alloc (.cells (madeCells z.cells (j*sz)) el);simpa [aa] using this) (Old.alloc _ _))
 simp[execOp,e.ev a n E,e2.ev a n E,hr]
end
end
section
class uE (os:List Oper)(j:Nat)(s:outParam Nat):Prop where h:(os[j]?).bind (·.dst)=some s
instance uE.zero {s op ty ps af g r}:uE (⟨some s,op,ty,ps,af,g⟩::r) 0 s:=⟨rfl⟩
instance uE.succ {o r j s}[h:uE r j s]:uE (o::r) (j+1) s:=⟨by rw[getElem?_cons_succ];exact h.h⟩
class oI (os:List Oper)(j:Nat)(o:outParam Oper):Prop where h:os[j]?=some o
instance oI.zero {o r}:oI (o::r) 0 o:=⟨rfl⟩
instance oI.succ {x r j o}[h:oI r j o]:oI (x::r) (j+1) o:=⟨by rw[getElem?_cons_succ];exact h.h⟩
class GB (v:Value)(b:Bool)(r:outParam Bool):Prop where h:((match v with | .bool c=>Option.some c | _=>none)==Option.some b)=r
instance GB.aeE:GB (.bool true) true true:=⟨rfl⟩
instance GB.aeF:GB (.bool true) false false:=⟨rfl⟩
instance GB.aeG:GB (.bool false) true false:=⟨rfl⟩
instance GB.aeH:GB (.bool false) false true:=⟨rfl⟩
instance GB.u {b}:GB undef b false:=⟨rfl⟩
class Gd (os:List Oper)(l:List (Nat×Value))(g:Option (Nat×Bool))(r:outParam Bool):Prop where
 h:∀ {a n},Fr a n l→∀ {dst op ty ps af},Region.wanted ⟨dst,op,ty,ps,af,g⟩ (yielded os.toArray a.tmps)=r
instance Gd.none {os l}:Gd os l none true:=⟨λ_=>rfl⟩
instance Gd.some {os l j b s v r}[d:uE os j s][k:fp l s v][x:GB v b r]:Gd os l (some (j,b)) r:=⟨λ{a n} E dst op ty ps af=>by
 have h1:=E.has _ k.mem;have h2:(os.toArray[j]?).bind (·.dst)=Option.some s:=by rw[getElem?_toArray];exact d.h
 rw[← x.h];simp only[Region.wanted,yielded,h2,Option.bind_some,h1];cases v <;> rfl⟩
class rC (p q:Prop)(r:outParam Prop):Prop where h:r→p∧q
instance rC.l {q}:rC True q q:=⟨λh=>⟨trivial,h⟩⟩
instance rC.r {p}:rC p True p:=⟨λh=>⟨h,trivial⟩⟩
instance (priority:=low) rC.b {p q}:rC p q (p∧q):=⟨id⟩
class s0 (cs:List Value)(i:Nat)(v:outParam Value):Prop where h:cs[i]?=some v
instance s0.zero {v cs}:s0 (v::cs) 0 v:=⟨rfl⟩
instance s0.succ {c cs i v}[h:s0 cs i v]:s0 (c::cs) (i+1) v:=⟨by rw[getElem?_cons_succ];exact h.h⟩
instance s0.apZ {v xs ys}:s0 ((v::xs)++ys) 0 v:=⟨rfl⟩
class nf (o j sz:Nat)(r:outParam Nat):Prop where h:o+j*sz=r
instance (priority:=10) nf.any {o j sz}:nf o j sz (o+j*sz):=⟨rfl⟩
instance (priority:=20) nf.one {o j}:nf o j 1 (o+j):=⟨by rw[fW]⟩
instance (priority:=25) nf.at0 {o sz}:nf o 0 sz (o+0):=⟨by rw[Nat.zero_mul]⟩
instance (priority:=50) nf.aeI {sz}:nf 0 0 sz 0:=⟨by rw[Nat.zero_mul]⟩
instance (priority:=30) nf.zero {j sz}:nf 0 j sz (j*sz):=⟨eG _⟩
instance (priority:=40) nf.both {j}:nf 0 j 1 j:=⟨by omega⟩
class aK (P:Program)(t:TypeId)(d:outParam TypeDesc):Prop where h:P.underlying t=some d
theorem aK.of {P:Program}{t:TypeId}{d:TypeDesc}(h:P.underlying t=some d):aK P t d:=⟨h⟩
class ng (d:TypeDesc)(r:outParam Bool):Prop where h:ow d=r
instance Ex.aeJ {P:Program} {l x v1 v2 v3} [Ev l x (.tuple #[v1,v2,v3])]:Ex P l (.extract x 0) v1:=⟨λ_ _ E _ _ _ _ _ _=>oC E rfl⟩
instance Ex.aeK {P:Program} {l x v1 v2 v3} [Ev l x (.tuple #[v1,v2,v3])]:Ex P l (.extract x 1) v2:=⟨λ_ _ E _ _ _ _ _ _=>oC E rfl⟩
instance Ex.aeL {P:Program} {l x v1 v2 v3} [Ev l x (.tuple #[v1,v2,v3])]:Ex P l (.extract x 2) v3:=⟨λ_ _ E _ _ _ _ _ _=>oC E rfl⟩
instance:ng .bool true:=⟨rfl⟩
instance:ng .string true:=⟨rfl⟩
instance {k}:ng (.int k) true:=⟨rfl⟩
instance {t}:ng (.pointer t) true:=⟨rfl⟩
instance {t}:ng (.slice t) true:=⟨rfl⟩
instance {t u}:ng (.map t u) true:=⟨rfl⟩
instance {p r b}:ng (.func p r b) true:=⟨rfl⟩
instance {m}:ng (.interface m) true:=⟨rfl⟩
instance {f}:ng (.struct f) false:=⟨rfl⟩
instance {m t}:ng (.array m t) false:=⟨rfl⟩
class DI (d:TypeDesc):Prop where h:(match d with | .interface _=>false | _=>true)=true
instance {t}:DI (.pointer t):=⟨rfl⟩
instance {f}:DI (.struct f):=⟨rfl⟩
class Jd (m:Nat)(k:outParam Nat):Prop where h:m=k+1
instance {k}:Jd (k+1) k:=⟨rfl⟩
class wk (fs:List Field)(f:Nat)(t k:outParam Nat):Prop where h:∃ iY,fs[f]?=some iY∧iY.type=t∧iY.offset=k
instance wk.zero {R0 t k e R4 pp k0 r}:wk (⟨R0,t,k,e,R4,pp,k0⟩::r) 0 t k:=⟨_,rfl,rfl,rfl⟩
instance wk.succ {x r f t k}[h:wk r f t k]:wk (x::r) (f+1) t k:=⟨by rw[getElem?_cons_succ];exact h.h⟩
section
variable {P:Program}{t u el k sz a2 f:Nat}{d:TypeDesc}{z:Value}{fs:List Field}
instance [h:aK P t (.pointer el)]:x6 P t:=⟨_,h.h⟩
instance [h:aK P t (.slice el)]:Dt P t:=⟨_,h.h⟩
instance [h:aK P t d][g:ng d true]:Du P t:=⟨_,h.h,g.h⟩
instance {m:Nat}[h:aK P t (.struct fs.toArray)][g:wk fs f u k][hi:TI P u z m a2][q:Jd m sz]:Dv P t f k:=by
 obtain⟨iY,h1,h2,h3⟩:=g.h;rw[q.h]at hi;exact⟨_,iY,z,sz,a2,h.h,by rw[getElem?_toArray];exact h1,by rw[h2];exact hi,h3⟩
end
def Lk (L:List SP)(w:World):Prop:=∃ W w0,U W w0 L∧Old w0 w
theorem Lk.of {W w:World}{L:List SP}(I:U W w L):Lk L w:=⟨W,w,I,Old.refl _⟩
theorem Lk.nil (w:World):Lk [] w:=⟨w,w,U.start _,Old.refl _⟩
theorem Lk.bz {w:World}{L R:List SP}{b e off:Nat}{cs:List Value}{v:Value}(h:Lk L w)[k:fH L b e cs R](hv:cs[off]?=some v):w.cell? ⟨b,off,none⟩=some v:=by
 obtain⟨W,w0,I,ho⟩:=h;exact ho.cell (I.bz hv)
theorem Lk.qv {w:World}{L R:List SP}{b e off:Nat}{cs:List Value}(h:Lk L w)[k:fH L b e cs R](m:Nat){vs:List Value}[sc:mD cs off m vs]:Rd w b off vs:=by
 obtain⟨W,w0,I,ho⟩:=h;exact ho.rd (I.qv m)
instance mD.whole {cs m}[h:mH cs m]:mD cs 0 m cs:=⟨by rw[drop_zero,← h.h,k4]⟩
class uF (ad:Option Addr)(r:outParam Bool):Prop where h:ad.isNone=r
instance uF.n:uF none true:=⟨rfl⟩
instance uF.s {a}:uF (some a) false:=⟨rfl⟩
instance (priority:=low) uF.any {ad}:uF ad ad.isNone:=⟨rfl⟩
theorem Je {P:Program}{a:Act}{w:World}{n:Nat}{l:List (Nat×Value)}{fn:Func} {t u x v v2 v3}{X:Ending→World→Prop}(E:Fr a n l)(hr:fn.results=#[.tmp t,.tmp u,.tmp x])[k:fp l t v][k2:fp l u v2][k3:fp l x v3](h:X (.returned (.tuple #[v,v2,v3])) w):bodyPost P fn X .ret a w:=by
 refine bodyPost_ret ?_ E.defers h;have h1:=E.has _ k.mem;have h2:=E.has _ k2.mem;have h3:=E.has _ k3.mem;simp[results,hr,Array.getD_eq_getD_getElem?,h1,h2,h3]
theorem Fr.ed {a:Act}{n:Nat}{l l':List (Nat×Value)}(E:Fr a n l)(s:Nat){b:Bool}[k:fp l s (.bool b)][e:gZ l s l'](h:b=true:=by first | rfl | decide):Fr a n ((s,.bool true)::l') :=
 E.bool (s:=s) (λ_ h=>h) (λe _=>by rw[h]at e;cases e)
theorem Fr.aP {a:Act}{n:Nat}{l l':List (Nat×Value)}(E:Fr a n l)(s:Nat){b:Bool}[k:fp l s (.bool b)][e:gZ l s l'](h:b=false:=by first | rfl | decide):Fr a n ((s,.bool false)::l') :=
 E.bool (s:=s) (λe _=>by rw[h]at e;cases e) (λ_ h=>h)
class Sx (P:Program)(L:List SP)(l:List (Nat×Value))(op:Go.Op)(c:outParam Prop)(v:outParam Value):Prop where
 ex:c→∀ {a n w},Fr a n l→Lk L w→∀ {dst ty ps af g},(execOp a.eval ⟨dst,op,ty,ps,af,g⟩).run P w=.ok (.value v) w
section
variable {P:Program}{L R:List SP}{l:List (Nat×Value)}{x y z:Operand}{v u zv:Value}{k k':IntKind}{i j i':Int}{m m' rD c:Nat}{t t' el sz a2 b off r:Nat}{ad:Option Addr}{s:ByteArray}{p q:Bool}{vs ws zs:List Value}
instance (priority:=high) Sx.of {op}[h:Ex P l op v]:Sx P L l op True v:=⟨λ_ _ _ _ E _ _ _ _ _ _=>h.ex _ _ E _ _ _ _ _ _⟩
instance Sx.aeM [Ev l x (.bool true)] [Ev l y v]:Sx P L l (.pick x y z) True v:=⟨λ_ _ _ _ E _ _ _ _ _ _=>Qa E⟩
instance Sx.aeN [Ev l x (.bool false)] [Ev l z v]:Sx P L l (.pick x y z) True v:=⟨λ_ _ _ _ E _ _ _ _ _ _=>Qb E⟩
instance Sx.load {e cs} [Ev l x (.pointer (some ⟨b,off,none⟩))][u:Du P t] [fH L b e cs R][n:s0 cs off v]:Sx P L l (.load t x) True v :=
 ⟨λ_ _ _ _ E I _ _ _ _ _=>by obtain⟨ej,h1,h2⟩:=u.h;exact It E h1 h2 (I.bz n.h)⟩
instance Sx.aeO {e cs d} [Ev l x (.pointer (some ⟨b,off,none⟩))][u:aK P t d][g:ng d false][hi:TI P t zv m a2] [fH L b e cs R] [mD cs off m vs][k:mH vs m]:Sx P L l (.load t x) True (.agg vs.toArray) :=
 ⟨λ_ _ _ _ E I _ _ _ _ _=>bT E u.h g.h (by rw[k.h];exact hi) (I.qv m)⟩
instance Sx.add [Ev l x (.int .i64 i)] [Ev l y (.int .i64 j)]:Sx P L l (.binOp .add t x y t') (-9223372036854775808≤i+j∧i+j≤9223372036854775807) (.int .i64 (i+j)) :=
 ⟨λh _ _ _ E _ _ _ _ _ _=>Qd E h.1 h.2⟩
instance Sx.sub [Ev l x (.int .i64 i)] [Ev l y (.int .i64 j)]:Sx P L l (.binOp .sub t x y t') (-9223372036854775808≤i-j∧i-j≤9223372036854775807) (.int .i64 (i-j)) :=
 ⟨λh _ _ _ E _ _ _ _ _ _=>Qe E h.1 h.2⟩
instance Sx.mul [Ev l x (.int .i64 i)] [Ev l y (.int .i64 j)]:Sx P L l (.binOp .mul t x y t') (-9223372036854775808≤i*j∧i*j≤9223372036854775807) (.int .i64 (i*j)) :=
 ⟨λh _ _ _ E _ _ _ _ _ _=>Qf E h.1 h.2⟩
instance (priority:=low) Sx.aeP [Ev l x (.int k i)] [Ev l y (.int k j)]:Sx P L l (.binOp .add t x y t') (True) (.int k (k.wrap (i+j))):=⟨λ_ _ _ _ E _ _ _ _ _ _=>Ir E⟩
instance (priority:=low) Sx.aeQ [Ev l x (.int k i)] [Ev l y (.int k j)]:Sx P L l (.binOp .sub t x y t') (True) (.int k (k.wrap (i-j))):=⟨λ_ _ _ _ E _ _ _ _ _ _=>Ad E⟩
instance (priority:=low) Sx.aeR [Ev l x (.int k i)] [Ev l y (.int k j)]:Sx P L l (.binOp .mul t x y t') (True) (.int k (k.wrap (i*j))):=⟨λ_ _ _ _ E _ _ _ _ _ _=>Is E⟩
instance Sx.rem [Ev l x (.int k i)] [Ev l y (.int k j)]:Sx P L l (.binOp .rem t x y t') (j≠0) (.int k (i.tmod j)):=⟨λg _ _ _ E _ _ _ _ _ _=>Ak E g⟩
instance Sx.or [Ev l x (.int k i)] [Ev l y (.int k j)]:Sx P L l (.binOp .or t x y t') (True) (.int k (k.wrap ((BitVec.ofInt k.bits i ||| BitVec.ofInt k.bits j).toNat))):=⟨λ_ _ _ _ E _ _ _ _ _ _=>RO E⟩
instance Sx.and [Ev l x (.int k i)] [Ev l y (.int k j)]:Sx P L l (.binOp .and t x y t') (True) (.int k (k.wrap ((BitVec.ofInt k.bits i &&& BitVec.ofInt k.bits j).toNat))):=⟨λ_ _ _ _ E _ _ _ _ _ _=>RP E⟩
instance (priority:=low) Sx.xor [Ev l x (.int k i)] [Ev l y (.int k j)]:Sx P L l (.binOp .xor t x y t') (True) (.int k (k.wrap ((BitVec.ofInt k.bits i ^^^ BitVec.ofInt k.bits j).toNat))):=⟨λ_ _ _ _ E _ _ _ _ _ _=>RQ E⟩
instance Sx.aeS {i j:UInt8} [Ev l x (.int .u8 (i.toNat:Int))] [Ev l y (.int .u8 (j.toNat:Int))]:Sx P L l (.binOp .xor t x y t') True (.int .u8 ((i ^^^ j).toNat:Int)):=⟨λ_ _ _ _ E _ _ _ _ _ _=>Rl E⟩
instance Sx.min {uB} [Ev l x (.int k i)] [Ev l y (.int k j)]:Sx P L l (.call ⟨.builtin .min,#[x,y],uB⟩) (True) (.int k (min i j)):=⟨λ_ _ _ _ E _ _ _ _ _ _=>Rc E⟩
instance Sx.max {uB} [Ev l x (.int k i)] [Ev l y (.int k j)]:Sx P L l (.call ⟨.builtin .max,#[x,y],uB⟩) (True) (.int k (max i j)):=⟨λ_ _ _ _ E _ _ _ _ _ _=>Re E⟩
instance Sx.shl [Ev l x (.int k i)] [Ev l y (.int k' j)] [ey j m]:Sx P L l (.binOp .shl t x y t') (m≤k.bits) (.int k (k.wrap (i*2 ^ m))):=⟨λg _ _ _ E _ _ _ _ _ _=>I8 E g⟩
instance Sx.shr [Ev l x (.int k i)] [Ev l y (.int k' j)] [ey j m]:Sx P L l (.binOp .shr t x y t') (m≤k.bits) (.int k (i.fdiv (2 ^ m))):=⟨λg _ _ _ E _ _ _ _ _ _=>RM E g⟩
instance Sx.com [Ev l x (.int k i)]:Sx P L l (.unOp .xor t x) True (.int k (k.wrap ((BitVec.ofInt k.bits (if k.signed then -1 else k.max) ^^^ BitVec.ofInt k.bits i).toNat))):=⟨λ_ _ _ _ E _ _ _ _ _ _=>RS E⟩
instance Sx.neg [Ev l x (.int k i)]:Sx P L l (.unOp .neg t x) True (.int k (k.wrap (0-i))):=⟨λ_ _ _ _ E _ _ _ _ _ _=>RU E⟩
instance Sx.aeT [h:aK P t (.slice el)] [Ev l x (.slice ad m c)][q:uF ad p]:Sx P L l (.binOp .eql t x (.const (.slice none 0 0)) t') True (.bool p):=⟨λ_ _ _ _ E _ _ _ _ _ _=>by rw[← q.h];exact Rh E h.h⟩
instance Sx.aeU [h:aK P t .string] [Ev l x (.string s)]:Sx P L l (.call ⟨.builtin .len,#[x],#[t]⟩) (True) (.int .i64 s.size):=⟨λ_ _ _ _ E _ _ _ _ _ _=>RL E h.h⟩
instance Sx.aeV [h:aK P t .bool] [Ev l x (.bool p)] [Ev l y (.bool q)]:Sx P L l (.binOp .eql t x y t') (True) (.bool (p==q)):=⟨λ_ _ _ _ E _ _ _ _ _ _=>Ra E h.h⟩
instance Sx.aeW [h:aK P t .bool] [Ev l x (.bool p)] [Ev l y (.bool q)]:Sx P L l (.binOp .neq t x y t') (True) (.bool (p != q)):=⟨λ_ _ _ _ E _ _ _ _ _ _=>Rb E h.h⟩
instance Sx.aeX {fn xs ys} [nO l xs vs] [nO l ys ws]:Sx P L l (.makeFunc fn xs.toArray ys.toArray) (True) (.func fn vs.toArray ws.toArray):=⟨λ_ _ _ _ E _ _ _ _ _ _=>Qw E⟩
instance Sx.aeY {d}[h:aK P t d][g:DI d] [Ev l x v]:Sx P L l (.makeInterface t x) (True) (.iface t v):=⟨λ_ _ _ _ E _ _ _ _ _ _=>RX E h.h (by have:=g.h;cases d <;> first | rfl | (simp at this))⟩
instance Sx.aeZ {ms}[h:aK P t (.interface ms)] [Ev l x (.iface m v)]:Sx P L l (.binOp .eql t x (.const .nilIface) t') (True) (.bool false):=⟨λ_ _ _ _ E _ _ _ _ _ _=>RW E h.h⟩
instance Sx.index [h:aK P t (.slice el)][hi:TI P el zv sz a2] [Ev l x (.slice (some ⟨b,off,none⟩) m c)] [Ev l y (.int k i)] [ey i m'][q:nf off m' sz r]:Sx P L l (.indexAddr t x y) (m'<m) (.pointer (some ⟨b,r,none⟩)):=⟨λg _ _ _ E _ _ _ _ _ _=>by rw[← q.h];exact Iw E h.h hi g⟩
instance Sx.ae0 [h:aK P t (.array m el)][hi:TI P el zv sz a2] [Ev l x (.pointer (some ⟨b,off,none⟩))] [Ev l y (.int k i)] [ey i m'][q:nf off m' sz r]:Sx P L l (.indexAddr t x y) (m'<m) (.pointer (some ⟨b,r,none⟩)):=⟨λg _ _ _ E _ _ _ _ _ _=>by rw[← q.h];exact Qt E h.h hi g⟩
instance Sx.ae1 [h:aK P t (.slice el)][hi:TI P el zv sz a2] [Ev l x (.slice ad m c)] [Ev l y (.int k i)] [ey i m']:Sx P L l (.slice t x (some y) none none) (m'≤m) (.slice (ft ad m' c sz) (m-m') (c-m')):=⟨λg _ _ _ E _ _ _ _ _ _=>QJ E h.h hi g⟩
instance Sx.ae2 [h:aK P t (.slice el)][hi:TI P el zv sz a2] [Ev l x (.slice ad m c)] [Ev l y (.int k i)] [ey i m']:Sx P L l (.slice t x none (some y) none) (m'≤c) (.slice (ft ad 0 c sz) (m'-0) (c-0)):=⟨λg _ _ _ E _ _ _ _ _ _=>QK E h.h hi g⟩
instance Sx.ae3 [h:aK P t (.slice el)][hi:TI P el zv sz a2] [Ev l x (.slice ad m c)] [Ev l y (.int k i)] [ey i m'] [Ev l z (.int k' i')] [ey i' rD]:Sx P L l (.slice t x (some y) (some z) none) (m'≤rD∧rD≤c) (.slice (ft ad m' c sz) (rD-m') (c-m')):=⟨λg _ _ _ E _ _ _ _ _ _=>QL E h.h hi g.1 g.2⟩
instance Sx.ae4 [h:aK P t (.slice el)][hi:TI P el zv sz a2] [Ev l x (.slice ad m c)] [Ev l y (.int k i)] [ey i m'] [Ev l z (.int k' i')] [ey i' rD]:Sx P L l (.slice t x none (some y) (some z)) (m'≤rD∧rD≤c) (.slice (ft ad 0 rD sz) m' rD):=⟨λg _ _ _ E _ _ _ _ _ _=>DH E h.h hi g.1 g.2⟩
instance Sx.ae5 [h:aK P t (.array m el)][hi:TI P el zv sz a2] [Ev l x (.pointer (some ⟨b,off,none⟩))]:Sx P L l (.slice t x none none none) (True) (.slice (some ⟨b,off,none⟩) m m):=⟨λ_ _ _ _ E _ _ _ _ _ _=>RE E h.h hi⟩
instance Sx.conv [h:aK P t (.int k)][q:aK P t' (.int k')] [Ev l x (.int k i)]:Sx P L l (.convert t t' x) (k'.wrap i=i) (.int k' i):=⟨λg _ _ _ E _ _ _ _ _ _=>pH E h.h q.h g⟩
instance Sx.build {kF parts}[hb:ep P t kF][hi:TI P t zv sz a2] [Cells zv zs] [uA kF zs l parts vs]:Sx P L l (.build t (List.toArray parts)) ((kF.all λp=>Nat.ble (p.1+p.2) zs.length)=true) (.agg vs.toArray):=⟨λg _ _ _ E _ _ _ _ _ _=>I0 E hb hi g⟩
end
def Hd (C:World→Prop)(L:List SP):Prop:=∀ w',C w'→Lk L w'
theorem Hd.any (C:World→Prop):Hd C []:=λw' _=>Lk.nil w'
theorem Hd.gE {W w:World}{L:List SP}(I:U W w L):Hd (Old w) L:=λ_ h=>⟨W,w,I,h⟩
def CN (b:Bool)(C:World→Prop)(K:Act→World→Prop):Act→World→Prop:=λa w=>(b=true→C w)∧K a w
def s3 (X:Ending→World→Prop)(v:Value):Act→World→Prop:=λ_ w=>X (.returned v) w
def rE (P:Program)(rs:List ResultVar)(X:Ending→World→Prop):Exit→Act→World→Prop:=λe a w=>∀ fn:Func,fn.results=rs.toArray→bodyPost P fn X e a w
class nh (Q:Exit→Act→World→Prop):Prop where h:lJ Q
instance {K Q}[h:nh Q]:nh (Exit.then K Q):=⟨QQ h.h⟩
instance {i Q}[h:nh Q]:nh (Exit.inBlock i Q):=⟨QR h.h⟩
instance {P rs X}:nh (rE P rs X):=⟨λc a o v w h fn hr=>QS c a o v w (h fn hr)⟩
class Ao (P:Program):Prop where h:P.follows .mixedOrders=true
class Rn (k n:Nat)(C:World→Prop)(L0 L:List SP)(l:List (Nat×Value))(X:Act→World→Prop)(b:outParam Bool)(c:outParam Prop)(l':outParam (List (Nat×Value)))(Y:outParam (Act→World→Prop)):Prop where
 rn:b=true→c→∀ {a W w},Fr a n l→U W w L→Hd C L0∧C w→(∀ a,Fr a n l'→Y a w)→X a w
class Way (v:Value)(x y:Code)(z:outParam Code):Prop where h:∃ b,v=.bool b∧z=if b then x else y
instance {x y}:Way (.bool true) x y x:=⟨true,rfl,rfl⟩
instance {x y}:Way (.bool false) x y y:=⟨false,rfl,rfl⟩
def DJ (os:List Oper)(m i:Nat):Bool:=match Region.ready .any os.toArray (lb os.toArray.size m) with | [j]=>Nat.beq j i | _=>false
theorem R5 {os:List Oper}{m i:Nat}(h:DJ os m i=true):Region.ready .any os.toArray (lb os.toArray.size m)=[i]:=by
 unfold DJ at h;split at h
 ·rename_i j e;rw[e,Nat.eq_of_beq_eq_true h]
 ·cases h
def R6 (os:List Oper)(m:Nat):Bool:=(Region.ready .any os.toArray (lb os.toArray.size m)).isEmpty
section
variable {P:Program}{k n d i j m fuel:Nat}{C C2:World→Prop}{L0 L:List SP}{l l1 l':List (Nat×Value)}{X Y K:Act→World→Prop}{b b2:Bool}{c et c2:Prop}{os rest:List Oper}{Q:Exit→Act→World→Prop}{op:Go.Op}{v:Value}{ty:TypeId}{ps:String}{af:Array Edge}{g:Option (Nat×Bool)}{x y z:Code}{o:Operand}{bg od:List Nat}
instance (priority:=1) Rn.stop:Rn 0 n C L0 L l X true True l X:=⟨λ_ _ _ _ _ E _ _ h=>h _ E⟩
instance Rn.oper [e:Gd os l g true][s:Sx P L l op et v][q:gZ l d l1][r:Rn k n C L0 L ((d,v)::l1) K b2 c2 l' Y][p:rC et c2 c] :
   Rn (k+1) n C L0 L l (cJ P os.toArray Q ⟨some d,op,ty,ps,af,g⟩ K) (okB d n l1&&b2) c l' Y:=⟨λhb hc a W w E I hx h=>by
 rw[fq]at hb;obtain⟨h1,h2⟩:=p.h hc;exact bw (E.del d) (e.h E) (s.ex h1 E (Lk.of I)) hb.1 λa E=>r.rn hb.2 h2 E I hx h⟩
instance Rn.off {jb}[e:Gd os l (some jb) false][q:gZ l d l1][r:Rn k n C L0 L ((d,undef)::l1) K b2 c l' Y] :
   Rn (k+1) n C L0 L l (cJ P os.toArray Q ⟨some d,op,ty,ps,af,some jb⟩ K) (okB d n l1&&b2) c l' Y:=⟨λhb hc a W w E I hx h=>by
 rw[fq]at hb;exact P6 (E.del d) (e.h E) hb.1 λa E=>r.rn hb.2 hc E I hx h⟩
instance Rn.cons {ops}{o:Oper}[r:Rn k n C L0 L l (cJ P ops Q o (wpList P ops Q rest)) b c l' Y]:Rn k n C L0 L l (wpList P ops Q (o::rest)) b c l' Y:=⟨λhb hc _ _ _ E I hx h=>(r.rn hb hc E I hx h)⟩
instance Rn.nil {ops}[r:Rn k n C L0 L l (Q .normal) b c l' Y]:Rn k n C L0 L l (wpList P ops Q []) b c l' Y:=⟨λhb hc _ _ _ E I hx h=>Rm (r.rn hb hc E I hx h)⟩
instance Rn.seq [r:Rn k n C L0 L l (x.wp P (Exit.then (y.wp P Q) Q)) b c l' Y]:Rn (k+1) n C L0 L l ((Code.seq x y).wp P Q) b c l' Y:=⟨λhb hc _ _ _ E I hx h=>wp_seq (r.rn hb hc E I hx h)⟩
instance Rn.region {id}[r:Rn k n C L0 L l (wpList P os.toArray Q os) b c l' Y]:Rn k n C L0 L l ((Code.region id os.toArray false).wp P Q) b c l' Y:=⟨λhb hc _ _ _ E I hx h=>wp_region_lit (r.rn hb hc E I hx h)⟩
instance Rn.skip [r:Rn k n C L0 L l (Q .normal) b c l' Y]:Rn k n C L0 L l (Code.skip.wp P Q) b c l' Y:=⟨λhb hc _ _ _ E I hx h=>wp_skip (r.rn hb hc E I hx h)⟩
instance Rn.block [r:Rn k n C L0 L l (x.wp P (Exit.inBlock i Q)) b c l' Y]:Rn k n C L0 L l ((Code.block i x).wp P Q) b c l' Y:=⟨λhb hc _ _ _ E I hx h=>wp_block (r.rn hb hc E I hx h)⟩
instance Rn.exit [r:Rn k n C L0 L l (Q (.exit i)) b c l' Y]:Rn k n C L0 L l ((Code.exit i).wp P Q) b c l' Y:=⟨λhb hc _ _ _ E I hx h=>wp_exit (r.rn hb hc E I hx h)⟩
instance Rn.ret [r:Rn k n C L0 L l (Q .ret) b c l' Y]:Rn k n C L0 L l (Code.ret.wp P Q) b c l' Y:=⟨λhb hc _ _ _ E I hx h=>wp_ret (r.rn hb hc E I hx h)⟩
instance Rn.cond [e:Ev l o v][q:Way v x y z][r:Rn k n C L0 L l (z.wp P Q) b c l' Y]:Rn (k+1) n C L0 L l ((Code.cond o x y).wp P Q) b c l' Y:=⟨λhb hc _ _ _ E I hx h=>by
 obtain⟨t,rfl,rfl⟩:=q.h;exact wp_cond (e.ev _ _ E) (r.rn hb hc E I hx h)⟩
instance Rn.ae6 [r:Rn k n C L0 L l (K) b c l' Y]:Rn k n C L0 L l (Exit.then K Q .normal) b c l' Y:=⟨λhb hc _ _ _ E I hx h=>TN (r.rn hb hc E I hx h)⟩
instance Rn.ae7 [r:Rn k n C L0 L l (Q .ret) b c l' Y]:Rn k n C L0 L l (Exit.then K Q .ret) b c l' Y:=⟨λhb hc _ _ _ E I hx h=>TR (r.rn hb hc E I hx h)⟩
instance Rn.ae8 [r:Rn k n C L0 L l (Q (.exit i)) b c l' Y]:Rn k n C L0 L l (Exit.then K Q (.exit i)) b c l' Y:=⟨λhb hc _ _ _ E I hx h=>TE (r.rn hb hc E I hx h)⟩
instance Rn.ae9 [r:Rn k n C L0 L l (Q .normal) b c l' Y]:Rn k n C L0 L l (Exit.inBlock i Q .normal) b c l' Y:=⟨λhb hc _ _ _ E I hx h=>Rp (r.rn hb hc E I hx h)⟩
instance Rn.afa [r:Rn k n C L0 L l (Q .ret) b c l' Y]:Rn k n C L0 L l (Exit.inBlock i Q .ret) b c l' Y:=⟨λhb hc _ _ _ E I hx h=>Rq (r.rn hb hc E I hx h)⟩
instance (priority:=high) Rn.afb [r:Rn k n C L0 L l (Q .normal) b c l' Y]:Rn k n C L0 L l (Exit.inBlock i Q (.exit i)) b c l' Y:=⟨λhb hc _ _ _ E I hx h=>QA (r.rn hb hc E I hx h)⟩
instance Rn.afc [r:Rn k n C L0 L l (Q (.exit j)) b c l' Y]:Rn k n C L0 L l (Exit.inBlock i Q (.exit j)) (!Nat.beq j i&&b) c l' Y:=⟨λhb hc _ _ _ E I hx h=>by
 rw[fq,Bool.not_eq_true']at hb;exact QB hb.1 (r.rn hb.2 hc E I hx h)⟩
variable {t u r3:Nat}{v2 v3 zv:Value}{vs cs:List Value}{R:Ending→World→Prop}{bb off e sz a2:Nat}{RR:List SP}{ej:TypeDesc}
instance Rn.IB:Rn 0 n C L0 L l (rE P [] R .normal) true True l (s3 R (.tuple #[])):=⟨λ_ _ _ _ _ E _ _ h _ hr=>Go.Proofs.YteoldcfapaiobaaGreat.IB E hr (h _ E)⟩
instance Rn.IA:Rn 0 n C L0 L l (rE P [] R .ret) true True l (s3 R (.tuple #[])):=⟨λ_ _ _ _ _ E _ _ h _ hr=>Go.Proofs.YteoldcfapaiobaaGreat.IA E hr (h _ E)⟩
instance Rn.Iy [fp l t v]:Rn 0 n C L0 L l (rE P [.tmp t] R .ret) true True l (s3 R v):=⟨λ_ _ _ _ _ E _ _ h _ hr=>Go.Proofs.YteoldcfapaiobaaGreat.Iy E hr (h _ E)⟩
instance Rn.Iz [fp l t v] [fp l u v2]:Rn 0 n C L0 L l (rE P [.tmp t,.tmp u] R .ret) true True l (s3 R (.tuple #[v,v2])):=⟨λ_ _ _ _ _ E _ _ h _ hr=>Go.Proofs.YteoldcfapaiobaaGreat.Iz E hr (h _ E)⟩
instance Rn.Je [fp l t v] [fp l u v2] [fp l r3 v3]:Rn 0 n C L0 L l (rE P [.tmp t,.tmp u,.tmp r3] R .ret) true True l (s3 R (.tuple #[v,v2,v3])):=⟨λ_ _ _ _ _ E _ _ h _ hr=>Go.Proofs.YteoldcfapaiobaaGreat.Je E hr (h _ E)⟩
instance Rn.afd [fp l t (.pointer (some ⟨bb,off,none⟩))][q:aK P u ej][p2:ng ej false][hi:TI P u zv sz a2] [fH L bb e cs RR] [mD cs off sz vs][p:mH vs sz]:Rn 0 n C L0 L l (rE P [.cell t u] R .ret) true True l (s3 R (.agg vs.toArray)):=⟨λ_ _ _ _ _ E I _ h _ hr =>
 Go.Proofs.YteoldcfapaiobaaGreat.Qx E hr (Df q.h p2.h (by rw[p.h];exact hi) (I.qv sz)) (h _ E)⟩
instance Rn.afe [fp l t (.pointer (some ⟨bb,off,none⟩))][q:aK P u ej][p2:ng ej false][hi:TI P u zv sz a2] [fH L bb e cs RR] [mD cs off sz vs][p:mH vs sz] [fp l r3 v2]:Rn 0 n C L0 L l (rE P [.cell t u,.tmp r3] R .ret) true True l (s3 R (.tuple #[.agg vs.toArray,v2])):=⟨λ_ _ _ _ _ E I _ h _ hr =>
 Go.Proofs.YteoldcfapaiobaaGreat.Qy E hr (Df q.h p2.h (by rw[p.h];exact hi) (I.qv sz)) (h _ E)⟩
instance Rn.uG [r:Rn k n C L0 L l K b c l' Y]:Rn k n C L0 L l (CN b2 C K) b c l' Y:=⟨λhb hc _ _ _ E I hx h=>⟨λ_=>hx.2,r.rn hb hc E I hx h⟩⟩
instance (priority:=low) Rn.cnF [r:Rn k n C L0 L l K b c l' Y]:Rn k n C L0 L l (CN b2 C2 K) (!b2&&b) c l' Y:=⟨λhb hc _ _ _ E I hx h=>by
 rw[fq,Bool.not_eq_true']at hb;exact⟨λe=>(by rw[hb.1]at e;cases e),r.rn hb.2 hc E I hx h⟩⟩
instance Rn.one {o}[p:oI os i o][r:Rn k n C L0 L l (cJ P os.toArray Q o (CN (bg.contains i) C2 (gj P os.toArray Q C2 bg od fuel (mI m i)))) b c l' Y] :
   Rn k n C L0 L l (gj P os.toArray Q C2 bg ((i+1000)::od) (fuel+1) m) (DJ os m i&&b) c l' Y:=⟨λhb hc a W w E I hx h=>by
 rw[fq]at hb;show gj P os.toArray Q C2 bg (i::od) (fuel+1) m a w;exact Rr (by rw[getElem?_toArray];exact p.h) (r.rn hb.2 hc E I hx h) (R5 hb.1)⟩
instance (priority:=low) Rn.pure [p:oI os i ⟨some d,op,ty,ps,af,g⟩][pk:nh Q][e:Gd os l g true][s:Sx P [] l op et v][q:gZ l d l1][r:Rn k n C L0 L ((d,v)::l1) (gj P os.toArray Q C2 bg od fuel (mI m i)) b2 c2 l' Y][DK:rC et c2 c] :
   Rn (k+1) n C L0 L l (gj P os.toArray Q C2 bg (i::od) (fuel+1) m) (nc os.toArray (lb os.toArray.size m) bg true i&&!bg.contains i&&okB d n l1&&b2) c l' Y:=⟨λhb hc a W w E I hx h=>by
 simp only[fq,Bool.not_eq_true']at hb;obtain⟨h1,h2⟩:=DK.h hc;exact IW (qF _ _ _) (by rw[getElem?_toArray];exact p.h) hb.1.1.1 hb.1.1.2 pk.h (E.del d) (e.h E) (λw=>s.ex h1 E (Lk.nil w)) hb.1.2 λa E=>r.rn hb.2 h2 E I hx h⟩
instance (priority:=low) Rn.aff {jb}[p:oI os i ⟨some d,op,ty,ps,af,some jb⟩][pk:nh Q][e:Gd os l (some jb) false][q:gZ l d l1][r:Rn k n C L0 L ((d,undef)::l1) (gj P os.toArray Q C2 bg od fuel (mI m i)) b2 c l' Y] :
   Rn (k+1) n C L0 L l (gj P os.toArray Q C2 bg (i::od) (fuel+1) m) (nc os.toArray (lb os.toArray.size m) bg true i&&!bg.contains i&&okB d n l1&&b2) c l' Y:=⟨λhb hc a W w E I hx h=>by
 simp only[fq,Bool.not_eq_true']at hb;exact QZ (qF _ _ _) (by rw[getElem?_toArray];exact p.h) hb.1.1.1 hb.1.1.2 pk.h (E.del d) (e.h E) hb.1.2 λa E=>r.rn hb.2 hc E I hx h⟩
instance (priority:=high) Rn.held [p:oI os i ⟨some d,op,ty,ps,af,g⟩][pk:nh Q][e:Gd os l g true][s:Sx P L0 l op et v][q:gZ l d l1][r:Rn k n C L0 L ((d,v)::l1) (gj P os.toArray Q C bg od fuel (mI m i)) b2 c2 l' Y][DK:rC et c2 c] :
   Rn (k+1) n C L0 L l (gj P os.toArray Q C bg ((i+3000)::od) (fuel+1) m) (nc os.toArray (lb os.toArray.size m) bg false i&&okB d n l1&&b2) c l' Y:=⟨λhb hc a W w E I hx h=>by
 simp only[fq]at hb;obtain⟨h1,h2⟩:=DK.h hc;exact IX (qF _ _ _) (by rw[getElem?_toArray];exact p.h) hb.1.1 pk.h (E.del d) (e.h E) (λw hw=>s.ex h1 E (hx.1 w hw)) hx.2 hb.1.2 λa E=>r.rn hb.2 h2 E I hx h⟩
instance (priority:=high) Rn.afg {jb}[p:oI os i ⟨some d,op,ty,ps,af,some jb⟩][pk:nh Q][e:Gd os l (some jb) false][q:gZ l d l1][r:Rn k n C L0 L ((d,undef)::l1) (gj P os.toArray Q C bg od fuel (mI m i)) b2 c l' Y] :
   Rn (k+1) n C L0 L l (gj P os.toArray Q C bg ((i+3000)::od) (fuel+1) m) (nc os.toArray (lb os.toArray.size m) bg false i&&okB d n l1&&b2) c l' Y:=⟨λhb hc a W w E I hx h=>by
 simp only[fq]at hb;exact Q0 (qF _ _ _) (by rw[getElem?_toArray];exact p.h) hb.1.1 pk.h (E.del d) (e.h E) hx.2 hb.1.2 λa E=>r.rn hb.2 hc E I hx h⟩
instance Rn.done [r:Rn k n C L0 L l (Q .normal) b c l' Y]:Rn k n C L0 L l (gj P os.toArray Q C2 bg [] fuel m) (R6 os m&&b) c l' Y:=⟨λhb hc _ _ _ E I hx h=>by
 rw[fq]at hb;exact Rv (r.rn hb.2 hc E I hx h) (List.isEmpty_iff.1 hb.1)⟩
class Zp (vs:List Value)(ks:List Nat)(l:outParam (List (Nat×Value))):Prop where h:ks.zip vs=l
instance Zp.nil {ks}:Zp [] ks []:=⟨by simp⟩
instance Zp.cons {v vs k ks l}[h:Zp vs ks l]:Zp (v::vs) (k::ks) ((k,v)::l):=⟨by rw[List.zip_cons_cons,h.h]⟩
class App (xs ys:List Value)(zs:outParam (List Value)):Prop where h:xs++ys=zs
instance App.nil {ys}:App [] ys ys:=⟨rfl⟩
instance App.cons {x xs ys zs}[h:App xs ys zs]:App (x::xs) ys (x::zs):=⟨by rw[cons_append,h.h]⟩
instance Zp.app {xs ys zs ks l}[q:App xs ys zs][h:Zp zs ks l]:Zp (xs++ys) ks l:=⟨by rw[q.h];exact h.h⟩
class s4 (n:Nat)(l:List (Nat×Value))(d:Option Tmp)(b:outParam Bool)(F:outParam (Value→List (Nat×Value))):Prop where h:b=true→∀ {a v},Fr a n l→Fr (a.put d v) n (F v)
instance s4.some {n l d l1}[q:gZ l d l1]:s4 n l (some d) (okB d n l1) (λv=>(d,v)::l1):=⟨λh _ v E=>(E.del d).put h v⟩
class oJ (P:Program)(l:List (Nat×Value))(ce:Callee)(args:List Operand)(f:outParam Nat)(vs:outParam (List Value)):Prop where
 h:hQ P f=true→∀ {a n w},Fr a n l→∀ {dst pK ty ps af g},(execOp a.eval ⟨dst,.call ⟨ce,args.toArray,pK⟩,ty,ps,af,g⟩).run P w=.ok (.enter f vs.toArray) w
instance oJ.fn {P l f args vs}[ev:nO l args vs]:oJ P l (.value (.func f)) args f vs:=⟨λhb a n w E _ _ _ _ _ _=>by
 have h2:a.eval (.func f)=.func (.func f) #[] #[]:=rfl;simp[execOp,resolve,h2,Deferred.ofValue,invoke,ev.ev a n E,Af hb]⟩
instance oJ.kI {P l x f us args vs zs}[ex:Ev l (.tmp x) (.func (.func f) #[] (List.toArray us))][ev:nO l args vs][q:App vs us zs]:oJ P l (.value (.tmp x)) args f zs:=⟨λhb a n w E _ _ _ _ _ _=>by
 rw[← q.h];simp[execOp,resolve,ex.ev a n E,Deferred.ofValue,invoke,ev.ev a n E,Af hb]⟩
class s5 (vs:List Value):Prop where h:∀ v∈vs,v.oneCell'=true
instance s5.nil:s5 []:=⟨by simp⟩
instance s5.ints {k m g}:s5 (ints k m g):=⟨uD⟩
class One (v:Value):Prop where h:v.oneCell'=true
instance {k i}:One (.int k i):=⟨rfl⟩
instance {b}:One (.bool b):=⟨rfl⟩
instance {s}:One (.string s):=⟨rfl⟩
instance {p}:One (.pointer p):=⟨rfl⟩
instance {p n c}:One (.slice p n c):=⟨rfl⟩
instance {t v}:One (.iface t v):=⟨rfl⟩
instance s5.cons {v vs}[h:One v][k:s5 vs]:s5 (v::vs):=⟨λx hx=>by
 rcases List.mem_cons.1 hx with rfl | hx
 ·exact h.h
 ·exact k.h x hx⟩
variable {a:Act}{w W:World}{l2:List (Nat×Value)}{p q:Prop}{bp:Bool}{F:Value→List (Nat×Value)}{dst:Option Tmp}{ce:Callee}{args:List Operand}{f:Nat}{pK:Array TypeId}{xo Ap:Operand}
abbrev j2:World→Prop:=λ_=>True
theorem k5 {w:World}:Hd j2 []∧j2 w:=⟨Hd.any _,trivial⟩
theorem EN {fn:Func}{Jf:Code}{rs:List ResultVar}{X:Ending→World→Prop}(hf:P.funcs[f]?=some fn)(hn:fn.ntmps=m)(hb:fn.body=some Jf)(hr:fn.results=rs.toArray)[z:Zp vs [0,1,2,3,4,5,6,7,8,9,10,11] l](h:∀ a,Fr a m l→Jf.wp P (rE P rs X) a w)
   (hm:(Nat.ble vs.length m&&Nat.ble vs.length 12)=true:=by rfl):Calls P f vs.toArray w X:=by
 rw[fq]at hm;refine Qz hf hb hn (Nat.le_of_ble_eq_true hm.1) λa E=>wp_mono (h a ?_) λ_ _ _ hq=>hq fn hr;have DL:=Nat.le_of_ble_eq_true hm.2;rw[← z.h];have e:((List.range vs.length).zip vs)=[0,1,2,3,4,5,6,7,8,9,10,11].zip vs:=by
  have h3:[0,1,2,3,4,5,6,7,8,9,10,11]=List.range (vs.length+(12-vs.length)):=by rw[show vs.length+(12-vs.length)=12 from by omega];rfl
  rw[h3,List.range_add];have h4:=List.zip_append (l₁:=List.range vs.length) (l₂:=vs) (r₁:=(List.range (12-vs.length)).map (vs.length+·)) (r₂:=[]) (by simp);rw[append_nil]at h4;rw[h4];simp
 rw[← e];exact E
theorem RN (k:Nat)(E:Fr a n l)(I:U W w L)[r:Rn k n j2 [] L l X b c l' Y](h:∀ a,Fr a n l'→Y a w)(hb:b=true:=by kernel_rfl)(hc:c:=by (repeat' refine And.intro ?_ ?_) <;> first | exact True.intro | omega | exact (rfl:_=_) | decide):X a w:=r.rn hb hc E I k5 h
theorem RH (k:Nat)(E:Fr a n l)(I:U W w L)(hH:Hd C L0)(hC:C w)[r:Rn k n C L0 L l X b c l' Y](h:∀ a,Fr a n l'→Y a w)(hb:b=true:=by kernel_rfl)(hc:c:=by (repeat' refine And.intro ?_ ?_) <;> first | exact True.intro | omega | exact (rfl:_=_) | decide):X a w:=r.rn hb hc E I ⟨hH,hC⟩ h
theorem RT (k:Nat)(E:Fr a n l)(I:U W w L)[r:Rn k n j2 [] L l X b c l' (s3 R v)](h:R (.returned v) w)(hb:b=true:=by kernel_rfl)(hc:c:=by (repeat' refine And.intro ?_ ?_) <;> first | exact True.intro | omega | exact (rfl:_=_) | decide):X a w:=r.rn hb hc E I k5 λ_ _=>h
theorem IF (k:Nat)(E:Fr a n l)(I:U W w L)[r:Rn k n j2 [] L l X b c l1 ((Code.cond (.tmp t) x y).wp P Q)][g1:fp l1 t (.bool b2)][hS:gZ l1 t l2][l9:BP b2 p q]
   (ht:p→∀ a,Fr a n ((t,.bool true)::l2)→x.wp P Q a w) (hf:q→∀ a,Fr a n ((t,.bool false)::l2)→y.wp P Q a w) (hb:b=true:=by kernel_rfl) (hc:c:=by (repeat' refine And.intro ?_ ?_) <;> first | exact True.intro | omega | exact (rfl:_=_) | decide):X a w :=
 r.rn hb hc E I k5 λa E=>E.by (s:=t) (λh E=>IC E (ht h _ E)) (λh E=>ID E (hf h _ E))
theorem R8 (k:Nat)(E:Fr a n l)(I:U W w L)[r:Rn k n j2 [] L l X b c l1 ((Code.cond (.tmp t) x y).wp P Q)][g1:fp l1 t (.bool b2)][hS:gZ l1 t l2]
   (ht:b2=true→∀ a,Fr a n ((t,.bool true)::l2)→x.wp P Q a w) (hf:b2=false→∀ a,Fr a n ((t,.bool false)::l2)→y.wp P Q a w) (hb:b=true:=by kernel_rfl) (hc:c:=by (repeat' refine And.intro ?_ ?_) <;> first | exact True.intro | omega | exact (rfl:_=_) | decide):X a w :=
 r.rn hb hc E I k5 λa E=>E.bool (s:=t) (λh E=>IC E (ht h _ E)) (λh E=>ID E (hf h _ E))
theorem BY (k:Nat)(E:Fr a n l)(I:U W w L)[r:Rn k n j2 [] L l X b c l1 (cJ P os.toArray Q ⟨dst,op,ty,ps,af,some (j,bp)⟩ K)][d1:uE os j t][g1:fp l1 t (.bool b2)][hS:gZ l1 t l2][l9:BP b2 p q]
   (ht:p→∀ a,Fr a n ((t,.bool true)::l2)→cJ P os.toArray Q ⟨dst,op,ty,ps,af,some (j,bp)⟩ K a w) (hf:q→∀ a,Fr a n ((t,.bool false)::l2)→cJ P os.toArray Q ⟨dst,op,ty,ps,af,some (j,bp)⟩ K a w)
   (hb:b=true:=by kernel_rfl) (hc:c:=by (repeat' refine And.intro ?_ ?_) <;> first | exact True.intro | omega | exact (rfl:_=_) | decide):X a w :=
 r.rn hb hc E I k5 λa E=>E.by (s:=t) (λh E=>ht h _ E) (λh E=>hf h _ E)
theorem x9 (E:Fr a n l)[e:Gd os l g true][ev:oJ P l ce args f vs][wm:s4 n l dst bp F]{X:Ending→World→Prop}(hc:Calls P f vs.toArray w X)(DM:bp=true)(hf:hQ P f=true)
   (h:∀ e w',X e w'→∃ v,e=.returned v∧∀ a',Fr a' n (F v)→K a' w'):cJ P os.toArray Q ⟨dst,.call ⟨ce,args.toArray,pK⟩,ty,ps,af,g⟩ K a w :=
 Ix (e.h E) (ev.h hf E) hc λe w' hx=>let ⟨v,he,hv⟩:=h e w' hx;⟨v,he,hv _ (wm.h DM E)⟩
section
variable {α β γ:Type}{S0:World→Prop}{S1:α→World→Prop}{S2:α→β→World→Prop}{S3:α→β→γ→World→Prop}{v1:α→Value}{w2:α→β→Value}{Jg:α→β→γ→Value}
theorem CL (k:Nat)(E:Fr a n l)(I:U W w L)[r:Rn k n j2 [] L l X b c l1 (cJ P os.toArray Q ⟨dst,.call ⟨ce,args.toArray,pK⟩,ty,ps,af,g⟩ K)][e:Gd os l1 g true][ev:oJ P l1 ce args f vs][wm:s4 n l1 dst bp F]
   (hq:Calls P f vs.toArray w λr w'=>r=.returned v∧S0 w') (h:∀ a w,Fr a n (F v)→S0 w→K a w) (hb:(b&&bp)=true:=by kernel_rfl) (hf:hQ P f=true:=by kernel_rfl) (hc:c:=by (repeat' refine And.intro ?_ ?_) <;> first | exact True.intro | omega | exact (rfl:_=_) | decide):X a w:=by
 simp only[fq]at hb;exact r.rn hb.1 hc E I k5 λa E=>x9 E hq hb.2 hf λe w' ⟨h1,h2⟩=>⟨_,h1,λa E=>h a w' E h2⟩
theorem bh (k:Nat)(E:Fr a n l)(I:U W w L)[r:Rn k n j2 [] L l X b c l1 (cJ P os.toArray Q ⟨dst,.call ⟨ce,args.toArray,pK⟩,ty,ps,af,g⟩ K)][e:Gd os l1 g true][ev:oJ P l1 ce args f vs][wm:s4 n l1 dst bp F]
   (hq:Calls P f vs.toArray w λr w'=>∃ x,r=.returned (v1 x)∧S1 x w') (h:∀ x a w,Fr a n (F (v1 x))→S1 x w→K a w) (hb:(b&&bp)=true:=by kernel_rfl) (hf:hQ P f=true:=by kernel_rfl) (hc:c:=by (repeat' refine And.intro ?_ ?_) <;> first | exact True.intro | omega | exact (rfl:_=_) | decide):X a w:=by
 simp only[fq]at hb;exact r.rn hb.1 hc E I k5 λa E=>x9 E hq hb.2 hf λe w' ⟨x,h1,h2⟩=>⟨_,h1,λa E=>h x a w' E h2⟩
theorem aZ (k:Nat)(E:Fr a n l)(I:U W w L)[r:Rn k n j2 [] L l X b c l1 (cJ P os.toArray Q ⟨dst,.call ⟨ce,args.toArray,pK⟩,ty,ps,af,g⟩ K)][e:Gd os l1 g true][ev:oJ P l1 ce args f vs][wm:s4 n l1 dst bp F]
   (hq:Calls P f vs.toArray w λr w'=>∃ x y,r=.returned (w2 x y)∧S2 x y w') (h:∀ x y a w,Fr a n (F (w2 x y))→S2 x y w→K a w) (hb:(b&&bp)=true:=by kernel_rfl) (hf:hQ P f=true:=by kernel_rfl) (hc:c:=by (repeat' refine And.intro ?_ ?_) <;> first | exact True.intro | omega | exact (rfl:_=_) | decide):X a w:=by
 simp only[fq]at hb;exact r.rn hb.1 hc E I k5 λa E=>x9 E hq hb.2 hf λe w' ⟨x,y,h1,h2⟩=>⟨_,h1,λa E=>h x y a w' E h2⟩
theorem j3 (k:Nat)(E:Fr a n l)(I:U W w L)[r:Rn k n j2 [] L l X b c l1 (cJ P os.toArray Q ⟨dst,.call ⟨ce,args.toArray,pK⟩,ty,ps,af,g⟩ K)][e:Gd os l1 g true][ev:oJ P l1 ce args f vs][wm:s4 n l1 dst bp F]
   (hq:Calls P f vs.toArray w λr w'=>∃ x y z,r=.returned (Jg x y z)∧S3 x y z w') (h:∀ x y z a w,Fr a n (F (Jg x y z))→S3 x y z w→K a w) (hb:(b&&bp)=true:=by kernel_rfl) (hf:hQ P f=true:=by kernel_rfl) (hc:c:=by (repeat' refine And.intro ?_ ?_) <;> first | exact True.intro | omega | exact (rfl:_=_) | decide):X a w:=by
 simp only[fq]at hb;exact r.rn hb.1 hc E I k5 λa E=>x9 E hq hb.2 hf λe w' ⟨x,y,z,h1,h2⟩=>⟨_,h1,λa E=>h x y z a w' E h2⟩
end
theorem j4 (k:Nat)(E:Fr a n l)(I:U W w L)[r:Rn k n j2 [] L l X b c l1 (cJ P os.toArray Q ⟨dst,.call ⟨ce,args.toArray,pK⟩,ty,ps,af,g⟩ K)][e:Gd os l1 g true][ev:oJ P l1 ce args f vs][wm:s4 n l1 dst bp F]{Z:Ending→World→Prop}
   (hq:Calls P f vs.toArray w Z) (h:∀ e w,Z e w→∃ v,e=.returned v∧∀ a,Fr a n (F v)→K a w) (hb:(b&&bp)=true:=by kernel_rfl) (hf:hQ P f=true:=by kernel_rfl) (hc:c:=by (repeat' refine And.intro ?_ ?_) <;> first | exact True.intro | omega | exact (rfl:_=_) | decide):X a w:=by
 simp only[fq]at hb;exact r.rn hb.1 hc E I k5 λa E=>x9 E hq hb.2 hf h
variable {cs mC:List Value}{Aq:TypeId}{S:List SP}
theorem ST (k:Nat)(E:Fr a n l)(I:U W w L)[r:Rn k n j2 [] L l X b c l1 (cJ P os.toArray Q ⟨none,.store t xo Ap,ty,ps,af,g⟩ K)][rF:Gd os l1 g true][ev:Ev l1 xo (.pointer (some ⟨bb,off,none⟩))][uv:Ev l1 Ap v][hi:TI P t zv 1 a2][qx:Cells v [v]][o1:One v]
   [Dr:fH L bb Aq cs S] [sc:qt cs off v mC] (h:∀ a w,Fr a n l1→U W w (aa bb Aq mC::S)→K a w) (hb:b=true:=by kernel_rfl) (hc:c:=by (repeat' refine And.intro ?_ ?_) <;> first | exact True.intro | omega | exact (rfl:_=_) | decide) (hlt:off<cs.length:=by first | exact Nat.afh rfl | omega | simp):X a w :=
 r.rn hb hc E I k5 λa E=>Iv E (rF.h E) I hi o1.h hlt h
theorem SA (k:Nat)(E:Fr a n l)(I:U W w L)[r:Rn k n j2 [] L l X b c l1 (cJ P os.toArray Q ⟨none,.store t xo Ap,ty,ps,af,g⟩ K)][rF:Gd os l1 g true][ev:Ev l1 xo (.pointer (some ⟨bb,0,none⟩))][uv:Ev l1 Ap v][hi:TI P t zv m a2][qx:Cells v vs][le:mH vs m][o1:s5 vs]
   [Dr:fH L bb Aq cs S] [R9:mH cs m] (h:∀ a w,Fr a n l1→U W w (aa bb Aq vs::S)→K a w) (hb:b=true:=by kernel_rfl) (hc:c:=by (repeat' refine And.intro ?_ ?_) <;> first | exact True.intro | omega | exact (rfl:_=_) | decide):X a w :=
 r.rn hb hc E I k5 λa E=>Qq E (rF.h E) I (by rw[le.h];exact hi) o1.h (by rw[le.h,R9.h]) h
theorem AL (k:Nat)(E:Fr a n l)(I:U W w L)[r:Rn k n j2 [] L l X b c l1 (cJ P os.toArray Q ⟨some d,.alloc t,ty,ps,af,g⟩ K)][rF:Gd os l1 g true][hi:TI P t zv m a2][qx:Cells zv vs][q:gZ l1 d l2]
   (h:∀ b a w',Fr a n ((d,.pointer (some ⟨b,0,none⟩))::l2)→U W w' (aa b t vs::L)→K a w') (hb:(b&&okB d n l2)=true:=by kernel_rfl) (hc:c:=by (repeat' refine And.intro ?_ ?_) <;> first | exact True.intro | omega | exact (rfl:_=_) | decide):X a w:=by
 rw[fq]at hb;exact r.rn hb.1 hc E I k5 λa E=>eZ (E.del d) (rF.h E) I hi hb.2 λb a w E I _=>h b a w E I
theorem BX (k:Nat)(E:Fr a n l)(I:U W w L)[r:Rn k n j2 [] L l X b c l1 (cJ P os.toArray Q ⟨some d,.box t xo,ty,ps,af,g⟩ K)][rF:Gd os l1 g true][ev:Ev l1 xo v][qx:Cells v vs][q:gZ l1 d l2]
   (h:∀ b a w',Fr a n ((d,.pointer (some ⟨b,0,none⟩))::l2)→U W w' (aa b t vs::L)→K a w') (hb:(b&&okB d n l2)=true:=by kernel_rfl) (hc:c:=by (repeat' refine And.intro ?_ ?_) <;> first | exact True.intro | omega | exact (rfl:_=_) | decide):X a w:=by
 rw[fq]at hb;refine r.rn hb.1 hc E I k5 λa E=>?_;have:=ev.ev a n E;refine bw (v:=.pointer (some ⟨w.heap.size,0,none⟩)) (w':=w.alloc (.cells vs.toArray t)) (E.del d) (rF.h E) ?_ hb.2 (λa' dh=>h _ _ _ dh (I.alloc _));simp[execOp,Instr.box,this,newVar,newRow,newObj,Sem.run,qx.h,Sem.run_bind]
theorem SX (k:Nat)(E:Fr a n l)(I:U W w L)[r:Rn k n j2 [] L l X b c l1 (cJ P os.toArray Q ⟨some d,op,ty,ps,af,g⟩ K)][rF:Gd os l1 g true][s:Sx P L l1 op et v][q:gZ l1 d l2](h1:et)
   (h:∀ a,Fr a n ((d,v)::l2)→K a w) (hb:(b&&okB d n l2)=true:=by kernel_rfl) (hc:c:=by (repeat' refine And.intro ?_ ?_) <;> first | exact True.intro | omega | exact (rfl:_=_) | decide):X a w:=by
 rw[fq]at hb;exact r.rn hb.1 hc E I k5 λa E=>bw (E.del d) (rF.h E) (s.ex h1 E (Lk.of I)) hb.2 h
theorem QP [p:oI os i ⟨some d,op,ty,ps,af,g⟩][pk:nh Q][e:Gd os l g true][q:gZ l d l1](E:Fr a n l)(hr:∀ w,(execOp a.eval ⟨some d,op,ty,ps,af,g⟩).run P w=.ok (.value v) w)
   (h:∀ a,Fr a n ((d,v)::l1)→gj P os.toArray Q C2 bg od fuel (mI m i) a w) (hb:(nc os.toArray (lb os.toArray.size m) bg true i&&!bg.contains i&&okB d n l1)=true:=by kernel_rfl):gj P os.toArray Q C2 bg (i::od) (fuel+1) m a w:=by
 simp only[fq,Bool.not_eq_true']at hb;exact IW (qF _ _ _) (by rw[getElem?_toArray];exact p.h) hb.1.1 hb.1.2 pk.h (E.del d) (e.h E) hr hb.2 h
theorem QH [p:oI os i ⟨some d,op,ty,ps,af,g⟩][pk:nh Q][e:Gd os l g true][q:gZ l d l1](E:Fr a n l)(hr:∀ w,C2 w→(execOp a.eval ⟨some d,op,ty,ps,af,g⟩).run P w=.ok (.value v) w)(hC:C2 w)
   (h:∀ a,Fr a n ((d,v)::l1)→gj P os.toArray Q C2 bg od fuel (mI m i) a w) (hb:(nc os.toArray (lb os.toArray.size m) bg false i&&okB d n l1)=true:=by kernel_rfl):gj P os.toArray Q C2 bg ((i+3000)::od) (fuel+1) m a w:=by
 simp only[fq]at hb;exact IX (qF _ _ _) (by rw[getElem?_toArray];exact p.h) hb.1 pk.h (E.del d) (e.h E) hr hC hb.2 h
theorem aV (k:Nat)(C:World→World→Prop)(bg od:List Nat)(E:Fr a n l)(I:U W w L)[r:Rn k n j2 [] L l X b c l1 ((Code.region i os.toArray true).wp P Q)][pk:nh Q][ya:Ao P]
   (h:∀ a w,Fr a n l1→U W w L→Hd (C w) []→gj P os.toArray Q (C w) bg od os.length 0 a w) (hb:b=true:=by kernel_rfl) (hc:c:=by (repeat' refine And.intro ?_ ?_) <;> first | exact True.intro | omega | exact (rfl:_=_) | decide):X a w :=
 r.rn hb hc E I k5 λa E=>Go.Proofs.YteoldcfapaiobaaGreat.DW (C w.drew) bg od ya.h pk.h (λ_=>h a _ E I.drew (Hd.any _)) List.size_toArray
theorem rG (k:Nat)(C:World→Prop)(bg od:List Nat)(E:Fr a n l)(I:U W w L)[r:Rn k n j2 [] L l X b c l1 ((Code.region i os.toArray true).wp P Q)][pk:nh Q][ya:Ao P]
   (h:∀ a,Fr a n l1→gj P os.toArray Q C bg od os.length 0 a w.drew) (hb:b=true:=by kernel_rfl) (hc:c:=by (repeat' refine And.intro ?_ ?_) <;> first | exact True.intro | omega | exact (rfl:_=_) | decide):X a w :=
 r.rn hb hc E I k5 λa E=>Go.Proofs.YteoldcfapaiobaaGreat.DW C bg od ya.h pk.h (λ_=>h a E) List.size_toArray
theorem bR (k:Nat)(bg od:List Nat)(E:Fr a n l)(I:U W w L)[r:Rn k n j2 [] L l X b c l1 ((Code.region i os.toArray true).wp P Q)][pk:nh Q][ya:Ao P]
   (h:∀ a w,Fr a n l1→U W w L→Hd (Old w) L→Old w w→gj P os.toArray Q (Old w) bg od os.length 0 a w) (hb:b=true:=by kernel_rfl) (hc:c:=by (repeat' refine And.intro ?_ ?_) <;> first | exact True.intro | omega | exact (rfl:_=_) | decide):X a w :=
 r.rn hb hc E I k5 λa E=>Go.Proofs.YteoldcfapaiobaaGreat.DW (Old w.drew) bg od ya.h pk.h (λ_=>h a _ E I.drew (Hd.gE I.drew) (Old.refl _)) List.size_toArray
end
section
variable {P:Program}{ops:Array Oper}{Q:Exit→Act→World→Prop}{C:World→Prop}{bg:List Nat}{fuel m:Nat}{a:Act}{w:World}
def yb (P:Program)(ops:Array Oper)(Q:Exit→Act→World→Prop)(C:World→Prop)(bg:List Nat)(fuel m:Nat)(a:Act)(w:World):List (Nat×List Nat)→Prop
 | []=>True
 | (i,od)::r=>(∃ o,ops[i]?=some o∧cJ P ops Q o (CN (bg.contains i) C (gj P ops Q C bg od fuel (mI m i))) a w)∧yb P ops Q C bg fuel m a w r
theorem yb.get:∀ {l:List (Nat×List Nat)} {i:Nat},yb P ops Q C bg fuel m a w l→i∈l.map (·.1)→∃ (o:Oper) (od:List Nat),ops[i]?=some o∧cJ P ops Q o (CN (bg.contains i) C (gj P ops Q C bg od fuel (mI m i))) a w
 | [],_,_,h=>by simp at h
 | (j,od)::r,i,⟨⟨o,h1,h2⟩,h3⟩,h=>by
  rw[map_cons]at h;rcases List.mem_cons.1 h with rfl | h
  ·exact⟨o,od,h1,h2⟩
  ·exact yb.get h3 h
theorem DN {od:List Nat}(l:List (Nat×List Nat))(hr:Region.ready .any ops (lb ops.size m)=l.map (·.1))(bD:l.isEmpty=false)(h:yb P ops Q C bg fuel m a w l):gj P ops Q C bg od (fuel+1) m a w:=by
 refine⟨λh0=>?_,λj hj=>?_⟩
 ·rw[hr]at h0;cases l with
  | nil=>cases bD
  | cons x r=>cases h0
 ·rw[hr]at hj;obtain⟨o,od,h1,h2⟩:=h.get hj;simp only[wpOp,h1,qF];exact h2
end
end
section
abbrev pt (b:Nat):Value:=.pointer (some ⟨b,0,none⟩)
theorem Hd.at {C:World→Prop}{L:List SP}(_:Hd C L)(w:World)(h:C w):C w:=h
theorem ae {P:Program}{a:Act}{w:World}{n:Nat}{l:List (Nat × Value)}{x ad t v dst ty ps af g}(E:Fr a n l)(hc:w.cell? ad=some v)[u:Du P t][ev:Ev l x (.pointer (some ad))]:(execOp a.eval ⟨dst,.load t x,ty,ps,af,g⟩).run P w=.ok (.value v) w:=by
 obtain ⟨ej,h1,h2⟩:=u.h;exact It E h1 h2 hc
theorem SS {P:Program}{ops:Array Oper}{Q:Exit→Act→World→Prop}{a:Act}{w:World}{K:Act→World→Prop}{n d:Nat}{l:List (Nat × Value)}{v:Value}{op ty ps af g}(E:Fr a n l)(hr:(execOp a.eval ⟨some d,op,ty,ps,af,g⟩).run P w=.ok (.value v) w)(h:∀ a',Fr a' n ((d,v)::l)→K a' w)(hw:Region.wanted ⟨some d,op,ty,ps,af,g⟩ (yielded ops a.tmps)=true:=by rfl)(hf:okB d n l=true:=by rfl):cJ P ops Q ⟨some d,op,ty,ps,af,g⟩ K a w:=bw E hw hr hf h
end
section
instance Ty.t2:TI prog 2 (.int .i64 0) 1 8:=TI.of (by kernel_rfl)
instance Ty.t3:TI prog 3 (.int .i64 0) 1 8:=TI.of (by kernel_rfl)
instance Ty.t4:TI prog 4 (.bool false) 1 1:=TI.of (by kernel_rfl)
instance Ty.t5:TI prog 5 (.int .u8 0) 1 1:=TI.of (by kernel_rfl)
instance Ty.t9:TI prog 9 (.string ⟨#[]⟩) 1 16:=TI.of (by kernel_rfl)
instance Ty.t21:TI prog 21 (.int .i32 0) 1 4:=TI.of (by kernel_rfl)
instance Ty.t22:TI prog 22 (.slice none 0 0) 1 24:=TI.of (by kernel_rfl)
instance Ty.t28:TI prog 28 (.agg #[.int .i64 0,.int .i64 0,.int .i64 0,.int .i64 0,.int .i64 0,.int .i64 0,.int .i64 0,.int .i64 0,.int .i64 0,.int .i64 0]) 10 80:=TI.of (by kernel_rfl)
instance Ty.t31:TI prog 31 (.pointer none) 1 8:=TI.of (by kernel_rfl)
instance Ty.t33:TI prog 33 (.agg #[.pointer none,.int .i64 0,.bool false]) 3 24:=TI.of (by kernel_rfl)
instance Ty.t34:TI prog 34 (.pointer none) 1 8:=TI.of (by kernel_rfl)
instance Ty.t35:TI prog 35 (.pointer none) 1 8:=TI.of (by kernel_rfl)
instance Ty.t36:TI prog 36 (.slice none 0 0) 1 24:=TI.of (by kernel_rfl)
instance Ty.t37:TI prog 37 (.slice none 0 0) 1 24:=TI.of (by kernel_rfl)
instance Ty.t38:TI prog 38 (.slice none 0 0) 1 24:=TI.of (by kernel_rfl)
instance Ty.t40:TI prog 40 (.agg #[.pointer none,.slice none 0 0,.slice none 0 0,.slice none 0 0]) 4 80:=TI.of (by kernel_rfl)
instance Ty.t42:TI prog 42 (.pointer none) 1 8:=TI.of (by kernel_rfl)
instance Ty.t43:TI prog 43 (.slice none 0 0) 1 24:=TI.of (by kernel_rfl)
instance Ty.t45:TI prog 45 (.agg #[.string ⟨#[]⟩,.slice none 0 0]) 2 40:=TI.of (by kernel_rfl)
instance Ty.t47:TI prog 47 (.agg #[.int .i64 0,.int .i64 0,.slice none 0 0]) 3 40:=TI.of (by kernel_rfl)
instance Ty.t49:TI prog 49 (.agg #[.int .i32 0,.int .i32 0,.int .i32 0,.int .i32 0,.int .i32 0,.int .i32 0,.int .i32 0,.int .i32 0,.int .i32 0,.int .i32 0,.int .i32 0,.int .i32 0,.int .i32 0,.int .i32 0,.int .i32 0,.int .i32 0,.int .i32 0,.int .i32 0,.int .i32 0,.int .i32 0,.int .i32 0,.int .i32 0,.int .i32 0,.int .i32 0,.int .i32 0,.int .i32 0,.int .i32 0,.int .i32 0,.int .i32 0,.int .i32 0,.int .i32 0,.int .i32 0]) 32 128:=TI.of (by kernel_rfl)
instance Ty.t51:TI prog 51 (.agg ((.pointer none::.string ⟨#[]⟩::.slice none 0 0::.int .i64 0::.int .i64 0::.slice none 0 0::.int .i32 0::.int .i32 0::.int .i32 0::.int .i32 0::.int .i32 0::.int .i32 0::.int .i32 0::.int .i32 0::.int .i32 0::.int .i32 0::.int .i32 0::.int .i32 0::.int .i32 0::.int .i32 0::.int .i32 0::.int .i32 0::.int .i32 0::.int .i32 0::.int .i32 0::.int .i32 0::.int .i32 0::.int .i32 0::.int .i32 0::.int .i32 0::.int .i32 0::.int .i32 0::.int .i32 0::.int .i32 0::.int .i32 0::.int .i32 0::.int .i32 0::.int .i32 0::[]):List Value).toArray) 38 216:=TI.of (by kernel_rfl)
instance Ty.t53:TI prog 53 (.slice none 0 0) 1 24:=TI.of (by kernel_rfl)
instance Ty.t58:TI prog 58 (.agg #[.int .i64 0,.int .i64 0,.int .i64 0,.int .i64 0]) 4 32:=TI.of (by kernel_rfl)
instance Ty.t60:TI prog 60 (.agg #[.int .i64 0,.int .i64 0,.slice none 0 0]) 3 40:=TI.of (by kernel_rfl)
instance Ty.t62:TI prog 62 (.pointer none) 1 8:=TI.of (by kernel_rfl)
instance Ty.t65:TI prog 65 (.agg #[.slice none 0 0]) 1 24:=TI.of (by kernel_rfl)
instance Ty.t66:TI prog 66 (.slice none 0 0) 1 24:=TI.of (by kernel_rfl)
instance Ty.t67:TI prog 67 (.slice none 0 0) 1 24:=TI.of (by kernel_rfl)
instance Ty.t68:TI prog 68 (.slice none 0 0) 1 24:=TI.of (by kernel_rfl)
instance Ty.t69:TI prog 69 (.slice none 0 0) 1 24:=TI.of (by kernel_rfl)
instance Ty.t70:TI prog 70 (.slice none 0 0) 1 24:=TI.of (by kernel_rfl)
instance Ty.t72:TI prog 72 (.agg #[.int .i64 0,.int .i64 0,.int .i64 0,.int .i64 0,.int .i64 0,.int .i64 0,.int .i64 0,.int .i64 0,.int .i64 0,.int .i64 0,.slice none 0 0,.int .i64 0,.slice none 0 0,.slice none 0 0,.slice none 0 0,.slice none 0 0,.slice none 0 0,.slice none 0 0,.bool false]) 19 264:=TI.of (by kernel_rfl)
instance Ty.t81:TI prog 81 (.nilIface) 1 16:=TI.of (by kernel_rfl)
instance Ty.t90:TI prog 90 (.slice none 0 0) 1 24:=TI.of (by kernel_rfl)
instance Ty.t100:TI prog 100 (.int .u32 0) 1 4:=TI.of (by kernel_rfl)
instance Ty.t102:TI prog 102 (.agg #[.int .i64 0,.int .i64 0,.int .i64 0]) 3 24:=TI.of (by kernel_rfl)
instance Ty.t104:TI prog 104 (.slice none 0 0) 1 24:=TI.of (by kernel_rfl)
instance Ty.t105:TI prog 105 (.slice none 0 0) 1 24:=TI.of (by kernel_rfl)
instance Ty.t107:TI prog 107 (.agg #[.slice none 0 0,.pointer none,.slice none 0 0]) 3 56:=TI.of (by kernel_rfl)
instance Ty.t108:TI prog 108 (.slice none 0 0) 1 24:=TI.of (by kernel_rfl)
instance Ty.t110:TI prog 110 (.agg #[.slice none 0 0]) 1 24:=TI.of (by kernel_rfl)
instance Ty.t114:TI prog 114 (.agg #[.int .i64 0,.int .i64 0,.int .i64 0,.int .i64 0]) 4 32:=TI.of (by kernel_rfl)
instance Ty.t124:TI prog 124 (.agg #[.int .i64 0,.int .i64 0,.slice none 0 0]) 3 40:=TI.of (by kernel_rfl)
instance Ty.t133:TI prog 133 (.nilIface) 1 16:=TI.of (by kernel_rfl)
instance Ty.t135:TI prog 135 (.agg #[.nilIface]) 1 16:=TI.of (by kernel_rfl)
instance Ty.t139:TI prog 139 (.pointer none) 1 8:=TI.of (by kernel_rfl)
instance Ty.t158:TI prog 158 (.pointer none) 1 8:=TI.of (by kernel_rfl)
instance Ty.t162:TI prog 162 (.pointer none) 1 8:=TI.of (by kernel_rfl)
instance Ty.t164:TI prog 164 (.agg (List.replicate 201 (.int .i64 0)).toArray) 201 1608:=TI.of (by kernel_rfl)
instance Ty.t166:TI prog 166 (.int .i64 0) 1 8:=TI.of (by kernel_rfl)
instance Ty.t168:TI prog 168 (.slice none 0 0) 1 24:=TI.of (by kernel_rfl)
instance Ty.t169:TI prog 169 (.pointer none) 1 8:=TI.of (by kernel_rfl)
instance Ty.t173:TI prog 173 (.pointer none) 1 8:=TI.of (by kernel_rfl)
instance Ty.t175:TI prog 175 (.slice none 0 0) 1 24:=TI.of (by kernel_rfl)
instance Ty.t177:TI prog 177 (.agg #[.pointer none,.string ⟨#[]⟩,.slice none 0 0,.pointer none,.pointer none,.pointer none,.slice none 0 0,.int .i64 0,.int .i64 0]) 9 112:=TI.of (by kernel_rfl)
instance Ty.t179:TI prog 179 (.pointer none) 1 8:=TI.of (by kernel_rfl)
instance Ty.t183:TI prog 183 (.agg #[.int .i32 0,.int .i32 0,.int .i32 0,.int .i32 0,.int .i32 0,.int .i32 0,.int .i32 0,.int .i32 0,.int .i32 0,.int .i32 0,.int .i32 0,.int .i32 0,.int .i32 0,.int .i32 0,.int .i32 0,.int .i32 0,.int .i32 0,.int .i32 0,.int .i32 0,.int .i32 0,.int .i32 0,.int .i32 0,.int .i32 0,.int .i32 0,.int .i32 0,.int .i32 0,.int .i32 0,.int .i32 0,.int .i32 0,.int .i32 0,.int .i32 0,.int .i32 0]) 32 128:=TI.of (by kernel_rfl)
instance Ty.t186:TI prog 186 (.agg #[.int .i64 0,.int .i64 0,.slice none 0 0]) 3 40:=TI.of (by kernel_rfl)
instance Ty.t187:TI prog 187 (.pointer none) 1 8:=TI.of (by kernel_rfl)
instance Ty.t192:TI prog 192 (.agg ((.pointer none::.string ⟨#[]⟩::.slice none 0 0::.int .i64 0::.int .i64 0::.slice none 0 0::.int .i32 0::.int .i32 0::.int .i32 0::.int .i32 0::.int .i32 0::.int .i32 0::.int .i32 0::.int .i32 0::.int .i32 0::.int .i32 0::.int .i32 0::.int .i32 0::.int .i32 0::.int .i32 0::.int .i32 0::.int .i32 0::.int .i32 0::.int .i32 0::.int .i32 0::.int .i32 0::.int .i32 0::.int .i32 0::.int .i32 0::.int .i32 0::.int .i32 0::.int .i32 0::.int .i32 0::.int .i32 0::.int .i32 0::.int .i32 0::.int .i32 0::.int .i32 0::[]):List Value).toArray) 38 216:=TI.of (by kernel_rfl)
instance Ty.t203:TI prog 203 (.agg #[.int .i64 0,.int .i64 0,.int .i64 0,.int .i64 0,.int .i64 0,.slice none 0 0,.int .i64 0,.int .i64 0,.int .u32 0]) 9 88:=TI.of (by kernel_rfl)
instance Ty.t207:TI prog 207 (.slice none 0 0) 1 24:=TI.of (by kernel_rfl)
instance Ty.t210:TI prog 210 (.agg #[.int .i64 0]) 1 8:=TI.of (by kernel_rfl)
instance Ty.t211:TI prog 211 (.agg #[.int .i64 0]) 1 8:=TI.of (by kernel_rfl)
instance Ty.t213:TI prog 213 (.agg #[.int .i64 0,.int .i64 0]) 2 16:=TI.of (by kernel_rfl)
instance Ty.t218:TI prog 218 (.map none) 1 8:=TI.of (by kernel_rfl)
instance Ty.t219:TI prog 219 (.pointer none) 1 8:=TI.of (by kernel_rfl)
instance Ty.t221:TI prog 221 (.agg #[.pointer none,.map none,.int .i64 0]) 3 24:=TI.of (by kernel_rfl)
instance Ty.t222:TI prog 222 (.slice none 0 0) 1 24:=TI.of (by kernel_rfl)
instance Ty.t224:TI prog 224 (.agg #[.slice none 0 0]) 1 24:=TI.of (by kernel_rfl)
instance Ty.t225:TI prog 225 (.agg #[.int .i32 0,.int .i32 0,.int .i32 0,.int .i32 0,.int .i32 0,.int .i32 0,.int .i32 0,.int .i32 0]) 8 32:=TI.of (by kernel_rfl)
instance Ty.t227:TI prog 227 (.agg #[.int .i32 0,.int .i32 0,.int .i32 0,.int .i32 0,.int .i32 0,.int .i32 0,.int .i32 0,.int .i32 0,.int .i64 0]) 9 40:=TI.of (by kernel_rfl)
instance Ty.t230:TI prog 230 (.agg #[.int .i64 0,.int .i64 0,.int .i64 0,.int .i64 0]) 4 32:=TI.of (by kernel_rfl)
instance Ty.t232:TI prog 232 (.agg #[.int .i64 0,.int .i64 0,.int .i64 0,.int .i64 0,.int .i64 0]) 5 40:=TI.of (by kernel_rfl)
instance Ty.t236:TI prog 236 (.agg #[.pointer none,.int .i64 0,.slice none 0 0,.int .i64 0,.int .i64 0]) 5 56:=TI.of (by kernel_rfl)
instance Ty.t238:TI prog 238 (.agg #[.int .i64 0,.int .i64 0,.slice none 0 0,.int .i64 0,.int .i64 0]) 5 56:=TI.of (by kernel_rfl)
instance Ty.t241:TI prog 241 (.slice none 0 0) 1 24:=TI.of (by kernel_rfl)
instance Ty.t243:TI prog 243 (.agg #[.slice none 0 0]) 1 24:=TI.of (by kernel_rfl)
instance Ty.t245:TI prog 245 (.agg #[.int .i64 0,.int .i64 0]) 2 16:=TI.of (by kernel_rfl)
instance Ty.t247:TI prog 247 (.agg #[.string ⟨#[]⟩,.slice none 0 0,.pointer none,.pointer none,.pointer none,.bool false,.int .i64 0,.int .i64 0,.int .i64 0,.int .i64 0,.bool false]) 11 112:=TI.of (by kernel_rfl)
instance Ty.t253:TI prog 253 (.pointer none) 1 8:=TI.of (by kernel_rfl)
instance Ty.t255:TI prog 255 (.slice none 0 0) 1 24:=TI.of (by kernel_rfl)
instance Ty.t257:TI prog 257 (.agg #[.int .i64 0,.int .i64 0,.int .i64 0,.int .i64 0,.int .i64 0,.int .i64 0,.int .i64 0,.int .i64 0,.int .i64 0,.int .i64 0,.pointer none,.slice none 0 0,.slice none 0 0,.slice none 0 0,.int .i64 0,.bool false]) 16 176:=TI.of (by kernel_rfl)
instance Ty.t259:TI prog 259 (.agg #[.int .i64 0,.int .i64 0,.int .i64 0,.int .u32 0,.bool false]) 5 32:=TI.of (by kernel_rfl)
instance Ty.t286:TI prog 286 (.slice none 0 0) 1 24:=TI.of (by kernel_rfl)
instance Ty.t288:TI prog 288 (.agg #[.slice none 0 0]) 1 24:=TI.of (by kernel_rfl)
instance Ty.t289:TI prog 289 (.pointer none) 1 8:=TI.of (by kernel_rfl)
instance Ty.t296:TI prog 296 (.agg ((.int .i32 0::.int .i32 0::.int .i32 0::.int .i32 0::.int .i32 0::.int .i32 0::.int .i32 0::.int .i32 0::.int .i32 0::.int .i32 0::.int .i32 0::.int .i32 0::.int .i32 0::.int .i32 0::.int .i32 0::.int .i32 0::.int .i32 0::.int .i32 0::.int .i32 0::.int .i32 0::.int .i32 0::.int .i32 0::.int .i32 0::.int .i32 0::.int .i32 0::.int .i32 0::.int .i32 0::.int .i32 0::.int .i32 0::.int .i32 0::.int .i32 0::.int .i32 0::[]):List Value).toArray) 32 128:=TI.of (by kernel_rfl)
instance Ty.t307:TI prog 307 (.agg #[.pointer none,.int .i64 0,.bool false]) 3 24:=TI.of (by kernel_rfl)
instance Ty.t313:TI prog 313 (.agg #[.int .i64 0,.int .u32 0]) 2 16:=TI.of (by kernel_rfl)
instance Ty.t320:TI prog 320 (.agg (List.replicate 256 (.int .i64 0)).toArray) 256 2048:=TI.of (by kernel_rfl)
instance Ty.t322:TI prog 322 (.agg (List.replicate 256 (.bool false)).toArray) 256 256:=TI.of (by kernel_rfl)
instance Ty.t328:TI prog 328 (.agg #[.slice none 0 0]) 1 24:=TI.of (by kernel_rfl)
instance Ty.t333:TI prog 333 (.nilIface) 1 16:=TI.of (by kernel_rfl)
instance Ty.t336:TI prog 336 (.agg #[.string ⟨#[]⟩,.slice none 0 0,.nilIface,.int .i64 0,.slice none 0 0,.int .i64 0]) 6 96:=TI.of (by kernel_rfl)
instance Ty.t345:TI prog 345 (.agg #[.int .i64 0,.int .i64 0,.int .i64 0,.int .i64 0]) 4 32:=TI.of (by kernel_rfl)
instance Ty.t423:TI prog 423 (.agg #[.int .u8 0,.int .u8 0]) 2 2:=TI.of (by kernel_rfl)
instance Ty.t427:TI prog 427 (.agg #[.slice none 0 0,.bool false]) 2 32:=TI.of (by kernel_rfl)
instance Ty.t429:TI prog 429 (.agg #[.int .i64 0,.int .i64 0,.int .i64 0]) 3 24:=TI.of (by kernel_rfl)
instance Ty.Jh:ep prog 28 [(0,1),(1,1),(2,1),(3,1),(4,1),(5,1),(6,1),(7,1),(8,1),(9,1)]:=⟨_,underlying28,λw=>by kernel_rfl⟩
instance Ty.jQ:ep prog 33 [(0,1),(1,1),(2,1)]:=⟨_,underlying33,λw=>by kernel_rfl⟩
instance Ty.Ji:ep prog 40 [(0,1),(1,1),(2,1),(3,1)]:=⟨_,underlying40,λw=>by kernel_rfl⟩
instance Ty.b45:ep prog 45 [(0,1),(1,1)]:=⟨_,underlying45,λw=>by kernel_rfl⟩
instance Ty.b47:ep prog 47 [(0,1),(1,1),(2,1)]:=⟨_,underlying47,λw=>by kernel_rfl⟩
instance Ty.Sa:ep prog 51 [(0,1),(1,2),(3,3),(6,32)]:=⟨_,underlying51,λw=>by kernel_rfl⟩
instance Ty.b58:ep prog 58 [(0,1),(1,1),(2,1),(3,1)]:=⟨_,underlying58,λw=>by kernel_rfl⟩
instance Ty.Sb:ep prog 60 [(0,1),(1,1),(2,1)]:=⟨_,underlying60,λw=>by kernel_rfl⟩
instance Ty.Sc:ep prog 65 [(0,1)]:=⟨_,underlying65,λw=>by kernel_rfl⟩
instance Ty.b72:ep prog 72 [(0,10),(10,1),(11,1),(12,1),(13,1),(14,1),(15,1),(16,1),(17,1),(18,1)]:=⟨_,underlying72,λw=>by kernel_rfl⟩
instance Ty.afi:ep prog 102 [(0,1),(1,1),(2,1)]:=⟨_,underlying102,λw=>by kernel_rfl⟩
instance Ty.afj:ep prog 107 [(0,1),(1,1),(2,1)]:=⟨_,underlying107,λw=>by kernel_rfl⟩
instance Ty.Sd:ep prog 110 [(0,1)]:=⟨_,underlying110,λw=>by kernel_rfl⟩
instance Ty.Se:ep prog 114 [(0,1),(1,1),(2,1),(3,1)]:=⟨_,underlying114,λw=>by kernel_rfl⟩
instance Ty.afk:ep prog 124 [(0,1),(1,1),(2,1)]:=⟨_,underlying124,λw=>by kernel_rfl⟩
instance Ty.afl:ep prog 135 [(0,1)]:=⟨_,underlying135,λw=>by kernel_rfl⟩
instance Ty.afm:ep prog 177 [(0,1),(1,2),(3,1),(4,1),(5,1),(6,1),(7,1),(8,1)]:=⟨_,underlying177,λw=>by kernel_rfl⟩
instance Ty.afn:ep prog 186 [(0,1),(1,1),(2,1)]:=⟨_,underlying186,λw=>by kernel_rfl⟩
instance Ty.afo:ep prog 192 [(0,1),(1,2),(3,3),(6,32)]:=⟨_,underlying192,λw=>by kernel_rfl⟩
instance Ty.afp:ep prog 203 [(0,1),(1,1),(2,1),(3,1),(4,1),(5,1),(6,1),(7,1),(8,1)]:=⟨_,underlying203,λw=>by kernel_rfl⟩
instance Ty.afq:ep prog 210 [(0,1)]:=⟨_,underlying210,λw=>by kernel_rfl⟩
instance Ty.afr:ep prog 211 [(0,1)]:=⟨_,underlying211,λw=>by kernel_rfl⟩
instance Ty.afs:ep prog 213 [(0,1),(1,1)]:=⟨_,underlying213,λw=>by kernel_rfl⟩
instance Ty.aft:ep prog 221 [(0,1),(1,1),(2,1)]:=⟨_,underlying221,λw=>by kernel_rfl⟩
instance Ty.afu:ep prog 224 [(0,1)]:=⟨_,underlying224,λw=>by kernel_rfl⟩
instance Ty.afv:ep prog 227 [(0,8),(8,1)]:=⟨_,underlying227,λw=>by kernel_rfl⟩
instance Ty.afw:ep prog 236 [(0,1),(1,1),(2,1),(3,1),(4,1)]:=⟨_,underlying236,λw=>by kernel_rfl⟩
instance Ty.afx:ep prog 238 [(0,1),(1,1),(2,1),(3,1),(4,1)]:=⟨_,underlying238,λw=>by kernel_rfl⟩
instance Ty.afy:ep prog 243 [(0,1)]:=⟨_,underlying243,λw=>by kernel_rfl⟩
instance Ty.afz:ep prog 245 [(0,1),(1,1)]:=⟨_,underlying245,λw=>by kernel_rfl⟩
instance Ty.afA:ep prog 247 [(0,2),(2,1),(3,1),(4,1),(5,1),(6,2),(8,1),(9,1),(10,1)]:=⟨_,underlying247,λw=>by kernel_rfl⟩
instance Ty.afB:ep prog 257 [(0,10),(10,1),(11,1),(12,1),(13,1),(14,1),(15,1)]:=⟨_,underlying257,λw=>by kernel_rfl⟩
instance Ty.afC:ep prog 259 [(0,1),(1,1),(2,1),(3,1),(4,1)]:=⟨_,underlying259,λw=>by kernel_rfl⟩
instance Ty.afD:ep prog 288 [(0,1)]:=⟨_,underlying288,λw=>by kernel_rfl⟩
instance Ty.Sf:ep prog 296 [(0,32)]:=⟨_,underlying296,λw=>by kernel_rfl⟩
instance Ty.afE:ep prog 307 [(0,1),(1,1),(2,1)]:=⟨_,underlying307,λw=>by kernel_rfl⟩
instance Ty.afF:ep prog 313 [(0,1),(1,1)]:=⟨_,underlying313,λw=>by kernel_rfl⟩
instance Ty.afG:ep prog 328 [(0,1)]:=⟨_,underlying328,λw=>by kernel_rfl⟩
instance Ty.afH:ep prog 336 [(0,2),(2,1),(3,1),(4,1),(5,1)]:=⟨_,underlying336,λw=>by kernel_rfl⟩
instance Ty.afI:ep prog 427 [(0,1),(1,1)]:=⟨_,underlying427,λw=>by kernel_rfl⟩
abbrev U2:=aK.of underlying2
abbrev U3:=aK.of underlying3
abbrev U4:=aK.of underlying4
abbrev U5:=aK.of underlying5
abbrev U9:=aK.of underlying9
abbrev Sg:=aK.of underlying21
abbrev Sh:=aK.of underlying22
abbrev Si:=aK.of underlying28
abbrev Sj:=aK.of underlying31
abbrev Sk:=aK.of underlying33
abbrev Sm:=aK.of underlying34
abbrev Sp:=aK.of underlying35
abbrev Sq:=aK.of underlying36
abbrev Sr:=aK.of underlying37
abbrev Ss:=aK.of underlying38
abbrev St:=aK.of underlying40
abbrev Su:=aK.of underlying42
abbrev Sv:=aK.of underlying43
abbrev Sw:=aK.of underlying45
abbrev Sy:=aK.of underlying47
abbrev Sz:=aK.of underlying49
abbrev SB:=aK.of underlying51
abbrev SC:=aK.of underlying53
abbrev SD:=aK.of underlying54
abbrev SE:=aK.of underlying55
abbrev SF:=aK.of underlying58
abbrev SG:=aK.of underlying60
abbrev SH:=aK.of underlying62
abbrev SI:=aK.of underlying65
abbrev SJ:=aK.of underlying66
abbrev SL:=aK.of underlying67
abbrev SM:=aK.of underlying68
abbrev SN:=aK.of underlying69
abbrev SO:=aK.of underlying70
abbrev SQ:=aK.of underlying72
abbrev SR:=aK.of underlying74
abbrev SU:=aK.of underlying78
abbrev SV:=aK.of underlying81
abbrev SW:=aK.of underlying84
abbrev SY:=aK.of underlying90
abbrev SZ:=aK.of underlying100
abbrev S4:=aK.of underlying102
abbrev S5:=aK.of underlying104
abbrev S6:=aK.of underlying105
abbrev S7:=aK.of underlying107
abbrev S8:=aK.of underlying108
abbrev S9:=aK.of underlying110
abbrev Ta:=aK.of underlying114
abbrev Tb:=aK.of underlying124
abbrev Tc:=aK.of underlying133
abbrev Td:=aK.of underlying135
abbrev Te:=aK.of underlying139
abbrev Tf:=aK.of underlying158
abbrev Tg:=aK.of underlying160
abbrev Th:=aK.of underlying162
abbrev Ti:=aK.of underlying164
abbrev Tj:=aK.of underlying166
abbrev Tk:=aK.of underlying168
abbrev Tm:=aK.of underlying169
abbrev Tn:=aK.of underlying173
abbrev To:=aK.of underlying175
abbrev Tp:=aK.of underlying177
abbrev Tq:=aK.of underlying179
abbrev Ts:=aK.of underlying183
abbrev Tt:=aK.of underlying186
abbrev Tu:=aK.of underlying187
abbrev Tv:=aK.of underlying192
abbrev Tw:=aK.of underlying203
abbrev Tx:=aK.of underlying207
abbrev Tz:=aK.of underlying210
abbrev TA:=aK.of underlying211
abbrev TB:=aK.of underlying213
abbrev TC:=aK.of underlying218
abbrev TD:=aK.of underlying219
abbrev TF:=aK.of underlying221
abbrev TG:=aK.of underlying222
abbrev TH:=aK.of underlying224
abbrev TJ:=aK.of underlying225
abbrev TL:=aK.of underlying227
abbrev TM:=aK.of underlying230
abbrev TO:=aK.of underlying232
abbrev TP:=aK.of underlying233
abbrev TQ:=aK.of underlying236
abbrev TT:=aK.of underlying238
abbrev TU:=aK.of underlying241
abbrev TW:=aK.of underlying243
abbrev TX:=aK.of underlying245
abbrev TY:=aK.of underlying247
abbrev TZ:=aK.of underlying253
abbrev T4:=aK.of underlying255
abbrev T5:=aK.of underlying257
abbrev T6:=aK.of underlying259
abbrev T7:=aK.of underlying270
abbrev T8:=aK.of underlying286
abbrev T9:=aK.of underlying288
abbrev Ua:=aK.of underlying289
abbrev Ub:=aK.of underlying294
abbrev Uc:=aK.of underlying296
abbrev Ud:=aK.of underlying305
abbrev Ue:=aK.of underlying307
abbrev Uf:=aK.of underlying313
abbrev Ug:=aK.of underlying314
abbrev Uh:=aK.of underlying319
abbrev Ui:=aK.of underlying320
abbrev Uj:=aK.of underlying322
abbrev Uk:=aK.of underlying328
abbrev Ul:=aK.of underlying333
abbrev Um:=aK.of underlying336
abbrev Un:=aK.of underlying343
abbrev Uo:=aK.of underlying345
abbrev Up:=aK.of underlying351
abbrev Uq:=aK.of underlying366
abbrev Ur:=aK.of underlying423
abbrev Us:=aK.of underlying427
abbrev Ut:=aK.of underlying429
attribute [instance] U2 U3 U4 U5 U9 Sg Sh Si Sj Sk Sm Sp Sq Sr Ss St Su Sv Sw Sy Sz SB SC SD SE SF SG SH SI SJ SL SM SN SO SQ SR SU SV SW SY SZ S4 S5 S6 S7 S8 S9 Ta Tb Tc Td Te Tf Tg Th Ti Tj Tk Tm Tn To Tp Tq Ts Tt Tu Tv Tw Tx Tz TA TB TC TD TF TG TH TJ TL TM TO TP TQ TT TU TW TX TY TZ T4 T5 T6 T7 T8 T9 Ua Ub Uc Ud Ue Uf Ug Uh Ui Uj Uk Ul Um Un Uo Up Uq Ur Us Ut
theorem Ty.mixed:prog.follows .mixedOrders=true:=by kernel_rfl
instance:Ao prog:=⟨Ty.mixed⟩
end
section
theorem U.cu {W w:World}{L R:List SP}{n c e:Nat}{cs:List Value}(I:U W w L)(ad:Option Addr)(bs:List UInt8)[k:fS L ad n c e 1 cs R](h:cs=bc bs)(hn:bs.length=n):aX w ad n bs:=by
 subst h;refine⟨hn,λe=>?_,λx hx hp=>?_⟩
 ·rcases lI n with h0 | h0
  ·exact h0
  ·obtain⟨b,off,e2,_⟩:=I.bU ad h0;rw[e]at e2;cases e2
 ·obtain⟨b,off,e2,hr⟩:=I.bU ad hp;exact⟨b,off,by rw[hx]at e2;cases e2;rfl,hr⟩
theorem aX.nil {w:World}{ad:Option Addr}:aX w ad 0 []:=⟨rfl,λ_=>rfl,λ_ _ h=>absurd h (by decide)⟩
theorem aX.gE {W w:World}{L:List SP}{ad:Option Addr}{m:Nat}{bs:List UInt8}(h:aX W ad m bs)(I:U W w L):aX w ad m bs:=by
 refine⟨h.1,h.2.1,λx hx h0=>?_⟩;obtain⟨b,off,rfl,hr⟩:=h.2.2 x hx h0;refine⟨b,off,rfl,λj v hj=>?_⟩;have h1:=hr j v hj;rw[I.gE (a:=⟨b,off+j,none⟩) (World.block_lt_of_cell? _ _ h1)];exact h1
theorem rH (ad:Option Addr)(c sz:Nat):ft ad 0 c sz=ad:=by
 unfold ft;split
 ·rfl
 ·cases ad with
  | none=>rfl
  | some a=>simp[Addr.add]
def k6 (w:World)(ad:Option Addr)(m:Nat)(p:List (List UInt8)):Prop :=
 p.length=m∧(0<m→∃ b off,ad=some ⟨b,off,none⟩∧∀ j bs,p[j]?=some bs→∃ av c',w.cell? ⟨b,off+j,none⟩=some (.slice av bs.length c')∧aX w av bs.length bs)
theorem k6.take {w:World}{ad:Option Addr}{m n:Nat}{p:List (List UInt8)}(h:k6 w ad m p)(hn:n≤m):k6 w ad n (p.take n):=by
 refine⟨by rw[eA,h.1];omega,λh0=>?_⟩;obtain⟨b,off,h1,h2⟩:=h.2 (by omega);refine⟨b,off,h1,λj bs hj=>?_⟩;rw[vV]at hj;by_cases qH:j<n
 ·rw[ak qH]at hj;exact h2 j bs hj
 ·rw[ag qH]at hj;cases hj
abbrev ee:=Option Addr×Nat×List UInt8
def aM (x:ee):Value:=.slice x.1 x.2.2.length x.2.1
def ba (x:ee):SP:=Sl 5 1 x.1 x.2.2.length x.2.1 (bc x.2.2)
def cg (ad:Option Addr)(n c:Nat)(p:List (List UInt8)):SP:=λh=>∃ xs:List ee,(xs.map (·.2.2)=p∧p.length=n)∧cm [Sl 22 1 ad n c (xs.map aM),ah ba xs] h
section
variable {W w:World}{L L' R:List SP}{ad:Option Addr}{n c:Nat}{p:List (List UInt8)}{xs:List ee}
theorem cg.open (I:U W w (cg ad n c p::L)):∃ xs:List ee,xs.map (·.2.2)=p∧p.length=n∧U W w (Sl 22 1 ad n c (xs.map aM)::ah ba xs::L):=by
 obtain⟨xs,⟨h1,h2⟩,h3⟩:=I.jM (ι:=List ee) (p:=λxs=>xs.map (·.2.2)=p∧p.length=n) (B:=λxs h=>cm [Sl 22 1 ad n c (xs.map aM),ah ba xs] h) (λh ⟨xs,h1,h2⟩=>⟨xs,h1,h2⟩);exact⟨xs,h1,h2,h3.open λ_ h=>h⟩
theorem cg.close (I:U W w L)[k:fI L (Sl 22 1 ad n c (xs.map aM)::ah ba xs::L') R](h1:xs.map (·.2.2)=p)(h2:p.length=n):U W w (cg ad n c p::L') :=
 U.shut (M:=[_,_]) (I.sub (M:=Sl 22 1 ad n c (xs.map aM)::ah ba xs::L')) (λ_ x=>⟨xs,⟨h1,h2⟩,x⟩)
theorem cg.le (I:U W w (cg ad n c p::L)):p.length=n∧n≤c:=by
 obtain⟨xs,h1,h2,h3⟩:=cg.open I;exact⟨h2,(h3.sl ad).2⟩
theorem cg.nil (I:U W w L):U W w (cg none 0 0 []::L):=by
 have h:U W w (Sl 22 1 none 0 0 (([]:List ee).map aM)::ah ba []::L):=(I.ja (f:=ba)).bM 22 1 none;exact cg.close (xs:=[]) h rfl rfl
theorem cg.rd (I:U W w (cg ad n c p::L)):k6 w ad n p:=by
 obtain⟨xs,h1,h2,h3⟩:=cg.open I;refine⟨h2,λh0=>?_⟩;obtain⟨b,off,rfl,hr⟩:=h3.bU ad h0;refine⟨b,off,rfl,λj bs hj=>?_⟩;rw[← h1,bl]at hj;obtain⟨x,hx,rfl⟩:=rI.1 hj;obtain⟨b9,g4⟩:=aY.1 hx;refine⟨x.1,x.2.1,hr j _ (by rw[bl,hx];rfl),?_⟩;have h4:=(h3.perm (cZ _ _ _)).fy b9;rw[g4]at h4;have h5:U W w (Sl 5 1 x.1 x.2.2.length x.2.1 (bc x.2.2)::_):=h4;exact h5.cu x.1 x.2.2 rfl rfl
theorem s6 {bs:List UInt8}{m:Nat}(I:U W w L)(hr:∀ w',U W w' L→aX w' ad m bs)(hb:m≤1099511627776) :
   Calls prog 95 #[.slice ad m c] w λe w'=>∃ av c',e=.returned (.slice av m c')∧U W w' (Sl 5 1 av m c' (bc bs)::L):=by
 obtain⟨h1,h2,h3⟩:=hr _ I;cases ad with
 | none =>
  obtain rfl:=h2 rfl;obtain rfl:bs=[]:=gG h1;refine EN func95 ntmps95 rfl rfl λa E=>?_;refine RN 6 E I λa E=>?_;replace E:=E.ed 4;refine RT 3 E I ?_;exact⟨_,_,rfl,I.bM _ _ _⟩
 | some a =>
  rcases lI m with h0 | h0
  ·subst h0;obtain rfl:bs=[]:=gG h1;refine EN func95 ntmps95 rfl rfl λa E=>?_;refine RN 6 E I λa E=>?_;replace E:=E.aP 4;refine RN 2 E I λa E=>?_;refine uC E rfl I underlying22 Ty.t5 rfl λb5 a w E I ho=>?_;clear ho;refine RN 1 E I λa E=>?_;refine Ds E rfl underlying22 Ty.t5 rfl (a7 _) λa E=>?_;refine RT 1 E I ?_;exact⟨_,_,rfl,I⟩
  ·obtain⟨b,off,rfl,_⟩:=h3 a rfl h0;refine EN func95 ntmps95 rfl rfl λa E=>?_;refine RN 6 E I λa E=>?_;replace E:=E.aP 4;refine RN 2 E I λa E=>?_;refine uC E rfl I underlying22 Ty.t5 rfl λb5 a w E I ho=>?_;clear ho;refine RN 1 E I λa E=>?_;obtain⟨b',dH,hx,c9⟩:=(hr _ I.tail).2.2 _ rfl h0;cases hx;refine cQ E rfl I underlying22 Ty.t5 rfl rfl c9 (by rw[dy,h1,fW]) (ez bs) h0 (by decide) (by omega) λs7 rJ a w E I=>?_;rw[eG]at E I;refine RT 1 E I ?_;exact⟨_,_,rfl,I⟩
theorem qI (a b:List UInt8):((⟨a.toArray⟩:ByteArray).data.toList==(⟨b.toArray⟩:ByteArray).data.toList)=(a==b):=rfl
theorem Jj {a b:List UInt8}{ad2:Option Addr}{m n c2:Nat}(dh:aX w ad m a)(lK:aX w ad2 n b) :
   Calls prog 313 #[.slice ad m c,.slice ad2 n c2] w λe w'=>e=.returned (.bool (a==b))∧w'=w:=by
 have I:=U.start w;refine EN func313 ntmps313 rfl rfl λa E=>?_;refine RN 4 E I λa E=>?_;refine SS E (lL E underlying22 underlying5 underlying9 (dh)) λa E=>?_;refine RN 1 E I λa E=>?_;refine SS E (lL E underlying22 underlying5 underlying9 (lK)) λa E=>?_;refine RN 0 E I λa E=>?_;refine SS E (sW E) λa E=>?_;refine RT 1 E I ?_;exact⟨by rw[qI],rfl⟩
theorem Uu {p q:List (List UInt8)}{k:Nat}{x y:List UInt8}(h:p.take k=q.take k)(hx:p[k]?=some x)(hy:q[k]?=some y):(p.take (k+1)=q.take (k+1))↔x=y:=by
 obtain⟨h1,rfl⟩:=aY.1 hx;obtain⟨h2,rfl⟩:=aY.1 hy;rw[jx h1,jx h2,h];exact⟨λe=>by have:=List.append_cancel_left e;simpa using this,λe=>by rw[e]⟩
theorem Uv {p q:List (List UInt8)}{ad2:Option Addr}{m c2:Nat}(hp:k6 w ad m p)(hq:k6 w ad2 m q)(hb:m≤1099511627776) :
   Calls prog 312 #[.slice ad m c,.slice ad2 m c2,.func (.func 313) #[] #[]] w λe w'=>e=.returned (.bool (p==q))∧w'=w:=by
 have eo:=hp.1;have Uw:=hq.1;obtain⟨W,yc⟩:∃ W,w=W:=⟨w,rfl⟩;have I:U W w []:=yc ▸ U.start w;refine EN func312 ntmps312 rfl rfl λa E=>?_;refine RN 9 E I λa E=>?_;rw[Rw]at E;replace E:=E.aP 14;refine RN 6 E I λa E=>?_;refine aN (λμ a w=>∃ k:Nat,(μ=m-k∧k≤m∧p.take k=q.take k∧w=W)∧Fr a 32 [(1,.slice ad2 m c2),(2,.func (.func 313) #[] #[]),(15,.slice ad m c),(16,.int .i64 m),(17,.int .i64 k)]∧U W w []) (m) (⟨0,⟨by simp,by simp,by simp,yc⟩,E.ab [1,2,15,16,17],I⟩) ?_;clear E I;rintro μ a w ⟨k,⟨rfl,hk,DO,Ar⟩,E,I⟩;subst Ar yc;refine IF 3 E I (λao a E=>?_) λao a E=>?_
 ·
  refine RN 2 E I λa E=>?_;obtain⟨b1,o1,rfl,h1⟩:=hp.2 (by omega);obtain⟨b2,qJ,rfl,h2⟩:=hq.2 (by omega);have dX:p[k]?=some p[k]:=aD (by omega);have c6:q[k]?=some q[k]:=aD (by omega);obtain⟨c0,c1',Ux,ff⟩:=h1 k _ dX;obtain⟨cU,c2',Uy,e4⟩:=h2 k _ c6;have Jk:=Uu DO dX c6;refine RN 2 E I λa E=>?_;refine SS E (ae E (Ux)) λa E=>?_;refine RN 6 E I λa E=>?_;refine SS E (ae E (Uy)) λa E=>?_;refine CL 5 E I (Jj ff e4) λa w E hx=>?_;obtain rfl:=hx;refine IF 1 E (U.start _) (λay a E=>?_) λay a E=>?_
  ·
   have bD:¬ p[k]=q[k]:=by simpa using ay
   refine RT 2 E (U.start _) ?_;refine⟨?_,rfl⟩;have:(p==q)=false:=by
    rw[mc];intro e;exact bD (Jk.1 (by rw[e]))
   rw[this]
  have heq:p[k]=q[k]:=by simpa using ay
  refine RN 2 E (U.start _) λa E=>?_;exact⟨m-(k+1),by omega,k+1,⟨rfl,by omega,Jk.2 heq,rfl⟩,E.ab [1,2,15,16,17],U.start _⟩
 refine RT 2 E I ?_;obtain rfl:k=m:=by omega
 rw[gi (by omega),gi (by omega)]at DO;subst DO;exact⟨by rw[beq_self_eq_true],rfl⟩
def iM (w:World)(ad:Option Addr)(xs:List ee):Prop:=(0<xs.length→∃ b off,ad=some ⟨b,off,none⟩∧Rd w b off (xs.map aM))∧∀ x∈xs,aX w x.1 x.2.2.length x.2.2
theorem iM.bb (h:iM w ad xs):k6 w ad xs.length (xs.map (·.2.2)):=by
 refine⟨by simp,λh0=>?_⟩;obtain⟨b,off,h1,h2⟩:=h.1 h0;refine⟨b,off,h1,λj bs hj=>?_⟩;rw[bl]at hj;obtain⟨x,hx,rfl⟩:=rI.1 hj;exact⟨x.1,x.2.1,h2 j _ (by rw[bl,hx];rfl),h.2 x (bF hx)⟩
theorem U.mJ {m:Nat}(I:U W w (Sl 22 1 ad m c (xs.map aM)::ah ba xs::L)):iM w ad xs:=by
 have hm:xs.length=m:=by have:=(I.sl ad).1;simpa using this
 refine⟨λh0=>I.bU ad (by omega),λx hx=>?_⟩;obtain⟨i,hi,rfl⟩:=List.mem_iff_getElem.1 hx;have h4:=(I.perm (cZ _ _ _)).fy hi;have h5:U W w (Sl 5 1 xs[i].1 xs[i].2.2.length xs[i].2.1 (bc xs[i].2.2)::_):=h4;exact h5.cu xs[i].1 xs[i].2.2 rfl rfl
end
end
end Go.Proofs.YteoldcfapaiobaaGreat
