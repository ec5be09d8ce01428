/- Rows of structs: a list laid out flat, so many cells each. -/
import Derived.Test.YteoldcfapaiobaaGreatH00Sl
import Derived.Laws.RangeAny
import Derived.Laws.Strings
import Derived.Laws.MakeOwn
import Derived.KernelRfl
import Derived.Test.YteoldcfapaiobaaGreatProg
namespace Go.Proofs.YteoldcfapaiobaaGreat
open Tryz
open List (all_eq_true drop_zero take_succ_cons nil_append map_cons getElem?_cons_succ mem_range getElem?_toArray drop_eq_nil_of_le ext_getElem getElem_map cons_append eraseIdx_set_eq append_nil)
open Go.RowKit
set_option linter.unusedVariables false
set_option linter.unusedSimpArgs false
set_option maxRecDepth 10000
set_option synthInstance.maxSize 4000
set_option synthInstance.maxHeartbeats 400000
section
theorem Ru {x:Int}:decide (x≠x)=false:=by simp
def rows {α:Type}(f:α→List Value)(l:List α):List Value:=l.flatMap f
section
variable {α:Type}{f:α→List Value}{sz:Nat}
theorem oq (x:α)(l:List α):rows f (x::l)=f x++rows f l:=rfl
theorem kz (l m:List α):rows f (l++m)=rows f l++rows f m:=by simp[rows]
theorem An (h1:∀ x,∀ v∈f x,v.oneCell'=true)(l:List α):∀ v∈rows f l,v.oneCell'=true:=by
 intro v hv;simp only[rows,List.mem_flatMap]at hv;obtain⟨x,_,hx⟩:=hv;exact h1 x v hx
theorem iG (hf:∀ x,(f x).length=sz)(l:List α):(rows f l).length=l.length*sz:=by
 induction l with
 | nil=>simp[rows]
 | cons x l ih=>rw[oq,aN,hf,ih,fm,Nat.succ_mul,Nat.add_comm]
theorem IX (hf:∀ x,(f x).length=sz)(l:List α)(i:Nat):(rows f l).drop (i*sz)=rows f (l.drop i):=by
 induction i generalizing l with
 | zero=>simp
 | succ i ih =>
  cases l with
  | nil=>simp[rows]
  | cons x l=>rw[oq,Nat.succ_mul,Nat.add_comm,← kr,List.drop_left' (hf x),ih,List.drop_succ_cons]
theorem IY (hf:∀ x,(f x).length=sz)(l:List α)(i:Nat):(rows f l).take (i*sz)=rows f (l.take i):=by
 induction i generalizing l with
 | zero=>simp[rows]
 | succ i ih =>
  cases l with
  | nil=>simp[rows]
  | cons x l =>
   rw[oq,Nat.succ_mul,Nat.add_comm,ur,hf,fO (by rw[hf];omega),show sz+i*sz-sz=i*sz from by omega,ih,take_succ_cons,oq]
theorem vZ (hf:∀ x,(f x).length=sz)(l:List α)(i:Nat)(h:i<l.length):((rows f l).drop (i*sz)).take sz=f l[i]:=by
 rw[IX hf,kA h,oq,List.take_left' (hf _)]
theorem Ao (hf:∀ x,(f x).length=sz)(l:List α){i k:Nat}{v:Value}(h:i<l.length)(hv:(f l[i])[k]?=some v):(rows f l)[i*sz+k]?=some v:=by
 have hk:k<sz:=by rw[← hf l[i]];exact (aZ.1 hv).1
 have:=vZ hf l i h;rw[← this,rh,ak hk,pj]at hv;exact hv
theorem IZ (hf:∀ x,(f x).length=sz)(l:List α){i:Nat}(x:α)(h:i<l.length):cD (rows f l) (i*sz) (f x)=rows f (l.set i x):=by
 rw[ri,ak h,kz,oq,cD,IY hf,hf,show i*sz+sz=(i+1)*sz from by rw[Nat.succ_mul],IX hf,dA]
theorem qx (hf:∀ x,(f x).length=sz)(l:List α){i k:Nat}{v:Value}(x:α)(h:i<l.length)(hk:k<sz)(hx:(f l[i]).set k v=f x):(rows f l).set (i*sz+k) v=rows f (l.set i x):=by
 have h0:l=l.take i++l[i]::l.drop (i+1):=by rw[← kA h,jW]
 have v7:l.set i x=l.take i++x::l.drop (i+1):=by rw[ri,ak h]
 rw[v7,kz,oq]
 conv=>lhs;rw[h0,kz,oq]
 have hl:(rows f (l.take i)).length=i*sz:=by rw[iG hf];simp;rw[Nat.min_eq_left (by omega)]
 rw[vU _ _ (by omega),hl,show i*sz+k-i*sz=k from by omega,uu _ _ (by rw[hf];exact hk),hx]
theorem Rv (A B C vs:List Value)(k:Nat)(hk:k+vs.length≤B.length):cD (A++(B++C)) (A.length+k) vs=A++(cD B k vs++C):=by
 have e1:(A++(B++C)).take (A.length+k)=A++B.take k:=by
  rw[ur,fO (by omega),show A.length+k-A.length=k from by omega,List.take_append_of_le_length (by omega)]
 have e2:(A++(B++C)).drop (A.length+k+vs.length)=B.drop (k+vs.length)++C:=by
  rw[List.drop_append,drop_eq_nil_of_le (by omega),show A.length+k+vs.length-A.length=k+vs.length from by omega,List.drop_append_of_le_length (by omega),nil_append]
 rw[cD,e1,e2,cD];simp only[dA]
theorem Rw (hf:∀ x,(f x).length=sz)(l:List α){i k:Nat}{vs:List Value}(x:α)(h:i<l.length)(hk:k+vs.length≤sz)(hx:cD (f l[i]) k vs=f x):cD (rows f l) (i*sz+k) vs=rows f (l.set i x):=by
 have h0:rows f l=rows f (l.take i)++(f l[i]++rows f (l.drop (i+1))):=by
  rw[← oq,← kz,← kA h,jW]
 have v7:l.set i x=l.take i++x::l.drop (i+1):=by rw[ri,ak h]
 have hl:(rows f (l.take i)).length=i*sz:=by rw[iG hf];simp;rw[Nat.min_eq_left (by omega)]
 rw[v7,kz,oq,h0,← hl,Rv _ _ _ _ _ (by rw[hf];exact hk),hx]
theorem Rx (hf:∀ x,(f x).length=sz)(l:List α){i k m:Nat}(h:i<l.length)(hk:k+m≤sz):((rows f l).drop (i*sz+k)).take m=((f l[i]).drop k).take m:=by
 have:=vZ hf l i h;rw[← this,List.drop_take,List.take_take,kr,Nat.min_eq_left (by omega)]
end
def fn (m:Nat)(g:Nat→Value):List Value:=(List.range m).map g
theorem I0 (m:Nat)(g:Nat→Value):(fn m g).length=m:=by simp[fn]
theorem I1 {m k:Nat}(g:Nat→Value)(h:k<m):(fn m g)[k]?=some (g k):=by simp[fn,h]
theorem DJ {m:Nat}{g g':Nat→Value}(h:∀ k,k<m→g k=g' k):fn m g=fn m g':=by
 simp only[fn];exact List.map_congr_left λk hk=>h k (mem_range.1 hk)
theorem I2 {m k:Nat}(g:Nat→Value)(v:Value):(fn m g).set k v=fn m (λj=>if j=k then v else g j):=by
 apply ext_getElem (by simp[fn]);intro i h1 h2;simp only[fn,List.getElem_set,getElem_map,List.getElem_range];by_cases h:k=i
 ·simp[h]
 ·rw[ag h,ag (λe=>h e.symm)]
theorem Ry {m:Nat}{g:Nat→Value}(h:∀ k,(g k).oneCell'=true):∀ v∈fn m g,v.oneCell'=true:=by
 intro v hv;simp only[fn,cV]at hv;obtain⟨k,_,rfl⟩:=hv;exact h k
theorem Rz {m k n:Nat}(g:Nat→Value)(h:k+n≤m):((fn m g).drop k).take n=fn n (λj=>g (k+j)):=by
 apply ext_getElem (by simp[fn];omega);intro i h1 h2;simp[fn]
def ck (g:Nat→Int)(c:Nat)(v:Int):Nat→Int:=λj=>if j=c then v else g j
def ints (k:IntKind)(m:Nat)(g:Nat→Int):List Value:=fn m (λj=>.int k (g j))
theorem di (k:IntKind)(m:Nat)(g:Nat→Int):(ints k m g).length=m:=I0 _ _
theorem fX {k:IntKind}{m j:Nat}(g:Nat→Int)(h:j<m):(ints k m g)[j]?=some (.int k (g j)):=I1 _ h
theorem uy {k:IntKind}{m:Nat}{g:Nat→Int}:∀ v∈ints k m g,v.oneCell'=true:=Ry λ_=>rfl
theorem ints_set {k:IntKind}{m j:Nat}(g:Nat→Int)(v:Int):(ints k m g).set j (.int k v)=ints k m (λi=>if i=j then v else g i):=by
 rw[ints,I2];exact DJ λi _=>by by_cases h:i=j <;> simp[h]
theorem RA {k:IntKind}{m j n:Nat}(g:Nat→Int)(h:j+n≤m):((ints k m g).drop j).take n=ints k n (λi=>g (j+i)):=Rz _ h
theorem yd {k:IntKind}{m:Nat}{g g':Nat→Int}(h:∀ j,j<m→g j=g' j):ints k m g=ints k m g':=DJ λj hj=>by rw[h j hj]
class v8 (fV:List (List Value))(out:outParam (List Value)):Prop where h:fV.flatten=out
instance v8.nil:v8 [] []:=⟨rfl⟩
instance v8.one {x fV out}[k:v8 fV out]:v8 ([x]::fV) (x::out):=⟨by rw[List.flatten_cons,k.h];rfl⟩
instance my.ints {k m g}:my (ints k m g) m:=⟨di k m g⟩
section
variable {P:Program}{ops:Array Oper}{Q:Exit→Act→World→Prop}{a:Act}{w V W:World}{K:Act→World→Prop}{n d:Nat}{l:List (Nat×Value)}{v:Value}{L R:List SP}
theorem wa {x y k i j t u dst ty ps af g}(E:Fr a n l)(h:j≠0)(hi:k.wrap (i.tdiv j)=i.tdiv j)[e:Ev l x (.int k i)][f:Ev l y (.int k j)] :
   (execOp a.eval ⟨dst,.binOp .quo t x y u,ty,ps,af,g⟩).run P w=.ok (.value (.int k (i.tdiv j))) w:=by
 have:k.wrap (i.tdiv j)=i.tdiv j:=hi;simp[execOp,e.ev a n E,f.ev a n E,eqGuard,binOp,Op.intDiv,h,this]
theorem Ap {x y k i j t u dst ty ps af g}(E:Fr a n l)(h:j≠0)[e:Ev l x (.int k i)][f:Ev l y (.int k j)] :
   (execOp a.eval ⟨dst,.binOp .rem t x y u,ty,ps,af,g⟩).run P w=.ok (.value (.int k (i.tmod j))) w:=by
 simp[execOp,e.ev a n E,f.ev a n E,eqGuard,binOp,Op.intDiv,h]
theorem ru (i:Nat)(j:Nat):(i:Int).tdiv (j:Int)=((i/j:Nat):Int):=by rw[Int.natCast_ediv,Int.tdiv_eq_ediv_of_nonneg (by omega)]
theorem ot (i:Nat)(j:Nat):(i:Int).tmod (j:Int)=((i%j:Nat):Int):=by rw[Int.natCast_emod,Int.tmod_eq_emod_of_nonneg (by omega)]
theorem sP {x y k i j vs t el m et z a6 dst ty ps af g}(E:Fr a n l)(hu:P.underlying t=some (.array m el))(hd:P.underlying el=some et)(h1:og et=true)(hi:TI P el z 1 a6)
   [ev:Ev l x (.agg (List.toArray vs))] [gD:Ev l y (.int k i)] [nj:eA i j] (hlt:j<m) (hv:vs[j]?=some v) :
   (execOp a.eval ⟨dst,.index t x y,ty,ps,af,g⟩).run P w=.ok (.value v) w:=by
 have:=nj.h;subst this;have ye:(part el vs.toArray j).run P w=.ok v w:=by
  have DK:(isAgg el).run P w=.ok false w:=by
   simp only[isAgg,Sem.run_bind,eW hd,Result.andThen_ok];cases et <;> first | rfl | (simp[og]at h1)
  simp[part,DK,hv]
 simp[execOp,ev.ev a n E,gD.ev a n E,Instr.index,asIntOf,eW hu,mq hi,hlt,ye]
theorem RB {x b off m t el z sz a6 dst ty ps af g}(E:Fr a n l)[ev:Ev l x (.pointer (some ⟨b,off,none⟩))](ht:P.underlying t=some (.array m el))(hi:TI P el z sz a6) :
   (execOp a.eval ⟨dst,.slice t x none none none,ty,ps,af,g⟩).run P w=.ok (.value (.slice (some ⟨b,off,none⟩) m m)) w:=by
 simp[execOp,ev.ev a n E,Instr.sliceAt,Instr.sliceBounds,eW ht,mq hi,Instr.sureAddr,jU]
theorem gr {x k k' i s t dst ty ps af g}(E:Fr a n l)(I:P.underlying s=some (.int k))(ht:P.underlying t=some (.int k'))[ev:Ev l x (.int k i)] :
   (execOp a.eval ⟨dst,.convert s t x,ty,ps,af,g⟩).run P w=.ok (.value (.int k' (k'.wrap i))) w:=by
 simp[execOp,ev.ev a n E,convert,eW I,eW ht,Conv.intToInt]
theorem pw {x k k' i s t dst ty ps af g}(E:Fr a n l)(I:P.underlying s=some (.int k))(ht:P.underlying t=some (.int k'))(hw:k'.wrap i=i)[ev:Ev l x (.int k i)] :
   (execOp a.eval ⟨dst,.convert s t x,ty,ps,af,g⟩).run P w=.ok (.value (.int k' i)) w:=by
 rw[gr E I ht,hw]
theorem DL {t el m z zs sz a6 RC Aq be parts fV out dst ty ps af g}(E:Fr a n l)(hu:P.underlying t=some (.array m el))(hi:TI P t z sz a6)[Dz:Cells z zs](he:TI P el RC Aq be)
   [sL:uq l parts 0 fV] (hc:(fV.all λc=>c.length==Aq)=true) (hz:zs.length=fV.length*Aq) [iX:v8 fV out] :
   (execOp a.eval ⟨dst,.build t (List.toArray parts),ty,ps,af,g⟩).run P w=.ok (.value (.agg out.toArray)) w:=by
 obtain⟨vs,e1,e2⟩:=sL.h a n E;have hf:=Dx (sz:=Aq) fV vs 0 [] zs e2 (λc x7=>by simpa using all_eq_true.1 hc c x7) (by simp) hz;simp only[nil_append]at hf;rw[iX.h]at hf;simp only[execOp,Sem.run_bind,Instr.build,uk hi,Result.andThen_ok,eW hu,mq he,Dz.h,List.map_toArray,e1];simp[hf]
theorem RD {x y b off m t el z sz a6 k i j dst ty ps af g}(E:Fr a n l)[ev:Ev l x (.pointer (some ⟨b,off,none⟩))](ht:P.underlying t=some (.array m el))(hi:TI P el z sz a6)[gD:Ev l y (.int k i)][nj:eA i j](h:j<m) :
   (execOp a.eval ⟨dst,.slice t x (some y) none none,ty,ps,af,g⟩).run P w=.ok (.value (.slice (some ⟨b,off+j*sz,none⟩) (m-j) (m-j))) w:=by
 have:=nj.h;subst this;have h2:¬ (m=j):=by omega
 simp[execOp,ev.ev a n E,gD.ev a n E,Instr.sliceAt,Instr.sliceBounds,Instr.sliceBound,asIntOf,eW ht,mq hi,Instr.sureAddr,jU,Nat.le_of_lt h,h2]
theorem RE {x y t t2 el z sz a6 b off m c b2 gN Ar c2 k vs e cs ty ps af g}(E:Fr a n l)(hw:Region.wanted ⟨some d,.call ⟨.builtin .copy,#[x,y],#[t,t2]⟩,ty,ps,af,g⟩ (yielded ops a.tmps)=true)(I:U W w L)
   (ht:P.underlying t=some (.slice el)) (hi:TI P el z sz a6) (hf:okB d n l=true) [ev:Ev l x (.slice (some ⟨b,off,none⟩) m c)] [gD:Ev l y (.slice (some ⟨b2,gN,none⟩) Ar c2)] [DE:fM L b e cs R]
   (hk:min Ar m=k) (hr:Rd w b2 gN vs) (hl:vs.length=k*sz) (h1:∀ v∈vs,v.oneCell'=true) (hle:off+vs.length≤cs.length)
   (h:∀ a' V,Fr a' n ((d,.int .i64 k)::l)→U W V (aa b e (cD cs off vs)::R)→K a' V):cH P ops Q ⟨some d,.call ⟨.builtin .copy,#[x,y],#[t,t2]⟩,ty,ps,af,g⟩ K a w:=by
 obtain⟨i,lB,dN,kW,mw⟩:=info_parts hi.h;have gW:=I.jV b;have oh:∀ j v,vs[j]?=some v→w.cell? ((⟨b2,gN,none⟩:Addr).add j)=some v:=λj v hj=>by rw[jU];exact hr j v hj
 have ju:=run_firstCells_some (P:=P) w sz k ⟨b2,gN,none⟩ Ar c2 vs hl oh;have aT:=run_storeCells_at (P:=P) b off e vs 0 cs.toArray w gW.has.2 (by simpa using hle) h1;have rk:(storeCells ⟨b,off,none⟩ vs).run P w=.ok () (w.setRow b (cD cs off vs).toArray):=by simpa [cD] using aT
 refine bu (v:=.int .i64 k) (V:=w.setRow b (cD cs off vs).toArray) E hw ?_ hf (λa' de=>h a' _ de gW.setRow);simp[execOp,resolve,ev.ev a n E,gD.ev a n E,invoke,builtin,Builtin.copy_,eW ht,sizeOf,typeInfo,lB,kW,Builtin.lenOf,hk,ju,rk,goInt]
end
def ah {α:Type}(f:α→SP)(l:List α):SP:=λh=>cp (l.map f) h
section
variable {α:Type}{f:α→SP}{W w:World}{L:List SP}
theorem sQ {β:Type}(l:List β){i:Nat}(h:i<l.length):l.Perm (l[i]::l.eraseIdx i):=by
 conv=>lhs;rw[← jW i l,kA h]
 rw[sR];exact nH
theorem U.iZ (I:U W w L):U W w (ah f []::L) :=
 ⟨I.below,let ⟨h,p,q⟩:=I.sat;⟨h,p,λ_=>none,h,λ_=>.inl rfl,λ_ _ e=>(by cases e),Hp.Sub.refl _,trivial,q⟩⟩
theorem U.fo {l:List α}(I:U W w (ah f l::L)){i:Nat}(h:i<l.length):U W w (f l[i]::ah f (l.eraseIdx i)::L):=by
 have h1:=I.open (M:=l.map f) (λ_ x=>x);have hp:=((sQ l h).map f).append_right L;have h2:=h1.perm hp;simp only[map_cons,cons_append]at h2;refine U.perm (L:=ah f (l.eraseIdx i)::f l[i]::L) ?_ (cW _ _ _);exact U.shut (M:=(l.eraseIdx i).map f) (h2.perm nH.symm) (λ_ x=>x)
theorem U.we {l:List α}{x:α}(I:U W w (f x::ah f l::L)):U W w (ah f (x::l)::L):=by
 have h1:=(I.perm (cW _ _ _)).open (M:=l.map f) (λ_ x=>x);exact U.shut (M:=(x::l).map f) (h1.perm nH) (λ_ x=>x)
theorem U.I3 {l l':List α}(I:U W w (ah f l::L))(hp:l.Perm l'):U W w (ah f l'::L):=by
 have h1:=I.open (M:=l.map f) (λ_ x=>x);exact U.shut (M:=l'.map f) (h1.perm ((hp.map f).append_right L)) (λ_ x=>x)
theorem U.kY {l:List α}{x:α}{i:Nat}(h:i<l.length)(I:U W w (f x::ah f (l.eraseIdx i)::L)):U W w (ah f (l.set i x)::L):=by
 refine I.we.I3 ?_;have hi:i<(l.set i x).length:=by simpa using h
 have:=sQ (l.set i x) hi;rw[ou,eraseIdx_set_eq]at this;exact this.symm
theorem U.jY {l:List α}{x:α}(I:U W w (f x::ah f l::L)):U W w (ah f (l++[x])::L) :=
 I.we.I3 (List.perm_append_comm (l₁:=[x]))
end
end
section
def py (s:ByteArray)(pos:Nat):List Value:=if pos<s.size then [.bool true,.int .i64 pos,.int .i32 (Utf8.decode s pos).1] else [.bool false]
def ee (s:ByteArray)(pos:Nat):Nat:=if pos<s.size then pos+(Utf8.decode s pos).2 else pos
theorem DM (s:ByteArray)(pos:Nat):(py s pos)[0]?=some (.bool (decide (pos<s.size))):=by
 by_cases h:pos<s.size <;> simp[py,h]
theorem RF {s:ByteArray}{pos:Nat}(h:pos<s.size):(py s pos)[1]?=some (.int .i64 pos):=by simp[py,h]
theorem DO {s:ByteArray}{pos:Nat}(h:pos<s.size):(py s pos)[2]?=some (.int .i32 (Utf8.decode s pos).1):=by simp[py,h]
section
variable {P:Program}{ops:Array Oper}{Q:Exit→Act→World→Prop}{a:Act}{w V W:World}{K:Act→World→Prop}{o:Oper}{n d:Nat}{l:List (Nat×Value)}{v:Value}{L R:List SP}
theorem DP {t x s ty ps af g}(E:Fr a n l)(hw:Region.wanted ⟨some d,.range t x,ty,ps,af,g⟩ (yielded ops a.tmps)=true)(I:U W w L)(ht:P.underlying t=some .string)[ev:Ev l x (.string s)]
   (hf:okB d n l=true) (h:∀ b a' V,Fr a' n ((d,.pointer (some ⟨b,0,none⟩))::l)→U W V (kV b (.stringIter s 0)::L)→Old w V→K a' V):cH P ops Q ⟨some d,.range t x,ty,ps,af,g⟩ K a w:=by
 refine bu (v:=.pointer (some ⟨w.heap.size,0,none⟩)) (V:=w.alloc (.stringIter s 0)) E hw ?_ hf (λa' de=>h _ _ _ de (I.alloc _) (Old.alloc _ _));have:=run_range_string (P:=P) w t s ht;simp[execOp,ev.ev a n E,this,World.iter]
class DQ (L:List SP)(b:Nat)(o:outParam Obj)(R:outParam (List SP)):Prop where perm:L.Perm (kV b o::R)
instance DQ.head {L b o}:DQ (kV b o::L) b o L:=⟨lA _⟩
theorem DR {x s pos b ty ps af g}(E:Fr a n l)(hw:Region.wanted ⟨some d,.next x true,ty,ps,af,g⟩ (yielded ops a.tmps)=true)(I:U W w L)[ev:Ev l x (.pointer (some ⟨b,0,none⟩))][k:DQ L b (.stringIter s pos) R]
   (hf:okB d n l=true) (h:∀ a' V,Fr a' n ((d,.tuple (List.toArray (py s pos)))::l)→U W V (kV b (.stringIter s (ee s pos))::R)→K a' V):cH P ops Q ⟨some d,.next x true,ty,ps,af,g⟩ K a w:=by
 have js:=I.perm k.perm;have hb:=js.has.2;by_cases hp:pos<s.size
 ·have cI:=js.ck (o':=.stringIter s (ee s pos)) (V:={ w with heap:=w.heap.setIfInBounds b (.stringIter s (ee s pos)) }) rfl rfl rfl rfl;refine bu (v:=.tuple (List.toArray (py s pos))) (V:={ w with heap:=w.heap.setIfInBounds b (.stringIter s (ee s pos)) }) E hw ?_ hf (λa' de=>h a' _ de cI);simp[execOp,ev.ev a n E,Instr.next,getObj,setObj,Sem.run,hb,hp,goInt,py,ee,Sem.run_bind]
 ·have e:ee s pos=pos:=by simp[ee,hp]
  refine bu (v:=.tuple (List.toArray (py s pos))) (V:=w) E hw ?_ hf (λa' de=>h a' _ de (by rw[e];exact js));simp[execOp,ev.ev a n E,Instr.next,getObj,Sem.run,hb,hp,py,Sem.run_bind]
theorem RG {x s t dst ty ps af g}(E:Fr a n l)[ev:Ev l x (.string s)](hu:P.underlying t=some .string) :
   (execOp a.eval ⟨dst,.call ⟨.builtin .len,#[x],#[t]⟩,ty,ps,af,g⟩).run P w=.ok (.value (.int .i64 s.size)) w:=by
 simp[execOp,resolve,ev.ev a n E,invoke,builtin,Builtin.len_,eW hu,goInt]
theorem As {x y s k i j t dst ty ps af g}(E:Fr a n l)(hu:P.underlying t=some .string)[ev:Ev l x (.string s)][gD:Ev l y (.int k i)][nj:eA i j](h:j<s.size) :
   (execOp a.eval ⟨dst,.index t x y,ty,ps,af,g⟩).run P w=.ok (.value (.int .u8 (s[j]'h).toNat)) w:=by
 have:=nj.h;subst this;have h2:=run_index_string (P:=P) w t s k (j:Int) hu;have h3:0≤(j:Int)∧(j:Int)<s.size:=by omega
 rw[dif_pos h3]at h2;simp[execOp,ev.ev a n E,gD.ev a n E,h2]
theorem RJ {x y s k i j t dst ty ps af g}(E:Fr a n l)(hu:P.underlying t=some .string)[ev:Ev l x (.string s)][gD:Ev l y (.int k i)][nj:eA i j](h:j≤s.size) :
   (execOp a.eval ⟨dst,.slice t x none (some y) none,ty,ps,af,g⟩).run P w=.ok (.value (.string (s.extract 0 j))) w:=by
 have:=nj.h;subst this;have h2:=run_slice_string_h (P:=P) w t s hu k (j:Int) (by omega) (by omega);simp only[c3]at h2;simp[execOp,ev.ev a n E,gD.ev a n E,run_sliceAt_string (P:=P) (w:=w) t _ _ _ _ hu,h2]
theorem DS {x y s k i j t dst ty ps af g}(E:Fr a n l)(hu:P.underlying t=some .string)[ev:Ev l x (.string s)][gD:Ev l y (.int k i)][nj:eA i j](h:j≤s.size) :
   (execOp a.eval ⟨dst,.slice t x (some y) none none,ty,ps,af,g⟩).run P w=.ok (.value (.string (s.extract j s.size))) w:=by
 have:=nj.h;subst this;have h2:=run_slice_string_l (P:=P) w t s hu k (j:Int) (by omega) (by omega);simp only[c3]at h2;simp[execOp,ev.ev a n E,gD.ev a n E,run_sliceAt_string (P:=P) (w:=w) t _ _ _ _ hu,h2]
theorem I4 {x y k i k' j jn t u dst ty ps af g}(E:Fr a n l)[e:Ev l x (.int k i)][f:Ev l y (.int k' j)][nj:eA j jn](h:jn≤k.bits) :
   (execOp a.eval ⟨dst,.binOp .shl t x y u,ty,ps,af,g⟩).run P w=.ok (.value (.int k (k.wrap (i*2 ^ jn)))) w:=by
 have:=nj.h;subst this;have h2:min jn k.bits=jn:=Nat.min_eq_left h;have h3:¬ ((jn:Int)<0):=by omega
 simp[execOp,e.ev a n E,f.ev a n E,eqGuard,binOp,Op.shift,h2,h3]
theorem RK {x y k i k' j jn t u dst ty ps af g}(E:Fr a n l)[e:Ev l x (.int k i)][f:Ev l y (.int k' j)][nj:eA j jn](h:jn≤k.bits) :
   (execOp a.eval ⟨dst,.binOp .shr t x y u,ty,ps,af,g⟩).run P w=.ok (.value (.int k (i.fdiv (2 ^ jn)))) w:=by
 have:=nj.h;subst this;have h2:min jn k.bits=jn:=Nat.min_eq_left h;have h3:¬ ((jn:Int)<0):=by omega
 simp[execOp,e.ev a n E,f.ev a n E,eqGuard,binOp,Op.shift,h2,h3]
theorem RL {x y k i j t u dst ty ps af g}(E:Fr a n l)[e:Ev l x (.int k i)][f:Ev l y (.int k j)] :
   (execOp a.eval ⟨dst,.binOp .or t x y u,ty,ps,af,g⟩).run P w=.ok (.value (.int k (k.wrap ((BitVec.ofInt k.bits i ||| BitVec.ofInt k.bits j).toNat)))) w:=by
 simp[execOp,e.ev a n E,f.ev a n E,eqGuard,binOp,Op.intBits]
theorem RM {x y k i j t u dst ty ps af g}(E:Fr a n l)[e:Ev l x (.int k i)][f:Ev l y (.int k j)] :
   (execOp a.eval ⟨dst,.binOp .and t x y u,ty,ps,af,g⟩).run P w=.ok (.value (.int k (k.wrap ((BitVec.ofInt k.bits i &&& BitVec.ofInt k.bits j).toNat)))) w:=by
 simp[execOp,e.ev a n E,f.ev a n E,eqGuard,binOp,Op.intBits]
theorem RO {x y k i j t u dst ty ps af g}(E:Fr a n l)[e:Ev l x (.int k i)][f:Ev l y (.int k j)] :
   (execOp a.eval ⟨dst,.binOp .xor t x y u,ty,ps,af,g⟩).run P w=.ok (.value (.int k (k.wrap ((BitVec.ofInt k.bits i ^^^ BitVec.ofInt k.bits j).toNat)))) w:=by
 simp[execOp,e.ev a n E,f.ev a n E,eqGuard,binOp,Op.intBits]
theorem RP {x k i t dst ty ps af g}(E:Fr a n l)[e:Ev l x (.int k i)] :
   (execOp a.eval ⟨dst,.unOp .xor t x,ty,ps,af,g⟩).run P w=.ok (.value (.int k (k.wrap ((BitVec.ofInt k.bits (if k.signed then -1 else k.max) ^^^ BitVec.ofInt k.bits i).toNat)))) w:=by
 simp[execOp,e.ev a n E,Op.unary,Op.intBits]
theorem RQ {x k i t dst ty ps af g}(E:Fr a n l)[e:Ev l x (.int k i)] :
   (execOp a.eval ⟨dst,.unOp .neg t x,ty,ps,af,g⟩).run P w=.ok (.value (.int k (k.wrap (0-i)))) w:=by
 simp[execOp,e.ev a n E,Op.unary,Op.intArith]
theorem I5 {x y k i j t u dst ty ps af g}(E:Fr a n l)(h:j≠0)[e:Ev l x (.int k i)][f:Ev l y (.int k j)] :
   (execOp a.eval ⟨dst,.binOp .quo t x y u,ty,ps,af,g⟩).run P w=.ok (.value (.int k (k.wrap (i.tdiv j)))) w:=by
 simp[execOp,e.ev a n E,f.ev a n E,eqGuard,binOp,Op.intDiv,h]
theorem RS {t t':TypeId} {ms}(ht:P.underlying t=some (.interface ms))(v:Value)(k:Nat):(Op.equalIn (k+1) t (.iface t' v) .nilIface).run P w=.ok false w:=by
 simp[Op.equalIn,eW ht]
theorem RU {x t v t' ms u dst ty ps af g}(E:Fr a n l)(ht:P.underlying t=some (.interface ms))[e:Ev l x (.iface t' v)] :
   (execOp a.eval ⟨dst,.binOp .eql t x (.const .nilIface) u,ty,ps,af,g⟩).run P w=.ok (.value (.bool false)) w:=by
 have hc:a.eval (.const .nilIface)=.nilIface:=rfl;have h2:(Op.equal t (.iface t' v) .nilIface).run P w=.ok false w:=RS ht v 9999;simp only[execOp,e.ev a n E,hc,Sem.run_bind];simp[eqGuard,binOp,h2]
theorem RV {x t et dst ty ps af g}(E:Fr a n l)(ht:P.underlying t=some et)(hd:(match et with | .interface _=>false | _=>true)=true)[e:Ev l x v] :
   (execOp a.eval ⟨dst,.makeInterface t x,ty,ps,af,g⟩).run P w=.ok (.value (.iface t v)) w:=by
 cases et <;> first | (simp at hd) | skip
 all_goals simp[execOp,e.ev a n E,Instr.makeInterface,eW ht]
def pz (P:Program)(t:TypeId)(name:String)(f:FuncId):Prop:=∀ (ad:Option Addr) (w:World),(method (P.types.size+Made.depth) t (.pointer ad) name).run P w=.ok (f,.pointer ad) w
theorem jN {x t ad name f args pA ty ps af g vs all}{X:Ending→World→Prop}(E:Fr a n l)(hw:Region.wanted ⟨some d,.call ⟨.invoke x name,List.toArray args,pA⟩,ty,ps,af,g⟩ (yielded ops a.tmps)=true)
   [ex:Ev l x (.iface t (.pointer ad))] (hm:pz P t name f) (hb:hE P f=true) (hf:okB d n l=true) [ev:nG l args vs] (hc:Calls P f (List.toArray all) w X) (hX:.pointer ad::vs=all)
   (h:∀ e V,X e V→∃ v,e=.returned v∧∀ a',Fr a' n ((d,v)::l)→K a' V) :
   cH P ops Q ⟨some d,.call ⟨.invoke x name,List.toArray args,pA⟩,ty,ps,af,g⟩ K a w:=by
 subst hX;refine Ir hw ?_ hc λe V hx=>let ⟨v,he,hv⟩:=h e V hx;⟨v,he,hv _ (E.put hf v)⟩;have h3:=hm ad w;simp[execOp,resolve,ex.ev a n E,invoke,callMethod,ev.ev a n E,h3,Aj hb,program,Sem.run]
end
end
section
section
variable {P:Program}{a:Act}{w:World}{n:Nat}{l:List (Nat×Value)}{v:Value}
theorem I6 {x vs t f fs iX et dst ty ps af g}(E:Fr a n l)(hu:P.underlying t=some (.struct fs))(hf:fs[f]?=some iX)(hd:P.underlying iX.type=some et)(h1:og et=true)
   [ev:Ev l x (.agg (List.toArray vs))] (hv:vs[iX.offset]?=some v) :
   (execOp a.eval ⟨dst,.field t x f,ty,ps,af,g⟩).run P w=.ok (.value v) w:=by
 have ye:(part iX.type vs.toArray iX.offset).run P w=.ok v w:=by
  have DK:(isAgg iX.type).run P w=.ok false w:=by
   simp only[isAgg,Sem.run_bind,eW hd,Result.andThen_ok];cases et <;> first | rfl | (simp[og]at h1)
  simp[part,DK,hv]
 simp[execOp,ev.ev a n E,Instr.field,eW hu,hf,asAgg,ye]
end
end
section
section
variable {P:Program}{a:Act}{w W:World}{n:Nat}{l:List (Nat×Value)}{L R:List SP}
theorem DT {x u z3 k' x8 i' x9 j' nN ad m c t el z sz a6 dst ty ps af g}(E:Fr a n l)(ht:P.underlying t=some (.slice el))(hi:TI P el z sz a6)[ev:Ev l x (.slice ad m c)][uo:Ev l u (.int k' i')][DA:Ev l z3 (.int x8 x9)]
   [x6:eA i' j'] [DB:eA x9 nN] (h':j'≤nN) (Rg:nN≤c) :
   (execOp a.eval ⟨dst,.slice t x none (some u) (some z3),ty,ps,af,g⟩).run P w=.ok (.value (.slice (e6 ad 0 nN sz) j' nN)) w:=by
 have lC:=x6.h;subst lC;have DD:=DB.h;subst DD;have e1:=(qq ht).1;have e2:=(qq ht).2;have:=run_slice_hm (P:=P) (w:=w) t ad m c e1 k' x8 (j':Int) (nN:Int) (by omega) (by omega) (by omega);rw[e2,mq hi]at this;simp only[Result.andThen_ok,c3]at this;simp[execOp,ev.ev a n E,uo.ev a n E,DA.ev a n E,run_sliceAt_slice (P:=P) (w:=w) t _ _ _ _ e1,this,sliced,e6]
theorem U.I7 {e sz k c:Nat}{cs:List Value}(I:U W w L)(ad:Option Addr)(m:Nat)[pk:fk L ad k c e sz cs R](hm:m≤k):U W w (Sl e sz (e6 ad 0 m sz) m m (cs.take (m*sz))::R):=by
 have h1:=I.perm pk.perm;rcases lD m with h0 | h0
 ·subst h0;simpa using h1.tail.bR e sz (e6 ad 0 0 sz)
 ·have hc:=(I.sl ad);obtain⟨b,pre,post,⟨g1,jZ,nO,ov⟩,h2⟩:=h1.lZ (by omega);subst nO;rw[po (by omega),Nat.zero_mul,Nat.add_zero];have mA:m*sz≤cs.length:=by rw[g1];exact nJ _ hm
  rw[show pre++cs++post=pre++cs.take (m*sz)++(cs.drop (m*sz)++post) from by
   conv=>lhs;rw[← jW (m*sz) cs]
   simp only[dA]]at h2
  exact U.iY h2 (by rw[dH];omega) (bh _) (by simp)
end
end
section
section
variable {P:Program}{ops:Array Oper}{Q:Exit→Act→World→Prop}{a:Act}{w V W:World}{K:Act→World→Prop}{n d:Nat}{l:List (Nat×Value)}{L:List SP}
theorem rv {t el z sz a6 x y k k' i j ty ps af g}(E:Fr a n l)(hw:Region.wanted ⟨some d,.makeSlice t x y,ty,ps,af,g⟩ (yielded ops a.tmps)=true)(I:U W w L)(ht:P.underlying t=some (.slice el))
   (hi:TI P el z sz a6) (hf:okB d n l=true) (hb:a6*j≤281474976710656) (hj:j≤9223372036854775807) [e:Ev l x (.int k i)] [e2:Ev l y (.int k' i)] [nj:eA i j]
   (h:∀ b a' V,Fr a' n ((d,.slice (some ⟨b,0,none⟩) j j)::l)→U W V (aa b el (madeCells z.cells (j*sz)).toList::L)→Old w V→K a' V) :
   cH P ops Q ⟨some d,.makeSlice t x y,ty,ps,af,g⟩ K a w:=by
 have RW:=nj.h;subst RW;obtain⟨I8,lB,dN,kW,mw⟩:=info_parts hi.h;have RX:(I8.bytes:Int)*(j:Int)≤281474976710656:=by
  rw[mw];have:((a6*j:Nat):Int)≤281474976710656:=by omega
  rwa [Int.natCast_mul]at this
 have hr:=run_make (P:=P) w t el I8 z ht lB dN k k' (j:Int) (j:Int) (by omega) (Int.le_refl _) RX (by omega);rw[c3,kW]at hr;refine bu (v:=.slice (some ⟨w.heap.size,0,none⟩) j j) (V:=w.alloc (.cells (madeCells z.cells (j*sz)) el)) E hw ?_ hf (λa' de=>h _ _ _ de (by
  have:=I.alloc (.cells (madeCells z.cells (j*sz)) el);simpa [aa] using this) (Old.alloc _ _))
 simp[execOp,e.ev a n E,e2.ev a n E,hr]
end
end
section
class uz (os:List Oper)(j:Nat)(s:outParam Nat):Prop where h:(os[j]?).bind (·.dst)=some s
instance uz.zero {s op ty ps af g r}:uz (⟨some s,op,ty,ps,af,g⟩::r) 0 s:=⟨rfl⟩
instance uz.succ {o r j s}[h:uz r j s]:uz (o::r) (j+1) s:=⟨by rw[getElem?_cons_succ];exact h.h⟩
class ow (os:List Oper)(j:Nat)(o:outParam Oper):Prop where h:os[j]?=some o
instance ow.zero {o r}:ow (o::r) 0 o:=⟨rfl⟩
instance ow.succ {x r j o}[h:ow r j o]:ow (x::r) (j+1) o:=⟨by rw[getElem?_cons_succ];exact h.h⟩
class GB (v:Value)(b:Bool)(r:outParam Bool):Prop where h:((match v with | .bool c=>Option.some c | _=>none)==Option.some b)=r
instance GB.aeI:GB (.bool true) true true:=⟨rfl⟩
instance GB.aeJ:GB (.bool true) false false:=⟨rfl⟩
instance GB.aeK:GB (.bool false) true false:=⟨rfl⟩
instance GB.aeL:GB (.bool false) false true:=⟨rfl⟩
instance GB.u {b}:GB undef b false:=⟨rfl⟩
class Gd (os:List Oper)(l:List (Nat×Value))(g:Option (Nat×Bool))(r:outParam Bool):Prop where
 h:∀ {a n},Fr a n l→∀ {dst op ty ps af},Region.wanted ⟨dst,op,ty,ps,af,g⟩ (yielded os.toArray a.tmps)=r
instance Gd.none {os l}:Gd os l none true:=⟨λ_=>rfl⟩
instance Gd.some {os l j b s v r}[d:uz os j s][k:fx l s v][x:GB v b r]:Gd os l (some (j,b)) r:=⟨λ{a n} E dst op ty ps af=>by
 have h1:=E.has _ k.mem;have h2:(os.toArray[j]?).bind (·.dst)=Option.some s:=by rw[getElem?_toArray];exact d.h
 rw[← x.h];simp only[Region.wanted,yielded,h2,Option.bind_some,h1];cases v <;> rfl⟩
class ry (p q:Prop)(r:outParam Prop):Prop where h:r→p∧q
instance ry.l {q}:ry True q q:=⟨λh=>⟨trivial,h⟩⟩
instance ry.r {p}:ry p True p:=⟨λh=>⟨h,trivial⟩⟩
instance (priority:=low) ry.b {p q}:ry p q (p∧q):=⟨id⟩
class sS (cs:List Value)(i:Nat)(v:outParam Value):Prop where h:cs[i]?=some v
instance sS.zero {v cs}:sS (v::cs) 0 v:=⟨rfl⟩
instance sS.succ {c cs i v}[h:sS cs i v]:sS (c::cs) (i+1) v:=⟨by rw[getElem?_cons_succ];exact h.h⟩
instance sS.apZ {v xs ys}:sS ((v::xs)++ys) 0 v:=⟨rfl⟩
class m4 (o j sz:Nat)(r:outParam Nat):Prop where h:o+j*sz=r
instance (priority:=10) m4.any {o j sz}:m4 o j sz (o+j*sz):=⟨rfl⟩
instance (priority:=20) m4.one {o j}:m4 o j 1 (o+j):=⟨by rw[fD]⟩
instance (priority:=25) m4.at0 {o sz}:m4 o 0 sz (o+0):=⟨by rw[Nat.zero_mul]⟩
instance (priority:=50) m4.aeM {sz}:m4 0 0 sz 0:=⟨by rw[Nat.zero_mul]⟩
instance (priority:=30) m4.zero {j sz}:m4 0 j sz (j*sz):=⟨ep _⟩
instance (priority:=40) m4.both {j}:m4 0 j 1 j:=⟨by omega⟩
class aI (P:Program)(t:TypeId)(d:outParam TypeDesc):Prop where h:P.underlying t=some d
theorem aI.of {P:Program}{t:TypeId}{d:TypeDesc}(h:P.underlying t=some d):aI P t d:=⟨h⟩
class m5 (d:TypeDesc)(r:outParam Bool):Prop where h:og d=r
instance Ex.aeN {P:Program} {l x v1 v2 v3} [Ev l x (.tuple #[v1,v2,v3])]:Ex P l (.extract x 0) v1:=⟨λ_ _ E _ _ _ _ _ _=>om E rfl⟩
instance Ex.aeO {P:Program} {l x v1 v2 v3} [Ev l x (.tuple #[v1,v2,v3])]:Ex P l (.extract x 1) v2:=⟨λ_ _ E _ _ _ _ _ _=>om E rfl⟩
instance Ex.aeP {P:Program} {l x v1 v2 v3} [Ev l x (.tuple #[v1,v2,v3])]:Ex P l (.extract x 2) v3:=⟨λ_ _ E _ _ _ _ _ _=>om E rfl⟩
instance:m5 .bool true:=⟨rfl⟩
instance:m5 .string true:=⟨rfl⟩
instance {k}:m5 (.int k) true:=⟨rfl⟩
instance {t}:m5 (.pointer t) true:=⟨rfl⟩
instance {t}:m5 (.slice t) true:=⟨rfl⟩
instance {t u}:m5 (.map t u) true:=⟨rfl⟩
instance {p r b}:m5 (.func p r b) true:=⟨rfl⟩
instance {m}:m5 (.interface m) true:=⟨rfl⟩
instance {f}:m5 (.struct f) false:=⟨rfl⟩
instance {m t}:m5 (.array m t) false:=⟨rfl⟩
class DU (d:TypeDesc):Prop where h:(match d with | .interface _=>false | _=>true)=true
instance {t}:DU (.pointer t):=⟨rfl⟩
instance {f}:DU (.struct f):=⟨rfl⟩
class I9 (m:Nat)(k:outParam Nat):Prop where h:m=k+1
instance {k}:I9 (k+1) k:=⟨rfl⟩
class wg (fs:List Field)(f:Nat)(t k:outParam Nat):Prop where h:∃ iX,fs[f]?=some iX∧iX.type=t∧iX.offset=k
instance wg.zero {RY t k e RZ pp kZ r}:wg (⟨RY,t,k,e,RZ,pp,kZ⟩::r) 0 t k:=⟨_,rfl,rfl,rfl⟩
instance wg.succ {x r f t k}[h:wg r f t k]:wg (x::r) (f+1) t k:=⟨by rw[getElem?_cons_succ];exact h.h⟩
section
variable {P:Program}{t u el k sz a6 f:Nat}{d:TypeDesc}{z:Value}{fs:List Field}
instance [h:aI P t (.pointer el)]:yb P t:=⟨_,h.h⟩
instance [h:aI P t (.slice el)]:DG P t:=⟨_,h.h⟩
instance [h:aI P t d][g:m5 d true]:DH P t:=⟨_,h.h,g.h⟩
instance {m:Nat}[h:aI P t (.struct fs.toArray)][g:wg fs f u k][hi:TI P u z m a6][q:I9 m sz]:DI P t f k:=by
 obtain⟨iX,h1,h2,h3⟩:=g.h;rw[q.h]at hi;exact⟨_,iX,z,sz,a6,h.h,by rw[getElem?_toArray];exact h1,by rw[h2];exact hi,h3⟩
end
def Lk (L:List SP)(w:World):Prop:=∃ W w0,U W w0 L∧Old w0 w
theorem Lk.of {W w:World}{L:List SP}(I:U W w L):Lk L w:=⟨W,w,I,Old.refl _⟩
theorem Lk.nil (w:World):Lk [] w:=⟨w,w,U.start _,Old.refl _⟩
theorem Lk.bz {w:World}{L R:List SP}{b e off:Nat}{cs:List Value}{v:Value}(h:Lk L w)[k:fM L b e cs R](hv:cs[off]?=some v):w.cell? ⟨b,off,none⟩=some v:=by
 obtain⟨W,w0,I,ho⟩:=h;exact ho.cell (I.bz hv)
theorem Lk.qm {w:World}{L R:List SP}{b e off:Nat}{cs:List Value}(h:Lk L w)[k:fM L b e cs R](m:Nat){vs:List Value}[sc:mo cs off m vs]:Rd w b off vs:=by
 obtain⟨W,w0,I,ho⟩:=h;exact ho.rd (I.qm m)
instance mo.whole {cs m}[h:my cs m]:mo cs 0 m cs:=⟨by rw[drop_zero,← h.h,k0]⟩
class uA (ad:Option Addr)(r:outParam Bool):Prop where h:ad.isNone=r
instance uA.n:uA none true:=⟨rfl⟩
instance uA.s {a}:uA (some a) false:=⟨rfl⟩
instance (priority:=low) uA.any {ad}:uA ad ad.isNone:=⟨rfl⟩
theorem Ja {P:Program}{a:Act}{w:World}{n:Nat}{l:List (Nat×Value)}{fn:Func} {t u x v v2 v3}{X:Ending→World→Prop}(E:Fr a n l)(hr:fn.results=#[.tmp t,.tmp u,.tmp x])[k:fx l t v][k2:fx l u v2][k3:fx l x v3](h:X (.returned (.tuple #[v,v2,v3])) w):bodyPost P fn X .ret a w:=by
 refine bodyPost_ret ?_ E.defers h;have h1:=E.has _ k.mem;have h2:=E.has _ k2.mem;have h3:=E.has _ k3.mem;simp[results,hr,Array.getD_eq_getD_getElem?,h1,h2,h3]
theorem Fr.eG {a:Act}{n:Nat}{l l':List (Nat×Value)}(E:Fr a n l)(s:Nat){b:Bool}[k:fx l s (.bool b)][e:gV l s l'](h:b=true:=by first | rfl | decide):Fr a n ((s,.bool true)::l') :=
 E.bool (s:=s) (λ_ h=>h) (λe _=>by rw[h]at e;cases e)
theorem Fr.aK {a:Act}{n:Nat}{l l':List (Nat×Value)}(E:Fr a n l)(s:Nat){b:Bool}[k:fx l s (.bool b)][e:gV l s l'](h:b=false:=by first | rfl | decide):Fr a n ((s,.bool false)::l') :=
 E.bool (s:=s) (λe _=>by rw[h]at e;cases e) (λ_ h=>h)
class Sx (P:Program)(L:List SP)(l:List (Nat×Value))(op:Go.Op)(c:outParam Prop)(v:outParam Value):Prop where
 ex:c→∀ {a n w},Fr a n l→Lk L w→∀ {dst ty ps af g},(execOp a.eval ⟨dst,op,ty,ps,af,g⟩).run P w=.ok (.value v) w
section
variable {P:Program}{L R:List SP}{l:List (Nat×Value)}{x y z:Operand}{v u zv:Value}{k k':IntKind}{i j i':Int}{m m' rz c:Nat}{t t' el sz a6 b off r:Nat}{ad:Option Addr}{s:ByteArray}{p q:Bool}{vs ws zs:List Value}
instance (priority:=high) Sx.of {op}[h:Ex P l op v]:Sx P L l op True v:=⟨λ_ _ _ _ E _ _ _ _ _ _=>h.ex _ _ E _ _ _ _ _ _⟩
instance Sx.aeQ [Ev l x (.bool true)] [Ev l y v]:Sx P L l (.pick x y z) True v:=⟨λ_ _ _ _ E _ _ _ _ _ _=>Qb E⟩
instance Sx.aeR [Ev l x (.bool false)] [Ev l z v]:Sx P L l (.pick x y z) True v:=⟨λ_ _ _ _ E _ _ _ _ _ _=>Qc E⟩
instance Sx.load {e cs} [Ev l x (.pointer (some ⟨b,off,none⟩))][u:DH P t] [fM L b e cs R][n:sS cs off v]:Sx P L l (.load t x) True v :=
 ⟨λ_ _ _ _ E I _ _ _ _ _=>by obtain⟨et,h1,h2⟩:=u.h;exact Im E h1 h2 (I.bz n.h)⟩
instance Sx.aeS {e cs d} [Ev l x (.pointer (some ⟨b,off,none⟩))][u:aI P t d][g:m5 d false][hi:TI P t zv m a6] [fM L b e cs R] [mo cs off m vs][k:my vs m]:Sx P L l (.load t x) True (.agg vs.toArray) :=
 ⟨λ_ _ _ _ E I _ _ _ _ _=>bQ E u.h g.h (by rw[k.h];exact hi) (I.qm m)⟩
instance Sx.add [Ev l x (.int .i64 i)] [Ev l y (.int .i64 j)]:Sx P L l (.binOp .add t x y t') (-9223372036854775808≤i+j∧i+j≤9223372036854775807) (.int .i64 (i+j)) :=
 ⟨λh _ _ _ E _ _ _ _ _ _=>Qe E h.1 h.2⟩
instance Sx.sub [Ev l x (.int .i64 i)] [Ev l y (.int .i64 j)]:Sx P L l (.binOp .sub t x y t') (-9223372036854775808≤i-j∧i-j≤9223372036854775807) (.int .i64 (i-j)) :=
 ⟨λh _ _ _ E _ _ _ _ _ _=>Qf E h.1 h.2⟩
instance Sx.mul [Ev l x (.int .i64 i)] [Ev l y (.int .i64 j)]:Sx P L l (.binOp .mul t x y t') (-9223372036854775808≤i*j∧i*j≤9223372036854775807) (.int .i64 (i*j)) :=
 ⟨λh _ _ _ E _ _ _ _ _ _=>Qg E h.1 h.2⟩
instance (priority:=low) Sx.aeT [Ev l x (.int k i)] [Ev l y (.int k j)]:Sx P L l (.binOp .add t x y t') (True) (.int k (k.wrap (i+j))):=⟨λ_ _ _ _ E _ _ _ _ _ _=>Ik E⟩
instance (priority:=low) Sx.aeU [Ev l x (.int k i)] [Ev l y (.int k j)]:Sx P L l (.binOp .sub t x y t') (True) (.int k (k.wrap (i-j))):=⟨λ_ _ _ _ E _ _ _ _ _ _=>xZ E⟩
instance (priority:=low) Sx.aeV [Ev l x (.int k i)] [Ev l y (.int k j)]:Sx P L l (.binOp .mul t x y t') (True) (.int k (k.wrap (i*j))):=⟨λ_ _ _ _ E _ _ _ _ _ _=>Il E⟩
instance Sx.rem [Ev l x (.int k i)] [Ev l y (.int k j)]:Sx P L l (.binOp .rem t x y t') (j≠0) (.int k (i.tmod j)):=⟨λg _ _ _ E _ _ _ _ _ _=>Ap E g⟩
instance Sx.or [Ev l x (.int k i)] [Ev l y (.int k j)]:Sx P L l (.binOp .or t x y t') (True) (.int k (k.wrap ((BitVec.ofInt k.bits i ||| BitVec.ofInt k.bits j).toNat))):=⟨λ_ _ _ _ E _ _ _ _ _ _=>RL E⟩
instance Sx.and [Ev l x (.int k i)] [Ev l y (.int k j)]:Sx P L l (.binOp .and t x y t') (True) (.int k (k.wrap ((BitVec.ofInt k.bits i &&& BitVec.ofInt k.bits j).toNat))):=⟨λ_ _ _ _ E _ _ _ _ _ _=>RM E⟩
instance (priority:=low) Sx.xor [Ev l x (.int k i)] [Ev l y (.int k j)]:Sx P L l (.binOp .xor t x y t') (True) (.int k (k.wrap ((BitVec.ofInt k.bits i ^^^ BitVec.ofInt k.bits j).toNat))):=⟨λ_ _ _ _ E _ _ _ _ _ _=>RO E⟩
instance Sx.aeW {i j:UInt8} [Ev l x (.int .u8 (i.toNat:Int))] [Ev l y (.int .u8 (j.toNat:Int))]:Sx P L l (.binOp .xor t x y t') True (.int .u8 ((i ^^^ j).toNat:Int)):=⟨λ_ _ _ _ E _ _ _ _ _ _=>Rl E⟩
instance Sx.min {uw} [Ev l x (.int k i)] [Ev l y (.int k j)]:Sx P L l (.call ⟨.builtin .min,#[x,y],uw⟩) (True) (.int k (min i j)):=⟨λ_ _ _ _ E _ _ _ _ _ _=>Rc E⟩
instance Sx.max {uw} [Ev l x (.int k i)] [Ev l y (.int k j)]:Sx P L l (.call ⟨.builtin .max,#[x,y],uw⟩) (True) (.int k (max i j)):=⟨λ_ _ _ _ E _ _ _ _ _ _=>Re E⟩
instance Sx.shl [Ev l x (.int k i)] [Ev l y (.int k' j)] [eA j m]:Sx P L l (.binOp .shl t x y t') (m≤k.bits) (.int k (k.wrap (i*2 ^ m))):=⟨λg _ _ _ E _ _ _ _ _ _=>I4 E g⟩
instance Sx.shr [Ev l x (.int k i)] [Ev l y (.int k' j)] [eA j m]:Sx P L l (.binOp .shr t x y t') (m≤k.bits) (.int k (i.fdiv (2 ^ m))):=⟨λg _ _ _ E _ _ _ _ _ _=>RK E g⟩
instance Sx.com [Ev l x (.int k i)]:Sx P L l (.unOp .xor t x) True (.int k (k.wrap ((BitVec.ofInt k.bits (if k.signed then -1 else k.max) ^^^ BitVec.ofInt k.bits i).toNat))):=⟨λ_ _ _ _ E _ _ _ _ _ _=>RP E⟩
instance Sx.neg [Ev l x (.int k i)]:Sx P L l (.unOp .neg t x) True (.int k (k.wrap (0-i))):=⟨λ_ _ _ _ E _ _ _ _ _ _=>RQ E⟩
instance Sx.aeX [h:aI P t (.slice el)] [Ev l x (.slice ad m c)][q:uA ad p]:Sx P L l (.binOp .eql t x (.const (.slice none 0 0)) t') True (.bool p):=⟨λ_ _ _ _ E _ _ _ _ _ _=>by rw[← q.h];exact Rh E h.h⟩
instance Sx.aeY [h:aI P t .string] [Ev l x (.string s)]:Sx P L l (.call ⟨.builtin .len,#[x],#[t]⟩) (True) (.int .i64 s.size):=⟨λ_ _ _ _ E _ _ _ _ _ _=>RG E h.h⟩
instance Sx.aeZ [h:aI P t .bool] [Ev l x (.bool p)] [Ev l y (.bool q)]:Sx P L l (.binOp .eql t x y t') (True) (.bool (p==q)):=⟨λ_ _ _ _ E _ _ _ _ _ _=>Ra E h.h⟩
instance Sx.ae0 [h:aI P t .bool] [Ev l x (.bool p)] [Ev l y (.bool q)]:Sx P L l (.binOp .neq t x y t') (True) (.bool (p != q)):=⟨λ_ _ _ _ E _ _ _ _ _ _=>Rb E h.h⟩
instance Sx.ae1 {fn xs ys} [nG l xs vs] [nG l ys ws]:Sx P L l (.makeFunc fn xs.toArray ys.toArray) (True) (.func fn vs.toArray ws.toArray):=⟨λ_ _ _ _ E _ _ _ _ _ _=>Qx E⟩
instance Sx.ae2 {d}[h:aI P t d][g:DU d] [Ev l x v]:Sx P L l (.makeInterface t x) (True) (.iface t v):=⟨λ_ _ _ _ E _ _ _ _ _ _=>RV E h.h (by have:=g.h;cases d <;> first | rfl | (simp at this))⟩
instance Sx.ae3 {ms}[h:aI P t (.interface ms)] [Ev l x (.iface m v)]:Sx P L l (.binOp .eql t x (.const .nilIface) t') (True) (.bool false):=⟨λ_ _ _ _ E _ _ _ _ _ _=>RU E h.h⟩
instance Sx.index [h:aI P t (.slice el)][hi:TI P el zv sz a6] [Ev l x (.slice (some ⟨b,off,none⟩) m c)] [Ev l y (.int k i)] [eA i m'][q:m4 off m' sz r]:Sx P L l (.indexAddr t x y) (m'<m) (.pointer (some ⟨b,r,none⟩)):=⟨λg _ _ _ E _ _ _ _ _ _=>by rw[← q.h];exact Iq E h.h hi g⟩
instance Sx.ae4 [h:aI P t (.array m el)][hi:TI P el zv sz a6] [Ev l x (.pointer (some ⟨b,off,none⟩))] [Ev l y (.int k i)] [eA i m'][q:m4 off m' sz r]:Sx P L l (.indexAddr t x y) (m'<m) (.pointer (some ⟨b,r,none⟩)):=⟨λg _ _ _ E _ _ _ _ _ _=>by rw[← q.h];exact Qv E h.h hi g⟩
instance Sx.ae5 [h:aI P t (.slice el)][hi:TI P el zv sz a6] [Ev l x (.slice ad m c)] [Ev l y (.int k i)] [eA i m']:Sx P L l (.slice t x (some y) none none) (m'≤m) (.slice (e6 ad m' c sz) (m-m') (c-m')):=⟨λg _ _ _ E _ _ _ _ _ _=>QJ E h.h hi g⟩
instance Sx.ae6 [h:aI P t (.slice el)][hi:TI P el zv sz a6] [Ev l x (.slice ad m c)] [Ev l y (.int k i)] [eA i m']:Sx P L l (.slice t x none (some y) none) (m'≤c) (.slice (e6 ad 0 c sz) (m'-0) (c-0)):=⟨λg _ _ _ E _ _ _ _ _ _=>QK E h.h hi g⟩
instance Sx.ae7 [h:aI P t (.slice el)][hi:TI P el zv sz a6] [Ev l x (.slice ad m c)] [Ev l y (.int k i)] [eA i m'] [Ev l z (.int k' i')] [eA i' rz]:Sx P L l (.slice t x (some y) (some z) none) (m'≤rz∧rz≤c) (.slice (e6 ad m' c sz) (rz-m') (c-m')):=⟨λg _ _ _ E _ _ _ _ _ _=>QL E h.h hi g.1 g.2⟩
instance Sx.ae8 [h:aI P t (.slice el)][hi:TI P el zv sz a6] [Ev l x (.slice ad m c)] [Ev l y (.int k i)] [eA i m'] [Ev l z (.int k' i')] [eA i' rz]:Sx P L l (.slice t x none (some y) (some z)) (m'≤rz∧rz≤c) (.slice (e6 ad 0 rz sz) m' rz):=⟨λg _ _ _ E _ _ _ _ _ _=>DT E h.h hi g.1 g.2⟩
instance Sx.ae9 [h:aI P t (.array m el)][hi:TI P el zv sz a6] [Ev l x (.pointer (some ⟨b,off,none⟩))]:Sx P L l (.slice t x none none none) (True) (.slice (some ⟨b,off,none⟩) m m):=⟨λ_ _ _ _ E _ _ _ _ _ _=>RB E h.h hi⟩
instance Sx.conv [h:aI P t (.int k)][q:aI P t' (.int k')] [Ev l x (.int k i)]:Sx P L l (.convert t t' x) (k'.wrap i=i) (.int k' i):=⟨λg _ _ _ E _ _ _ _ _ _=>pw E h.h q.h g⟩
instance Sx.build {kx parts}[hb:eE P t kx][hi:TI P t zv sz a6] [Cells zv zs] [uv kx zs l parts vs]:Sx P L l (.build t (List.toArray parts)) ((kx.all λp=>Nat.ble (p.1+p.2) zs.length)=true) (.agg vs.toArray):=⟨λg _ _ _ E _ _ _ _ _ _=>IV E hb hi g⟩
end
def Hd (C:World→Prop)(L:List SP):Prop:=∀ V,C V→Lk L V
theorem Hd.any (C:World→Prop):Hd C []:=λV _=>Lk.nil V
theorem Hd.fK {W w:World}{L:List SP}(I:U W w L):Hd (Old w) L:=λ_ h=>⟨W,w,I,h⟩
def CN (b:Bool)(C:World→Prop)(K:Act→World→Prop):Act→World→Prop:=λa w=>(b=true→C w)∧K a w
def sT (X:Ending→World→Prop)(v:Value):Act→World→Prop:=λ_ w=>X (.returned v) w
def rA (P:Program)(rs:List ResultVar)(X:Ending→World→Prop):Exit→Act→World→Prop:=λe a w=>∀ fn:Func,fn.results=rs.toArray→bodyPost P fn X e a w
class m6 (Q:Exit→Act→World→Prop):Prop where h:lE Q
instance {K Q}[h:m6 Q]:m6 (Exit.then K Q):=⟨QQ h.h⟩
instance {i Q}[h:m6 Q]:m6 (Exit.inBlock i Q):=⟨QR h.h⟩
instance {P rs X}:m6 (rA P rs X):=⟨λc a o v w h fn hr=>QS c a o v w (h fn hr)⟩
class Au (P:Program):Prop where h:P.follows .mixedOrders=true
class Rn (k n:Nat)(C:World→Prop)(L0 L:List SP)(l:List (Nat×Value))(X:Act→World→Prop)(b:outParam Bool)(c:outParam Prop)(l':outParam (List (Nat×Value)))(Y:outParam (Act→World→Prop)):Prop where
 rn:b=true→c→∀ {a W w},Fr a n l→U W w L→Hd C L0∧C w→(∀ a,Fr a n l'→Y a w)→X a w
class Way (v:Value)(x y:Code)(z:outParam Code):Prop where h:∃ b,v=.bool b∧z=if b then x else y
instance {x y}:Way (.bool true) x y x:=⟨true,rfl,rfl⟩
instance {x y}:Way (.bool false) x y y:=⟨false,rfl,rfl⟩
def DV (os:List Oper)(m i:Nat):Bool:=match Region.ready .any os.toArray (lb os.toArray.size m) with | [j]=>Nat.beq j i | _=>false
theorem R0 {os:List Oper}{m i:Nat}(h:DV os m i=true):Region.ready .any os.toArray (lb os.toArray.size m)=[i]:=by
 unfold DV at h;split at h
 ·rename_i j e;rw[e,Nat.eq_of_beq_eq_true h]
 ·cases h
def R4 (os:List Oper)(m:Nat):Bool:=(Region.ready .any os.toArray (lb os.toArray.size m)).isEmpty
section
variable {P:Program}{k n d i j m fuel:Nat}{C C2:World→Prop}{L0 L:List SP}{l l1 l':List (Nat×Value)}{X Y K:Act→World→Prop}{b b2:Bool}{c dD c2:Prop}{os rest:List Oper}{Q:Exit→Act→World→Prop}{op:Go.Op}{v:Value}{ty:TypeId}{ps:String}{af:Array Edge}{g:Option (Nat×Bool)}{x y z:Code}{o:Operand}{bg od:List Nat}
instance (priority:=1) Rn.stop:Rn 0 n C L0 L l X true True l X:=⟨λ_ _ _ _ _ E _ _ h=>h _ E⟩
instance Rn.oper [e:Gd os l g true][s:Sx P L l op dD v][q:gV l d l1][r:Rn k n C L0 L ((d,v)::l1) K b2 c2 l' Y][p:ry dD c2 c] :
   Rn (k+1) n C L0 L l (cH P os.toArray Q ⟨some d,op,ty,ps,af,g⟩ K) (okB d n l1&&b2) c l' Y:=⟨λhb hc a W w E I hx h=>by
 rw[fL]at hb;obtain⟨h1,h2⟩:=p.h hc;exact bu (E.del d) (e.h E) (s.ex h1 E (Lk.of I)) hb.1 λa E=>r.rn hb.2 h2 E I hx h⟩
instance Rn.off {jb}[e:Gd os l (some jb) false][q:gV l d l1][r:Rn k n C L0 L ((d,undef)::l1) K b2 c l' Y] :
   Rn (k+1) n C L0 L l (cH P os.toArray Q ⟨some d,op,ty,ps,af,some jb⟩ K) (okB d n l1&&b2) c l' Y:=⟨λhb hc a W w E I hx h=>by
 rw[fL]at hb;exact P7 (E.del d) (e.h E) hb.1 λa E=>r.rn hb.2 hc E I hx h⟩
instance Rn.cons {ops}{o:Oper}[r:Rn k n C L0 L l (cH P ops Q o (wpList P ops Q rest)) b c l' Y]:Rn k n C L0 L l (wpList P ops Q (o::rest)) b c l' Y:=⟨λhb hc _ _ _ E I hx h=>(r.rn hb hc E I hx h)⟩
instance Rn.nil {ops}[r:Rn k n C L0 L l (Q .normal) b c l' Y]:Rn k n C L0 L l (wpList P ops Q []) b c l' Y:=⟨λhb hc _ _ _ E I hx h=>Rm (r.rn hb hc E I hx h)⟩
instance Rn.seq [r:Rn k n C L0 L l (x.wp P (Exit.then (y.wp P Q) Q)) b c l' Y]:Rn (k+1) n C L0 L l ((Code.seq x y).wp P Q) b c l' Y:=⟨λhb hc _ _ _ E I hx h=>wp_seq (r.rn hb hc E I hx h)⟩
instance Rn.region {id}[r:Rn k n C L0 L l (wpList P os.toArray Q os) b c l' Y]:Rn k n C L0 L l ((Code.region id os.toArray false).wp P Q) b c l' Y:=⟨λhb hc _ _ _ E I hx h=>wp_region_lit (r.rn hb hc E I hx h)⟩
instance Rn.skip [r:Rn k n C L0 L l (Q .normal) b c l' Y]:Rn k n C L0 L l (Code.skip.wp P Q) b c l' Y:=⟨λhb hc _ _ _ E I hx h=>wp_skip (r.rn hb hc E I hx h)⟩
instance Rn.block [r:Rn k n C L0 L l (x.wp P (Exit.inBlock i Q)) b c l' Y]:Rn k n C L0 L l ((Code.block i x).wp P Q) b c l' Y:=⟨λhb hc _ _ _ E I hx h=>wp_block (r.rn hb hc E I hx h)⟩
instance Rn.exit [r:Rn k n C L0 L l (Q (.exit i)) b c l' Y]:Rn k n C L0 L l ((Code.exit i).wp P Q) b c l' Y:=⟨λhb hc _ _ _ E I hx h=>wp_exit (r.rn hb hc E I hx h)⟩
instance Rn.ret [r:Rn k n C L0 L l (Q .ret) b c l' Y]:Rn k n C L0 L l (Code.ret.wp P Q) b c l' Y:=⟨λhb hc _ _ _ E I hx h=>wp_ret (r.rn hb hc E I hx h)⟩
instance Rn.cond [e:Ev l o v][q:Way v x y z][r:Rn k n C L0 L l (z.wp P Q) b c l' Y]:Rn (k+1) n C L0 L l ((Code.cond o x y).wp P Q) b c l' Y:=⟨λhb hc _ _ _ E I hx h=>by
 obtain⟨t,rfl,rfl⟩:=q.h;exact wp_cond (e.ev _ _ E) (r.rn hb hc E I hx h)⟩
instance Rn.afa [r:Rn k n C L0 L l (K) b c l' Y]:Rn k n C L0 L l (Exit.then K Q .normal) b c l' Y:=⟨λhb hc _ _ _ E I hx h=>TN (r.rn hb hc E I hx h)⟩
instance Rn.afb [r:Rn k n C L0 L l (Q .ret) b c l' Y]:Rn k n C L0 L l (Exit.then K Q .ret) b c l' Y:=⟨λhb hc _ _ _ E I hx h=>TR (r.rn hb hc E I hx h)⟩
instance Rn.afc [r:Rn k n C L0 L l (Q (.exit i)) b c l' Y]:Rn k n C L0 L l (Exit.then K Q (.exit i)) b c l' Y:=⟨λhb hc _ _ _ E I hx h=>TE (r.rn hb hc E I hx h)⟩
instance Rn.afd [r:Rn k n C L0 L l (Q .normal) b c l' Y]:Rn k n C L0 L l (Exit.inBlock i Q .normal) b c l' Y:=⟨λhb hc _ _ _ E I hx h=>Rp (r.rn hb hc E I hx h)⟩
instance Rn.afe [r:Rn k n C L0 L l (Q .ret) b c l' Y]:Rn k n C L0 L l (Exit.inBlock i Q .ret) b c l' Y:=⟨λhb hc _ _ _ E I hx h=>Rq (r.rn hb hc E I hx h)⟩
instance (priority:=high) Rn.aff [r:Rn k n C L0 L l (Q .normal) b c l' Y]:Rn k n C L0 L l (Exit.inBlock i Q (.exit i)) b c l' Y:=⟨λhb hc _ _ _ E I hx h=>QB (r.rn hb hc E I hx h)⟩
instance Rn.afg [r:Rn k n C L0 L l (Q (.exit j)) b c l' Y]:Rn k n C L0 L l (Exit.inBlock i Q (.exit j)) (!Nat.beq j i&&b) c l' Y:=⟨λhb hc _ _ _ E I hx h=>by
 rw[fL,Bool.not_eq_true']at hb;exact QC hb.1 (r.rn hb.2 hc E I hx h)⟩
variable {t u r3:Nat}{v2 v3 zv:Value}{vs cs:List Value}{R:Ending→World→Prop}{bb off e sz a6:Nat}{RR:List SP}{et:TypeDesc}
instance Rn.Iv:Rn 0 n C L0 L l (rA P [] R .normal) true True l (sT R (.tuple #[])):=⟨λ_ _ _ _ _ E _ _ h _ hr=>Go.Proofs.YteoldcfapaiobaaGreat.Iv E hr (h _ E)⟩
instance Rn.Iu:Rn 0 n C L0 L l (rA P [] R .ret) true True l (sT R (.tuple #[])):=⟨λ_ _ _ _ _ E _ _ h _ hr=>Go.Proofs.YteoldcfapaiobaaGreat.Iu E hr (h _ E)⟩
instance Rn.Is [fx l t v]:Rn 0 n C L0 L l (rA P [.tmp t] R .ret) true True l (sT R v):=⟨λ_ _ _ _ _ E _ _ h _ hr=>Go.Proofs.YteoldcfapaiobaaGreat.Is E hr (h _ E)⟩
instance Rn.It [fx l t v] [fx l u v2]:Rn 0 n C L0 L l (rA P [.tmp t,.tmp u] R .ret) true True l (sT R (.tuple #[v,v2])):=⟨λ_ _ _ _ _ E _ _ h _ hr=>Go.Proofs.YteoldcfapaiobaaGreat.It E hr (h _ E)⟩
instance Rn.Ja [fx l t v] [fx l u v2] [fx l r3 v3]:Rn 0 n C L0 L l (rA P [.tmp t,.tmp u,.tmp r3] R .ret) true True l (sT R (.tuple #[v,v2,v3])):=⟨λ_ _ _ _ _ E _ _ h _ hr=>Go.Proofs.YteoldcfapaiobaaGreat.Ja E hr (h _ E)⟩
instance Rn.afh [fx l t (.pointer (some ⟨bb,off,none⟩))][q:aI P u et][p2:m5 et false][hi:TI P u zv sz a6] [fM L bb e cs RR] [mo cs off sz vs][p:my vs sz]:Rn 0 n C L0 L l (rA P [.cell t u] R .ret) true True l (sT R (.agg vs.toArray)):=⟨λ_ _ _ _ _ E I _ h _ hr =>
 Go.Proofs.YteoldcfapaiobaaGreat.Qy E hr (Du q.h p2.h (by rw[p.h];exact hi) (I.qm sz)) (h _ E)⟩
instance Rn.afi [fx l t (.pointer (some ⟨bb,off,none⟩))][q:aI P u et][p2:m5 et false][hi:TI P u zv sz a6] [fM L bb e cs RR] [mo cs off sz vs][p:my vs sz] [fx l r3 v2]:Rn 0 n C L0 L l (rA P [.cell t u,.tmp r3] R .ret) true True l (sT R (.tuple #[.agg vs.toArray,v2])):=⟨λ_ _ _ _ _ E I _ h _ hr =>
 Go.Proofs.YteoldcfapaiobaaGreat.Qz E hr (Du q.h p2.h (by rw[p.h];exact hi) (I.qm sz)) (h _ E)⟩
instance Rn.uB [r:Rn k n C L0 L l K b c l' Y]:Rn k n C L0 L l (CN b2 C K) b c l' Y:=⟨λhb hc _ _ _ E I hx h=>⟨λ_=>hx.2,r.rn hb hc E I hx h⟩⟩
instance (priority:=low) Rn.cnF [r:Rn k n C L0 L l K b c l' Y]:Rn k n C L0 L l (CN b2 C2 K) (!b2&&b) c l' Y:=⟨λhb hc _ _ _ E I hx h=>by
 rw[fL,Bool.not_eq_true']at hb;exact⟨λe=>(by rw[hb.1]at e;cases e),r.rn hb.2 hc E I hx h⟩⟩
instance Rn.one {o}[p:ow os i o][r:Rn k n C L0 L l (cH P os.toArray Q o (CN (bg.contains i) C2 (gj P os.toArray Q C2 bg od fuel (mz m i)))) b c l' Y] :
   Rn k n C L0 L l (gj P os.toArray Q C2 bg ((i+1000)::od) (fuel+1) m) (DV os m i&&b) c l' Y:=⟨λhb hc a W w E I hx h=>by
 rw[fL]at hb;show gj P os.toArray Q C2 bg (i::od) (fuel+1) m a w;exact D1 (by rw[getElem?_toArray];exact p.h) (r.rn hb.2 hc E I hx h) (R0 hb.1)⟩
instance (priority:=low) Rn.pure [p:ow os i ⟨some d,op,ty,ps,af,g⟩][pk:m6 Q][e:Gd os l g true][s:Sx P [] l op dD v][q:gV l d l1][r:Rn k n C L0 L ((d,v)::l1) (gj P os.toArray Q C2 bg od fuel (mz m i)) b2 c2 l' Y][DX:ry dD c2 c] :
   Rn (k+1) n C L0 L l (gj P os.toArray Q C2 bg (i::od) (fuel+1) m) (m1 os.toArray (lb os.toArray.size m) bg true i&&!bg.contains i&&okB d n l1&&b2) c l' Y:=⟨λhb hc a W w E I hx h=>by
 simp only[fL,Bool.not_eq_true']at hb;obtain⟨h1,h2⟩:=DX.h hc;exact IQ (qw _ _ _) (by rw[getElem?_toArray];exact p.h) hb.1.1.1 hb.1.1.2 pk.h (E.del d) (e.h E) (λw=>s.ex h1 E (Lk.nil w)) hb.1.2 λa E=>r.rn hb.2 h2 E I hx h⟩
instance (priority:=low) Rn.afj {jb}[p:ow os i ⟨some d,op,ty,ps,af,some jb⟩][pk:m6 Q][e:Gd os l (some jb) false][q:gV l d l1][r:Rn k n C L0 L ((d,undef)::l1) (gj P os.toArray Q C2 bg od fuel (mz m i)) b2 c l' Y] :
   Rn (k+1) n C L0 L l (gj P os.toArray Q C2 bg (i::od) (fuel+1) m) (m1 os.toArray (lb os.toArray.size m) bg true i&&!bg.contains i&&okB d n l1&&b2) c l' Y:=⟨λhb hc a W w E I hx h=>by
 simp only[fL,Bool.not_eq_true']at hb;exact QZ (qw _ _ _) (by rw[getElem?_toArray];exact p.h) hb.1.1.1 hb.1.1.2 pk.h (E.del d) (e.h E) hb.1.2 λa E=>r.rn hb.2 hc E I hx h⟩
instance (priority:=high) Rn.held [p:ow os i ⟨some d,op,ty,ps,af,g⟩][pk:m6 Q][e:Gd os l g true][s:Sx P L0 l op dD v][q:gV l d l1][r:Rn k n C L0 L ((d,v)::l1) (gj P os.toArray Q C bg od fuel (mz m i)) b2 c2 l' Y][DX:ry dD c2 c] :
   Rn (k+1) n C L0 L l (gj P os.toArray Q C bg ((i+3000)::od) (fuel+1) m) (m1 os.toArray (lb os.toArray.size m) bg false i&&okB d n l1&&b2) c l' Y:=⟨λhb hc a W w E I hx h=>by
 simp only[fL]at hb;obtain⟨h1,h2⟩:=DX.h hc;exact IS (qw _ _ _) (by rw[getElem?_toArray];exact p.h) hb.1.1 pk.h (E.del d) (e.h E) (λw hw=>s.ex h1 E (hx.1 w hw)) hx.2 hb.1.2 λa E=>r.rn hb.2 h2 E I hx h⟩
instance (priority:=high) Rn.afk {jb}[p:ow os i ⟨some d,op,ty,ps,af,some jb⟩][pk:m6 Q][e:Gd os l (some jb) false][q:gV l d l1][r:Rn k n C L0 L ((d,undef)::l1) (gj P os.toArray Q C bg od fuel (mz m i)) b2 c l' Y] :
   Rn (k+1) n C L0 L l (gj P os.toArray Q C bg ((i+3000)::od) (fuel+1) m) (m1 os.toArray (lb os.toArray.size m) bg false i&&okB d n l1&&b2) c l' Y:=⟨λhb hc a W w E I hx h=>by
 simp only[fL]at hb;exact Q0 (qw _ _ _) (by rw[getElem?_toArray];exact p.h) hb.1.1 pk.h (E.del d) (e.h E) hx.2 hb.1.2 λa E=>r.rn hb.2 hc E I hx h⟩
instance Rn.done [r:Rn k n C L0 L l (Q .normal) b c l' Y]:Rn k n C L0 L l (gj P os.toArray Q C2 bg [] fuel m) (R4 os m&&b) c l' Y:=⟨λhb hc _ _ _ E I hx h=>by
 rw[fL]at hb;exact Rt (r.rn hb.2 hc E I hx h) (List.isEmpty_iff.1 hb.1)⟩
class Zp (vs:List Value)(ks:List Nat)(l:outParam (List (Nat×Value))):Prop where h:ks.zip vs=l
instance Zp.nil {ks}:Zp [] ks []:=⟨by simp⟩
instance Zp.cons {v vs k ks l}[h:Zp vs ks l]:Zp (v::vs) (k::ks) ((k,v)::l):=⟨by rw[List.zip_cons_cons,h.h]⟩
class App (xs ys:List Value)(zs:outParam (List Value)):Prop where h:xs++ys=zs
instance App.nil {ys}:App [] ys ys:=⟨rfl⟩
instance App.cons {x xs ys zs}[h:App xs ys zs]:App (x::xs) ys (x::zs):=⟨by rw[cons_append,h.h]⟩
instance Zp.app {xs ys zs ks l}[q:App xs ys zs][h:Zp zs ks l]:Zp (xs++ys) ks l:=⟨by rw[q.h];exact h.h⟩
class sU (n:Nat)(l:List (Nat×Value))(d:Option Tmp)(b:outParam Bool)(F:outParam (Value→List (Nat×Value))):Prop where h:b=true→∀ {a v},Fr a n l→Fr (a.put d v) n (F v)
instance sU.some {n l d l1}[q:gV l d l1]:sU n l (some d) (okB d n l1) (λv=>(d,v)::l1):=⟨λh _ v E=>(E.del d).put h v⟩
class oy (P:Program)(l:List (Nat×Value))(ce:Callee)(args:List Operand)(f:outParam Nat)(vs:outParam (List Value)):Prop where
 h:hE P f=true→∀ {a n w},Fr a n l→∀ {dst pA ty ps af g},(execOp a.eval ⟨dst,.call ⟨ce,args.toArray,pA⟩,ty,ps,af,g⟩).run P w=.ok (.enter f vs.toArray) w
instance oy.fn {P l f args vs}[ev:nG l args vs]:oy P l (.value (.func f)) args f vs:=⟨λhb a n w E _ _ _ _ _ _=>by
 have h2:a.eval (.func f)=.func (.func f) #[] #[]:=rfl;simp[execOp,resolve,h2,Deferred.ofValue,invoke,ev.ev a n E,Aj hb]⟩
instance oy.kB {P l x f us args vs zs}[ex:Ev l (.tmp x) (.func (.func f) #[] (List.toArray us))][ev:nG l args vs][q:App vs us zs]:oy P l (.value (.tmp x)) args f zs:=⟨λhb a n w E _ _ _ _ _ _=>by
 rw[← q.h];simp[execOp,resolve,ex.ev a n E,Deferred.ofValue,invoke,ev.ev a n E,Aj hb]⟩
class sV (vs:List Value):Prop where h:∀ v∈vs,v.oneCell'=true
instance sV.nil:sV []:=⟨by simp⟩
instance sV.ints {k m g}:sV (ints k m g):=⟨uy⟩
class One (v:Value):Prop where h:v.oneCell'=true
instance {k i}:One (.int k i):=⟨rfl⟩
instance {b}:One (.bool b):=⟨rfl⟩
instance {s}:One (.string s):=⟨rfl⟩
instance {p}:One (.pointer p):=⟨rfl⟩
instance {p n c}:One (.slice p n c):=⟨rfl⟩
instance {t v}:One (.iface t v):=⟨rfl⟩
instance sV.cons {v vs}[h:One v][k:sV vs]:sV (v::vs):=⟨λx hx=>by
 rcases List.mem_cons.1 hx with rfl | hx
 ·exact h.h
 ·exact k.h x hx⟩
variable {a:Act}{w W:World}{l2:List (Nat×Value)}{p q:Prop}{bp:Bool}{F:Value→List (Nat×Value)}{dst:Option Tmp}{ce:Callee}{args:List Operand}{f:Nat}{pA:Array TypeId}{xo Av:Operand}
abbrev j0:World→Prop:=λ_=>True
theorem k4 {w:World}:Hd j0 []∧j0 w:=⟨Hd.any _,trivial⟩
theorem EN {fn:Func}{Jb:Code}{rs:List ResultVar}{X:Ending→World→Prop}(hf:P.funcs[f]?=some fn)(hn:fn.ntmps=m)(hb:fn.body=some Jb)(hr:fn.results=rs.toArray)[z:Zp vs [0,1,2,3,4,5,6,7,8,9,10,11] l](h:∀ a,Fr a m l→Jb.wp P (rA P rs X) a w)
   (hm:(Nat.ble vs.length m&&Nat.ble vs.length 12)=true:=by rfl):Calls P f vs.toArray w X:=by
 rw[fL]at hm;refine QA hf hb hn (Nat.le_of_ble_eq_true hm.1) λa E=>wp_mono (h a ?_) λ_ _ _ hq=>hq fn hr;have DY:=Nat.le_of_ble_eq_true hm.2;rw[← z.h];have e:((List.range vs.length).zip vs)=[0,1,2,3,4,5,6,7,8,9,10,11].zip vs:=by
  have h3:[0,1,2,3,4,5,6,7,8,9,10,11]=List.range (vs.length+(12-vs.length)):=by rw[show vs.length+(12-vs.length)=12 from by omega];rfl
  rw[h3,List.range_add];have h4:=List.zip_append (l₁:=List.range vs.length) (l₂:=vs) (r₁:=(List.range (12-vs.length)).map (vs.length+·)) (r₂:=[]) (by simp);rw[append_nil]at h4;rw[h4];simp
 rw[← e];exact E
theorem RN (k:Nat)(E:Fr a n l)(I:U W w L)[r:Rn k n j0 [] L l X b c l' Y](h:∀ a,Fr a n l'→Y a w)(hb:b=true:=by kernel_rfl)(hc:c:=by (repeat' refine And.intro ?_ ?_) <;> first | exact True.intro | omega | exact (rfl:_=_) | decide):X a w:=r.rn hb hc E I k4 h
theorem RH (k:Nat)(E:Fr a n l)(I:U W w L)(hH:Hd C L0)(hC:C w)[r:Rn k n C L0 L l X b c l' Y](h:∀ a,Fr a n l'→Y a w)(hb:b=true:=by kernel_rfl)(hc:c:=by (repeat' refine And.intro ?_ ?_) <;> first | exact True.intro | omega | exact (rfl:_=_) | decide):X a w:=r.rn hb hc E I ⟨hH,hC⟩ h
theorem RT (k:Nat)(E:Fr a n l)(I:U W w L)[r:Rn k n j0 [] L l X b c l' (sT R v)](h:R (.returned v) w)(hb:b=true:=by kernel_rfl)(hc:c:=by (repeat' refine And.intro ?_ ?_) <;> first | exact True.intro | omega | exact (rfl:_=_) | decide):X a w:=r.rn hb hc E I k4 λ_ _=>h
theorem IF (k:Nat)(E:Fr a n l)(I:U W w L)[r:Rn k n j0 [] L l X b c l1 ((Code.cond (.tmp t) x y).wp P Q)][g1:fx l1 t (.bool b2)][jZ:gV l1 t l2][nO:BP b2 p q]
   (ht:p→∀ a,Fr a n ((t,.bool true)::l2)→x.wp P Q a w) (hf:q→∀ a,Fr a n ((t,.bool false)::l2)→y.wp P Q a w) (hb:b=true:=by kernel_rfl) (hc:c:=by (repeat' refine And.intro ?_ ?_) <;> first | exact True.intro | omega | exact (rfl:_=_) | decide):X a w :=
 r.rn hb hc E I k4 λa E=>E.by (s:=t) (λh E=>Iw E (ht h _ E)) (λh E=>Ix E (hf h _ E))
theorem R5 (k:Nat)(E:Fr a n l)(I:U W w L)[r:Rn k n j0 [] L l X b c l1 ((Code.cond (.tmp t) x y).wp P Q)][g1:fx l1 t (.bool b2)][jZ:gV l1 t l2]
   (ht:b2=true→∀ a,Fr a n ((t,.bool true)::l2)→x.wp P Q a w) (hf:b2=false→∀ a,Fr a n ((t,.bool false)::l2)→y.wp P Q a w) (hb:b=true:=by kernel_rfl) (hc:c:=by (repeat' refine And.intro ?_ ?_) <;> first | exact True.intro | omega | exact (rfl:_=_) | decide):X a w :=
 r.rn hb hc E I k4 λa E=>E.bool (s:=t) (λh E=>Iw E (ht h _ E)) (λh E=>Ix E (hf h _ E))
theorem BY (k:Nat)(E:Fr a n l)(I:U W w L)[r:Rn k n j0 [] L l X b c l1 (cH P os.toArray Q ⟨dst,op,ty,ps,af,some (j,bp)⟩ K)][d1:uz os j t][g1:fx l1 t (.bool b2)][jZ:gV l1 t l2][nO:BP b2 p q]
   (ht:p→∀ a,Fr a n ((t,.bool true)::l2)→cH P os.toArray Q ⟨dst,op,ty,ps,af,some (j,bp)⟩ K a w) (hf:q→∀ a,Fr a n ((t,.bool false)::l2)→cH P os.toArray Q ⟨dst,op,ty,ps,af,some (j,bp)⟩ K a w)
   (hb:b=true:=by kernel_rfl) (hc:c:=by (repeat' refine And.intro ?_ ?_) <;> first | exact True.intro | omega | exact (rfl:_=_) | decide):X a w :=
 r.rn hb hc E I k4 λa E=>E.by (s:=t) (λh E=>ht h _ E) (λh E=>hf h _ E)
theorem yf (E:Fr a n l)[e:Gd os l g true][ev:oy P l ce args f vs][wi:sU n l dst bp F]{X:Ending→World→Prop}(hc:Calls P f vs.toArray w X)(DZ:bp=true)(hf:hE P f=true)
   (h:∀ e V,X e V→∃ v,e=.returned v∧∀ a',Fr a' n (F v)→K a' V):cH P os.toArray Q ⟨dst,.call ⟨ce,args.toArray,pA⟩,ty,ps,af,g⟩ K a w :=
 Ir (e.h E) (ev.h hf E) hc λe V hx=>let ⟨v,he,hv⟩:=h e V hx;⟨v,he,hv _ (wi.h DZ E)⟩
section
variable {α β γ:Type}{S0:World→Prop}{S1:α→World→Prop}{S2:α→β→World→Prop}{S3:α→β→γ→World→Prop}{v1:α→Value}{w2:α→β→Value}{w3:α→β→γ→Value}
theorem CL (k:Nat)(E:Fr a n l)(I:U W w L)[r:Rn k n j0 [] L l X b c l1 (cH P os.toArray Q ⟨dst,.call ⟨ce,args.toArray,pA⟩,ty,ps,af,g⟩ K)][e:Gd os l1 g true][ev:oy P l1 ce args f vs][wi:sU n l1 dst bp F]
   (hq:Calls P f vs.toArray w λr V=>r=.returned v∧S0 V) (h:∀ a w,Fr a n (F v)→S0 w→K a w) (hb:(b&&bp)=true:=by kernel_rfl) (hf:hE P f=true:=by kernel_rfl) (hc:c:=by (repeat' refine And.intro ?_ ?_) <;> first | exact True.intro | omega | exact (rfl:_=_) | decide):X a w:=by
 simp only[fL]at hb;exact r.rn hb.1 hc E I k4 λa E=>yf E hq hb.2 hf λe V ⟨h1,h2⟩=>⟨_,h1,λa E=>h a V E h2⟩
theorem aW (k:Nat)(E:Fr a n l)(I:U W w L)[r:Rn k n j0 [] L l X b c l1 (cH P os.toArray Q ⟨dst,.call ⟨ce,args.toArray,pA⟩,ty,ps,af,g⟩ K)][e:Gd os l1 g true][ev:oy P l1 ce args f vs][wi:sU n l1 dst bp F]
   (hq:Calls P f vs.toArray w λr V=>∃ x,r=.returned (v1 x)∧S1 x V) (h:∀ x a w,Fr a n (F (v1 x))→S1 x w→K a w) (hb:(b&&bp)=true:=by kernel_rfl) (hf:hE P f=true:=by kernel_rfl) (hc:c:=by (repeat' refine And.intro ?_ ?_) <;> first | exact True.intro | omega | exact (rfl:_=_) | decide):X a w:=by
 simp only[fL]at hb;exact r.rn hb.1 hc E I k4 λa E=>yf E hq hb.2 hf λe V ⟨x,h1,h2⟩=>⟨_,h1,λa E=>h x a V E h2⟩
theorem aX (k:Nat)(E:Fr a n l)(I:U W w L)[r:Rn k n j0 [] L l X b c l1 (cH P os.toArray Q ⟨dst,.call ⟨ce,args.toArray,pA⟩,ty,ps,af,g⟩ K)][e:Gd os l1 g true][ev:oy P l1 ce args f vs][wi:sU n l1 dst bp F]
   (hq:Calls P f vs.toArray w λr V=>∃ x y,r=.returned (w2 x y)∧S2 x y V) (h:∀ x y a w,Fr a n (F (w2 x y))→S2 x y w→K a w) (hb:(b&&bp)=true:=by kernel_rfl) (hf:hE P f=true:=by kernel_rfl) (hc:c:=by (repeat' refine And.intro ?_ ?_) <;> first | exact True.intro | omega | exact (rfl:_=_) | decide):X a w:=by
 simp only[fL]at hb;exact r.rn hb.1 hc E I k4 λa E=>yf E hq hb.2 hf λe V ⟨x,y,h1,h2⟩=>⟨_,h1,λa E=>h x y a V E h2⟩
theorem j1 (k:Nat)(E:Fr a n l)(I:U W w L)[r:Rn k n j0 [] L l X b c l1 (cH P os.toArray Q ⟨dst,.call ⟨ce,args.toArray,pA⟩,ty,ps,af,g⟩ K)][e:Gd os l1 g true][ev:oy P l1 ce args f vs][wi:sU n l1 dst bp F]
   (hq:Calls P f vs.toArray w λr V=>∃ x y z,r=.returned (w3 x y z)∧S3 x y z V) (h:∀ x y z a w,Fr a n (F (w3 x y z))→S3 x y z w→K a w) (hb:(b&&bp)=true:=by kernel_rfl) (hf:hE P f=true:=by kernel_rfl) (hc:c:=by (repeat' refine And.intro ?_ ?_) <;> first | exact True.intro | omega | exact (rfl:_=_) | decide):X a w:=by
 simp only[fL]at hb;exact r.rn hb.1 hc E I k4 λa E=>yf E hq hb.2 hf λe V ⟨x,y,z,h1,h2⟩=>⟨_,h1,λa E=>h x y z a V E h2⟩
end
theorem j2 (k:Nat)(E:Fr a n l)(I:U W w L)[r:Rn k n j0 [] L l X b c l1 (cH P os.toArray Q ⟨dst,.call ⟨ce,args.toArray,pA⟩,ty,ps,af,g⟩ K)][e:Gd os l1 g true][ev:oy P l1 ce args f vs][wi:sU n l1 dst bp F]{Z:Ending→World→Prop}
   (hq:Calls P f vs.toArray w Z) (h:∀ e w,Z e w→∃ v,e=.returned v∧∀ a,Fr a n (F v)→K a w) (hb:(b&&bp)=true:=by kernel_rfl) (hf:hE P f=true:=by kernel_rfl) (hc:c:=by (repeat' refine And.intro ?_ ?_) <;> first | exact True.intro | omega | exact (rfl:_=_) | decide):X a w:=by
 simp only[fL]at hb;exact r.rn hb.1 hc E I k4 λa E=>yf E hq hb.2 hf h
variable {cs mn:List Value}{Aw:TypeId}{S:List SP}
theorem ST (k:Nat)(E:Fr a n l)(I:U W w L)[r:Rn k n j0 [] L l X b c l1 (cH P os.toArray Q ⟨none,.store t xo Av,ty,ps,af,g⟩ K)][rB:Gd os l1 g true][ev:Ev l1 xo (.pointer (some ⟨bb,off,none⟩))][um:Ev l1 Av v][hi:TI P t zv 1 a6][qn:Cells v [v]][o1:One v]
   [DE:fM L bb Aw cs S] [sc:ql cs off v mn] (h:∀ a w,Fr a n l1→U W w (aa bb Aw mn::S)→K a w) (hb:b=true:=by kernel_rfl) (hc:c:=by (repeat' refine And.intro ?_ ?_) <;> first | exact True.intro | omega | exact (rfl:_=_) | decide) (hlt:off<cs.length:=by first | exact Nat.afl rfl | omega | simp):X a w :=
 r.rn hb hc E I k4 λa E=>Ip E (rB.h E) I hi o1.h hlt h
theorem SA (k:Nat)(E:Fr a n l)(I:U W w L)[r:Rn k n j0 [] L l X b c l1 (cH P os.toArray Q ⟨none,.store t xo Av,ty,ps,af,g⟩ K)][rB:Gd os l1 g true][ev:Ev l1 xo (.pointer (some ⟨bb,0,none⟩))][um:Ev l1 Av v][hi:TI P t zv m a6][qn:Cells v vs][le:my vs m][o1:sV vs]
   [DE:fM L bb Aw cs S] [R6:my cs m] (h:∀ a w,Fr a n l1→U W w (aa bb Aw vs::S)→K a w) (hb:b=true:=by kernel_rfl) (hc:c:=by (repeat' refine And.intro ?_ ?_) <;> first | exact True.intro | omega | exact (rfl:_=_) | decide):X a w :=
 r.rn hb hc E I k4 λa E=>Qr E (rB.h E) I (by rw[le.h];exact hi) o1.h (by rw[le.h,R6.h]) h
theorem AL (k:Nat)(E:Fr a n l)(I:U W w L)[r:Rn k n j0 [] L l X b c l1 (cH P os.toArray Q ⟨some d,.alloc t,ty,ps,af,g⟩ K)][rB:Gd os l1 g true][hi:TI P t zv m a6][qn:Cells zv vs][q:gV l1 d l2]
   (h:∀ b a V,Fr a n ((d,.pointer (some ⟨b,0,none⟩))::l2)→U W V (aa b t vs::L)→K a V) (hb:(b&&okB d n l2)=true:=by kernel_rfl) (hc:c:=by (repeat' refine And.intro ?_ ?_) <;> first | exact True.intro | omega | exact (rfl:_=_) | decide):X a w:=by
 rw[fL]at hb;exact r.rn hb.1 hc E I k4 λa E=>e5 (E.del d) (rB.h E) I hi hb.2 λb a w E I _=>h b a w E I
theorem BX (k:Nat)(E:Fr a n l)(I:U W w L)[r:Rn k n j0 [] L l X b c l1 (cH P os.toArray Q ⟨some d,.box t xo,ty,ps,af,g⟩ K)][rB:Gd os l1 g true][ev:Ev l1 xo v][qn:Cells v vs][q:gV l1 d l2]
   (h:∀ b a V,Fr a n ((d,.pointer (some ⟨b,0,none⟩))::l2)→U W V (aa b t vs::L)→K a V) (hb:(b&&okB d n l2)=true:=by kernel_rfl) (hc:c:=by (repeat' refine And.intro ?_ ?_) <;> first | exact True.intro | omega | exact (rfl:_=_) | decide):X a w:=by
 rw[fL]at hb;refine r.rn hb.1 hc E I k4 λa E=>?_;have:=ev.ev a n E;refine bu (v:=.pointer (some ⟨w.heap.size,0,none⟩)) (V:=w.alloc (.cells vs.toArray t)) (E.del d) (rB.h E) ?_ hb.2 (λa' de=>h _ _ _ de (I.alloc _));simp[execOp,Instr.box,this,newVar,newRow,newObj,Sem.run,qn.h,Sem.run_bind]
theorem SX (k:Nat)(E:Fr a n l)(I:U W w L)[r:Rn k n j0 [] L l X b c l1 (cH P os.toArray Q ⟨some d,op,ty,ps,af,g⟩ K)][rB:Gd os l1 g true][s:Sx P L l1 op dD v][q:gV l1 d l2](h1:dD)
   (h:∀ a,Fr a n ((d,v)::l2)→K a w) (hb:(b&&okB d n l2)=true:=by kernel_rfl) (hc:c:=by (repeat' refine And.intro ?_ ?_) <;> first | exact True.intro | omega | exact (rfl:_=_) | decide):X a w:=by
 rw[fL]at hb;exact r.rn hb.1 hc E I k4 λa E=>bu (E.del d) (rB.h E) (s.ex h1 E (Lk.of I)) hb.2 h
theorem QP [p:ow os i ⟨some d,op,ty,ps,af,g⟩][pk:m6 Q][e:Gd os l g true][q:gV l d l1](E:Fr a n l)(hr:∀ w,(execOp a.eval ⟨some d,op,ty,ps,af,g⟩).run P w=.ok (.value v) w)
   (h:∀ a,Fr a n ((d,v)::l1)→gj P os.toArray Q C2 bg od fuel (mz m i) a w) (hb:(m1 os.toArray (lb os.toArray.size m) bg true i&&!bg.contains i&&okB d n l1)=true:=by kernel_rfl):gj P os.toArray Q C2 bg (i::od) (fuel+1) m a w:=by
 simp only[fL,Bool.not_eq_true']at hb;exact IQ (qw _ _ _) (by rw[getElem?_toArray];exact p.h) hb.1.1 hb.1.2 pk.h (E.del d) (e.h E) hr hb.2 h
theorem QH [p:ow os i ⟨some d,op,ty,ps,af,g⟩][pk:m6 Q][e:Gd os l g true][q:gV l d l1](E:Fr a n l)(hr:∀ w,C2 w→(execOp a.eval ⟨some d,op,ty,ps,af,g⟩).run P w=.ok (.value v) w)(hC:C2 w)
   (h:∀ a,Fr a n ((d,v)::l1)→gj P os.toArray Q C2 bg od fuel (mz m i) a w) (hb:(m1 os.toArray (lb os.toArray.size m) bg false i&&okB d n l1)=true:=by kernel_rfl):gj P os.toArray Q C2 bg ((i+3000)::od) (fuel+1) m a w:=by
 simp only[fL]at hb;exact IS (qw _ _ _) (by rw[getElem?_toArray];exact p.h) hb.1 pk.h (E.del d) (e.h E) hr hC hb.2 h
theorem a1 (k:Nat)(C:World→World→Prop)(bg od:List Nat)(E:Fr a n l)(I:U W w L)[r:Rn k n j0 [] L l X b c l1 ((Code.region i os.toArray true).wp P Q)][pk:m6 Q][yg:Au P]
   (h:∀ a w,Fr a n l1→U W w L→Hd (C w) []→gj P os.toArray Q (C w) bg od os.length 0 a w) (hb:b=true:=by kernel_rfl) (hc:c:=by (repeat' refine And.intro ?_ ?_) <;> first | exact True.intro | omega | exact (rfl:_=_) | decide):X a w :=
 r.rn hb hc E I k4 λa E=>Go.Proofs.YteoldcfapaiobaaGreat.DW (C w.drew) bg od yg.h pk.h (λ_=>h a _ E I.drew (Hd.any _)) List.size_toArray
theorem qy (k:Nat)(C:World→Prop)(bg od:List Nat)(E:Fr a n l)(I:U W w L)[r:Rn k n j0 [] L l X b c l1 ((Code.region i os.toArray true).wp P Q)][pk:m6 Q][yg:Au P]
   (h:∀ a,Fr a n l1→gj P os.toArray Q C bg od os.length 0 a w.drew) (hb:b=true:=by kernel_rfl) (hc:c:=by (repeat' refine And.intro ?_ ?_) <;> first | exact True.intro | omega | exact (rfl:_=_) | decide):X a w :=
 r.rn hb hc E I k4 λa E=>Go.Proofs.YteoldcfapaiobaaGreat.DW C bg od yg.h pk.h (λ_=>h a E) List.size_toArray
theorem bW (k:Nat)(bg od:List Nat)(E:Fr a n l)(I:U W w L)[r:Rn k n j0 [] L l X b c l1 ((Code.region i os.toArray true).wp P Q)][pk:m6 Q][yg:Au P]
   (h:∀ a w,Fr a n l1→U W w L→Hd (Old w) L→Old w w→gj P os.toArray Q (Old w) bg od os.length 0 a w) (hb:b=true:=by kernel_rfl) (hc:c:=by (repeat' refine And.intro ?_ ?_) <;> first | exact True.intro | omega | exact (rfl:_=_) | decide):X a w :=
 r.rn hb hc E I k4 λa E=>Go.Proofs.YteoldcfapaiobaaGreat.DW (Old w.drew) bg od yg.h pk.h (λ_=>h a _ E I.drew (Hd.fK I.drew) (Old.refl _)) List.size_toArray
end
section
variable {P:Program}{ops:Array Oper}{Q:Exit→Act→World→Prop}{C:World→Prop}{bg:List Nat}{fuel m:Nat}{a:Act}{w:World}
def yh (P:Program)(ops:Array Oper)(Q:Exit→Act→World→Prop)(C:World→Prop)(bg:List Nat)(fuel m:Nat)(a:Act)(w:World):List (Nat×List Nat)→Prop
 | []=>True
 | (i,od)::r=>(∃ o,ops[i]?=some o∧cH P ops Q o (CN (bg.contains i) C (gj P ops Q C bg od fuel (mz m i))) a w)∧yh P ops Q C bg fuel m a w r
theorem yh.get:∀ {l:List (Nat×List Nat)} {i:Nat},yh P ops Q C bg fuel m a w l→i∈l.map (·.1)→∃ (o:Oper) (od:List Nat),ops[i]?=some o∧cH P ops Q o (CN (bg.contains i) C (gj P ops Q C bg od fuel (mz m i))) a w
 | [],_,_,h=>by simp at h
 | (j,od)::r,i,⟨⟨o,h1,h2⟩,h3⟩,h=>by
  rw[map_cons]at h;rcases List.mem_cons.1 h with rfl | h
  ·exact⟨o,od,h1,h2⟩
  ·exact yh.get h3 h
theorem DN {od:List Nat}(l:List (Nat×List Nat))(hr:Region.ready .any ops (lb ops.size m)=l.map (·.1))(bT:l.isEmpty=false)(h:yh P ops Q C bg fuel m a w l):gj P ops Q C bg od (fuel+1) m a w:=by
 refine⟨λh0=>?_,λj hj=>?_⟩
 ·rw[hr]at h0;cases l with
  | nil=>cases bT
  | cons x r=>cases h0
 ·rw[hr]at hj;obtain⟨o,od,h1,h2⟩:=h.get hj;simp only[wpOp,h1,qw];exact h2
end
end
section
abbrev pt (b:Nat):Value:=.pointer (some ⟨b,0,none⟩)
theorem Hd.at {C:World→Prop}{L:List SP}(_:Hd C L)(w:World)(h:C w):C w:=h
theorem ae {P:Program}{a:Act}{w:World}{n:Nat}{l:List (Nat × Value)}{x ad t v dst ty ps af g}(E:Fr a n l)(hc:w.cell? ad=some v)[u:DH P t][ev:Ev l x (.pointer (some ad))]:(execOp a.eval ⟨dst,.load t x,ty,ps,af,g⟩).run P w=.ok (.value v) w:=by
 obtain ⟨et,h1,h2⟩:=u.h;exact Im E h1 h2 hc
theorem SS {P:Program}{ops:Array Oper}{Q:Exit→Act→World→Prop}{a:Act}{w:World}{K:Act→World→Prop}{n d:Nat}{l:List (Nat × Value)}{v:Value}{op ty ps af g}(E:Fr a n l)(hr:(execOp a.eval ⟨some d,op,ty,ps,af,g⟩).run P w=.ok (.value v) w)(h:∀ a',Fr a' n ((d,v)::l)→K a' w)(hw:Region.wanted ⟨some d,op,ty,ps,af,g⟩ (yielded ops a.tmps)=true:=by rfl)(hf:okB d n l=true:=by rfl):cH P ops Q ⟨some d,op,ty,ps,af,g⟩ K a w:=bu E hw hr hf h
end
section
instance Ty.t2:TI prog 2 (.int .i64 0) 1 8:=TI.of (by kernel_rfl)
instance Ty.t3:TI prog 3 (.int .i64 0) 1 8:=TI.of (by kernel_rfl)
instance Ty.t4:TI prog 4 (.bool false) 1 1:=TI.of (by kernel_rfl)
instance Ty.t5:TI prog 5 (.int .u8 0) 1 1:=TI.of (by kernel_rfl)
instance Ty.t9:TI prog 9 (.string ⟨#[]⟩) 1 16:=TI.of (by kernel_rfl)
instance Ty.t21:TI prog 21 (.int .i32 0) 1 4:=TI.of (by kernel_rfl)
instance Ty.t22:TI prog 22 (.slice none 0 0) 1 24:=TI.of (by kernel_rfl)
instance Ty.t28:TI prog 28 (.agg #[.int .i64 0,.int .i64 0,.int .i64 0,.int .i64 0,.int .i64 0,.int .i64 0,.int .i64 0,.int .i64 0,.int .i64 0,.int .i64 0]) 10 80:=TI.of (by kernel_rfl)
instance Ty.t34:TI prog 34 (.pointer none) 1 8:=TI.of (by kernel_rfl)
instance Ty.t35:TI prog 35 (.pointer none) 1 8:=TI.of (by kernel_rfl)
instance Ty.t36:TI prog 36 (.slice none 0 0) 1 24:=TI.of (by kernel_rfl)
instance Ty.t37:TI prog 37 (.slice none 0 0) 1 24:=TI.of (by kernel_rfl)
instance Ty.t38:TI prog 38 (.slice none 0 0) 1 24:=TI.of (by kernel_rfl)
instance Ty.t40:TI prog 40 (.agg #[.pointer none,.slice none 0 0,.slice none 0 0,.slice none 0 0]) 4 80:=TI.of (by kernel_rfl)
instance Ty.t42:TI prog 42 (.pointer none) 1 8:=TI.of (by kernel_rfl)
instance Ty.t43:TI prog 43 (.slice none 0 0) 1 24:=TI.of (by kernel_rfl)
instance Ty.t45:TI prog 45 (.agg #[.string ⟨#[]⟩,.slice none 0 0]) 2 40:=TI.of (by kernel_rfl)
instance Ty.t47:TI prog 47 (.agg #[.int .i64 0,.int .i64 0,.slice none 0 0]) 3 40:=TI.of (by kernel_rfl)
instance Ty.t49:TI prog 49 (.agg #[.int .i32 0,.int .i32 0,.int .i32 0,.int .i32 0,.int .i32 0,.int .i32 0,.int .i32 0,.int .i32 0,.int .i32 0,.int .i32 0,.int .i32 0,.int .i32 0,.int .i32 0,.int .i32 0,.int .i32 0,.int .i32 0,.int .i32 0,.int .i32 0,.int .i32 0,.int .i32 0,.int .i32 0,.int .i32 0,.int .i32 0,.int .i32 0,.int .i32 0,.int .i32 0,.int .i32 0,.int .i32 0,.int .i32 0,.int .i32 0,.int .i32 0,.int .i32 0]) 32 128:=TI.of (by kernel_rfl)
instance Ty.t51:TI prog 51 (.agg ((.pointer none::.string ⟨#[]⟩::.slice none 0 0::.int .i64 0::.int .i64 0::.slice none 0 0::.int .i32 0::.int .i32 0::.int .i32 0::.int .i32 0::.int .i32 0::.int .i32 0::.int .i32 0::.int .i32 0::.int .i32 0::.int .i32 0::.int .i32 0::.int .i32 0::.int .i32 0::.int .i32 0::.int .i32 0::.int .i32 0::.int .i32 0::.int .i32 0::.int .i32 0::.int .i32 0::.int .i32 0::.int .i32 0::.int .i32 0::.int .i32 0::.int .i32 0::.int .i32 0::.int .i32 0::.int .i32 0::.int .i32 0::.int .i32 0::.int .i32 0::.int .i32 0::[]):List Value).toArray) 38 216:=TI.of (by kernel_rfl)
instance Ty.t53:TI prog 53 (.slice none 0 0) 1 24:=TI.of (by kernel_rfl)
instance Ty.t58:TI prog 58 (.agg #[.int .i64 0,.int .i64 0,.int .i64 0,.int .i64 0]) 4 32:=TI.of (by kernel_rfl)
instance Ty.t60:TI prog 60 (.agg #[.int .i64 0,.int .i64 0,.slice none 0 0]) 3 40:=TI.of (by kernel_rfl)
instance Ty.t62:TI prog 62 (.pointer none) 1 8:=TI.of (by kernel_rfl)
instance Ty.t65:TI prog 65 (.agg #[.slice none 0 0]) 1 24:=TI.of (by kernel_rfl)
instance Ty.t66:TI prog 66 (.slice none 0 0) 1 24:=TI.of (by kernel_rfl)
instance Ty.t67:TI prog 67 (.slice none 0 0) 1 24:=TI.of (by kernel_rfl)
instance Ty.t68:TI prog 68 (.slice none 0 0) 1 24:=TI.of (by kernel_rfl)
instance Ty.t69:TI prog 69 (.slice none 0 0) 1 24:=TI.of (by kernel_rfl)
instance Ty.t70:TI prog 70 (.slice none 0 0) 1 24:=TI.of (by kernel_rfl)
instance Ty.t72:TI prog 72 (.agg #[.int .i64 0,.int .i64 0,.int .i64 0,.int .i64 0,.int .i64 0,.int .i64 0,.int .i64 0,.int .i64 0,.int .i64 0,.int .i64 0,.slice none 0 0,.int .i64 0,.slice none 0 0,.slice none 0 0,.slice none 0 0,.slice none 0 0,.slice none 0 0,.slice none 0 0,.bool false]) 19 264:=TI.of (by kernel_rfl)
instance Ty.t81:TI prog 81 (.nilIface) 1 16:=TI.of (by kernel_rfl)
instance Ty.t90:TI prog 90 (.slice none 0 0) 1 24:=TI.of (by kernel_rfl)
instance Ty.t100:TI prog 100 (.int .u32 0) 1 4:=TI.of (by kernel_rfl)
instance Ty.t102:TI prog 102 (.agg #[.int .i64 0,.int .i64 0,.int .i64 0]) 3 24:=TI.of (by kernel_rfl)
instance Ty.t104:TI prog 104 (.slice none 0 0) 1 24:=TI.of (by kernel_rfl)
instance Ty.t105:TI prog 105 (.slice none 0 0) 1 24:=TI.of (by kernel_rfl)
instance Ty.t107:TI prog 107 (.agg #[.slice none 0 0,.pointer none,.slice none 0 0]) 3 56:=TI.of (by kernel_rfl)
instance Ty.t108:TI prog 108 (.slice none 0 0) 1 24:=TI.of (by kernel_rfl)
instance Ty.t110:TI prog 110 (.agg #[.slice none 0 0]) 1 24:=TI.of (by kernel_rfl)
instance Ty.t114:TI prog 114 (.agg #[.int .i64 0,.int .i64 0,.int .i64 0,.int .i64 0]) 4 32:=TI.of (by kernel_rfl)
instance Ty.t124:TI prog 124 (.agg #[.int .i64 0,.int .i64 0,.slice none 0 0]) 3 40:=TI.of (by kernel_rfl)
instance Ty.t133:TI prog 133 (.nilIface) 1 16:=TI.of (by kernel_rfl)
instance Ty.t135:TI prog 135 (.agg #[.nilIface]) 1 16:=TI.of (by kernel_rfl)
instance Ty.t139:TI prog 139 (.pointer none) 1 8:=TI.of (by kernel_rfl)
instance Ty.t158:TI prog 158 (.pointer none) 1 8:=TI.of (by kernel_rfl)
instance Ty.t162:TI prog 162 (.pointer none) 1 8:=TI.of (by kernel_rfl)
instance Ty.t164:TI prog 164 (.agg (List.replicate 201 (.int .i64 0)).toArray) 201 1608:=TI.of (by kernel_rfl)
instance Ty.t166:TI prog 166 (.int .i64 0) 1 8:=TI.of (by kernel_rfl)
instance Ty.t168:TI prog 168 (.slice none 0 0) 1 24:=TI.of (by kernel_rfl)
instance Ty.t169:TI prog 169 (.pointer none) 1 8:=TI.of (by kernel_rfl)
instance Ty.t173:TI prog 173 (.pointer none) 1 8:=TI.of (by kernel_rfl)
instance Ty.t175:TI prog 175 (.slice none 0 0) 1 24:=TI.of (by kernel_rfl)
instance Ty.t177:TI prog 177 (.agg #[.pointer none,.string ⟨#[]⟩,.slice none 0 0,.pointer none,.pointer none,.pointer none,.slice none 0 0,.int .i64 0,.int .i64 0]) 9 112:=TI.of (by kernel_rfl)
instance Ty.t179:TI prog 179 (.pointer none) 1 8:=TI.of (by kernel_rfl)
instance Ty.t183:TI prog 183 (.agg #[.int .i32 0,.int .i32 0,.int .i32 0,.int .i32 0,.int .i32 0,.int .i32 0,.int .i32 0,.int .i32 0,.int .i32 0,.int .i32 0,.int .i32 0,.int .i32 0,.int .i32 0,.int .i32 0,.int .i32 0,.int .i32 0,.int .i32 0,.int .i32 0,.int .i32 0,.int .i32 0,.int .i32 0,.int .i32 0,.int .i32 0,.int .i32 0,.int .i32 0,.int .i32 0,.int .i32 0,.int .i32 0,.int .i32 0,.int .i32 0,.int .i32 0,.int .i32 0]) 32 128:=TI.of (by kernel_rfl)
instance Ty.t186:TI prog 186 (.agg #[.int .i64 0,.int .i64 0,.slice none 0 0]) 3 40:=TI.of (by kernel_rfl)
instance Ty.t187:TI prog 187 (.pointer none) 1 8:=TI.of (by kernel_rfl)
instance Ty.t192:TI prog 192 (.agg ((.pointer none::.string ⟨#[]⟩::.slice none 0 0::.int .i64 0::.int .i64 0::.slice none 0 0::.int .i32 0::.int .i32 0::.int .i32 0::.int .i32 0::.int .i32 0::.int .i32 0::.int .i32 0::.int .i32 0::.int .i32 0::.int .i32 0::.int .i32 0::.int .i32 0::.int .i32 0::.int .i32 0::.int .i32 0::.int .i32 0::.int .i32 0::.int .i32 0::.int .i32 0::.int .i32 0::.int .i32 0::.int .i32 0::.int .i32 0::.int .i32 0::.int .i32 0::.int .i32 0::.int .i32 0::.int .i32 0::.int .i32 0::.int .i32 0::.int .i32 0::.int .i32 0::[]):List Value).toArray) 38 216:=TI.of (by kernel_rfl)
instance Ty.t203:TI prog 203 (.agg #[.int .i64 0,.int .i64 0,.int .i64 0,.int .i64 0,.int .i64 0,.slice none 0 0,.int .i64 0,.int .i64 0,.int .u32 0]) 9 88:=TI.of (by kernel_rfl)
instance Ty.t207:TI prog 207 (.slice none 0 0) 1 24:=TI.of (by kernel_rfl)
instance Ty.t210:TI prog 210 (.agg #[.int .i64 0]) 1 8:=TI.of (by kernel_rfl)
instance Ty.t211:TI prog 211 (.agg #[.int .i64 0]) 1 8:=TI.of (by kernel_rfl)
instance Ty.t213:TI prog 213 (.agg #[.int .i64 0,.int .i64 0]) 2 16:=TI.of (by kernel_rfl)
instance Ty.t218:TI prog 218 (.map none) 1 8:=TI.of (by kernel_rfl)
instance Ty.t219:TI prog 219 (.pointer none) 1 8:=TI.of (by kernel_rfl)
instance Ty.t221:TI prog 221 (.agg #[.pointer none,.map none,.int .i64 0]) 3 24:=TI.of (by kernel_rfl)
instance Ty.t222:TI prog 222 (.slice none 0 0) 1 24:=TI.of (by kernel_rfl)
instance Ty.t224:TI prog 224 (.agg #[.slice none 0 0]) 1 24:=TI.of (by kernel_rfl)
instance Ty.t225:TI prog 225 (.agg #[.int .i32 0,.int .i32 0,.int .i32 0,.int .i32 0,.int .i32 0,.int .i32 0,.int .i32 0,.int .i32 0]) 8 32:=TI.of (by kernel_rfl)
instance Ty.t227:TI prog 227 (.agg #[.int .i32 0,.int .i32 0,.int .i32 0,.int .i32 0,.int .i32 0,.int .i32 0,.int .i32 0,.int .i32 0,.int .i64 0]) 9 40:=TI.of (by kernel_rfl)
instance Ty.t230:TI prog 230 (.agg #[.int .i64 0,.int .i64 0,.int .i64 0,.int .i64 0]) 4 32:=TI.of (by kernel_rfl)
instance Ty.t232:TI prog 232 (.agg #[.int .i64 0,.int .i64 0,.int .i64 0,.int .i64 0,.int .i64 0]) 5 40:=TI.of (by kernel_rfl)
instance Ty.t236:TI prog 236 (.agg #[.pointer none,.int .i64 0,.slice none 0 0,.int .i64 0,.int .i64 0]) 5 56:=TI.of (by kernel_rfl)
instance Ty.t238:TI prog 238 (.agg #[.int .i64 0,.int .i64 0,.slice none 0 0,.int .i64 0,.int .i64 0]) 5 56:=TI.of (by kernel_rfl)
instance Ty.t241:TI prog 241 (.slice none 0 0) 1 24:=TI.of (by kernel_rfl)
instance Ty.t243:TI prog 243 (.agg #[.slice none 0 0]) 1 24:=TI.of (by kernel_rfl)
instance Ty.t245:TI prog 245 (.agg #[.int .i64 0,.int .i64 0]) 2 16:=TI.of (by kernel_rfl)
instance Ty.t247:TI prog 247 (.agg #[.string ⟨#[]⟩,.slice none 0 0,.pointer none,.pointer none,.pointer none,.bool false,.int .i64 0,.int .i64 0,.int .i64 0,.int .i64 0,.bool false]) 11 112:=TI.of (by kernel_rfl)
instance Ty.t253:TI prog 253 (.pointer none) 1 8:=TI.of (by kernel_rfl)
instance Ty.t255:TI prog 255 (.slice none 0 0) 1 24:=TI.of (by kernel_rfl)
instance Ty.t257:TI prog 257 (.agg #[.int .i64 0,.int .i64 0,.int .i64 0,.int .i64 0,.int .i64 0,.int .i64 0,.int .i64 0,.int .i64 0,.int .i64 0,.int .i64 0,.pointer none,.slice none 0 0,.slice none 0 0,.slice none 0 0,.int .i64 0,.bool false]) 16 176:=TI.of (by kernel_rfl)
instance Ty.t259:TI prog 259 (.agg #[.int .i64 0,.int .i64 0,.int .i64 0,.int .u32 0,.bool false]) 5 32:=TI.of (by kernel_rfl)
instance Ty.t286:TI prog 286 (.slice none 0 0) 1 24:=TI.of (by kernel_rfl)
instance Ty.t288:TI prog 288 (.agg #[.slice none 0 0]) 1 24:=TI.of (by kernel_rfl)
instance Ty.t289:TI prog 289 (.pointer none) 1 8:=TI.of (by kernel_rfl)
instance Ty.t296:TI prog 296 (.agg ((.int .i32 0::.int .i32 0::.int .i32 0::.int .i32 0::.int .i32 0::.int .i32 0::.int .i32 0::.int .i32 0::.int .i32 0::.int .i32 0::.int .i32 0::.int .i32 0::.int .i32 0::.int .i32 0::.int .i32 0::.int .i32 0::.int .i32 0::.int .i32 0::.int .i32 0::.int .i32 0::.int .i32 0::.int .i32 0::.int .i32 0::.int .i32 0::.int .i32 0::.int .i32 0::.int .i32 0::.int .i32 0::.int .i32 0::.int .i32 0::.int .i32 0::.int .i32 0::[]):List Value).toArray) 32 128:=TI.of (by kernel_rfl)
instance Ty.t307:TI prog 307 (.agg #[.pointer none,.int .i64 0,.bool false]) 3 24:=TI.of (by kernel_rfl)
instance Ty.t313:TI prog 313 (.agg #[.int .i64 0,.int .u32 0]) 2 16:=TI.of (by kernel_rfl)
instance Ty.t320:TI prog 320 (.agg (List.replicate 256 (.int .i64 0)).toArray) 256 2048:=TI.of (by kernel_rfl)
instance Ty.t322:TI prog 322 (.agg (List.replicate 256 (.bool false)).toArray) 256 256:=TI.of (by kernel_rfl)
instance Ty.t328:TI prog 328 (.agg #[.slice none 0 0]) 1 24:=TI.of (by kernel_rfl)
instance Ty.t333:TI prog 333 (.nilIface) 1 16:=TI.of (by kernel_rfl)
instance Ty.t336:TI prog 336 (.agg #[.string ⟨#[]⟩,.slice none 0 0,.nilIface,.int .i64 0,.slice none 0 0,.int .i64 0]) 6 96:=TI.of (by kernel_rfl)
instance Ty.t345:TI prog 345 (.agg #[.int .i64 0,.int .i64 0,.int .i64 0,.int .i64 0]) 4 32:=TI.of (by kernel_rfl)
instance Ty.t423:TI prog 423 (.agg #[.int .u8 0,.int .u8 0]) 2 2:=TI.of (by kernel_rfl)
instance Ty.t427:TI prog 427 (.agg #[.slice none 0 0,.bool false]) 2 32:=TI.of (by kernel_rfl)
instance Ty.t429:TI prog 429 (.agg #[.int .i64 0,.int .i64 0,.int .i64 0]) 3 24:=TI.of (by kernel_rfl)
instance Ty.Jc:eE prog 28 [(0,1),(1,1),(2,1),(3,1),(4,1),(5,1),(6,1),(7,1),(8,1),(9,1)]:=⟨_,underlying28,λw=>by kernel_rfl⟩
instance Ty.Jd:eE prog 40 [(0,1),(1,1),(2,1),(3,1)]:=⟨_,underlying40,λw=>by kernel_rfl⟩
instance Ty.b45:eE prog 45 [(0,1),(1,1)]:=⟨_,underlying45,λw=>by kernel_rfl⟩
instance Ty.b47:eE prog 47 [(0,1),(1,1),(2,1)]:=⟨_,underlying47,λw=>by kernel_rfl⟩
instance Ty.R8:eE prog 51 [(0,1),(1,2),(3,3),(6,32)]:=⟨_,underlying51,λw=>by kernel_rfl⟩
instance Ty.b58:eE prog 58 [(0,1),(1,1),(2,1),(3,1)]:=⟨_,underlying58,λw=>by kernel_rfl⟩
instance Ty.R9:eE prog 60 [(0,1),(1,1),(2,1)]:=⟨_,underlying60,λw=>by kernel_rfl⟩
instance Ty.Sa:eE prog 65 [(0,1)]:=⟨_,underlying65,λw=>by kernel_rfl⟩
instance Ty.b72:eE prog 72 [(0,10),(10,1),(11,1),(12,1),(13,1),(14,1),(15,1),(16,1),(17,1),(18,1)]:=⟨_,underlying72,λw=>by kernel_rfl⟩
instance Ty.afm:eE prog 102 [(0,1),(1,1),(2,1)]:=⟨_,underlying102,λw=>by kernel_rfl⟩
instance Ty.afn:eE prog 107 [(0,1),(1,1),(2,1)]:=⟨_,underlying107,λw=>by kernel_rfl⟩
instance Ty.Sb:eE prog 110 [(0,1)]:=⟨_,underlying110,λw=>by kernel_rfl⟩
instance Ty.Sc:eE prog 114 [(0,1),(1,1),(2,1),(3,1)]:=⟨_,underlying114,λw=>by kernel_rfl⟩
instance Ty.afo:eE prog 124 [(0,1),(1,1),(2,1)]:=⟨_,underlying124,λw=>by kernel_rfl⟩
instance Ty.afp:eE prog 135 [(0,1)]:=⟨_,underlying135,λw=>by kernel_rfl⟩
instance Ty.afq:eE prog 177 [(0,1),(1,2),(3,1),(4,1),(5,1),(6,1),(7,1),(8,1)]:=⟨_,underlying177,λw=>by kernel_rfl⟩
instance Ty.afr:eE prog 186 [(0,1),(1,1),(2,1)]:=⟨_,underlying186,λw=>by kernel_rfl⟩
instance Ty.afs:eE prog 192 [(0,1),(1,2),(3,3),(6,32)]:=⟨_,underlying192,λw=>by kernel_rfl⟩
instance Ty.aft:eE prog 203 [(0,1),(1,1),(2,1),(3,1),(4,1),(5,1),(6,1),(7,1),(8,1)]:=⟨_,underlying203,λw=>by kernel_rfl⟩
instance Ty.afu:eE prog 210 [(0,1)]:=⟨_,underlying210,λw=>by kernel_rfl⟩
instance Ty.afv:eE prog 211 [(0,1)]:=⟨_,underlying211,λw=>by kernel_rfl⟩
instance Ty.afw:eE prog 213 [(0,1),(1,1)]:=⟨_,underlying213,λw=>by kernel_rfl⟩
instance Ty.afx:eE prog 221 [(0,1),(1,1),(2,1)]:=⟨_,underlying221,λw=>by kernel_rfl⟩
instance Ty.afy:eE prog 224 [(0,1)]:=⟨_,underlying224,λw=>by kernel_rfl⟩
instance Ty.afz:eE prog 227 [(0,8),(8,1)]:=⟨_,underlying227,λw=>by kernel_rfl⟩
instance Ty.afA:eE prog 236 [(0,1),(1,1),(2,1),(3,1),(4,1)]:=⟨_,underlying236,λw=>by kernel_rfl⟩
instance Ty.afB:eE prog 238 [(0,1),(1,1),(2,1),(3,1),(4,1)]:=⟨_,underlying238,λw=>by kernel_rfl⟩
instance Ty.afC:eE prog 243 [(0,1)]:=⟨_,underlying243,λw=>by kernel_rfl⟩
instance Ty.afD:eE prog 245 [(0,1),(1,1)]:=⟨_,underlying245,λw=>by kernel_rfl⟩
instance Ty.afE:eE prog 247 [(0,2),(2,1),(3,1),(4,1),(5,1),(6,2),(8,1),(9,1),(10,1)]:=⟨_,underlying247,λw=>by kernel_rfl⟩
instance Ty.afF:eE prog 257 [(0,10),(10,1),(11,1),(12,1),(13,1),(14,1),(15,1)]:=⟨_,underlying257,λw=>by kernel_rfl⟩
instance Ty.afG:eE prog 259 [(0,1),(1,1),(2,1),(3,1),(4,1)]:=⟨_,underlying259,λw=>by kernel_rfl⟩
instance Ty.afH:eE prog 288 [(0,1)]:=⟨_,underlying288,λw=>by kernel_rfl⟩
instance Ty.Sd:eE prog 296 [(0,32)]:=⟨_,underlying296,λw=>by kernel_rfl⟩
instance Ty.afI:eE prog 307 [(0,1),(1,1),(2,1)]:=⟨_,underlying307,λw=>by kernel_rfl⟩
instance Ty.afJ:eE prog 313 [(0,1),(1,1)]:=⟨_,underlying313,λw=>by kernel_rfl⟩
instance Ty.afK:eE prog 328 [(0,1)]:=⟨_,underlying328,λw=>by kernel_rfl⟩
instance Ty.afL:eE prog 336 [(0,2),(2,1),(3,1),(4,1),(5,1)]:=⟨_,underlying336,λw=>by kernel_rfl⟩
instance Ty.afM:eE prog 427 [(0,1),(1,1)]:=⟨_,underlying427,λw=>by kernel_rfl⟩
abbrev U2:=aI.of underlying2
abbrev U3:=aI.of underlying3
abbrev U4:=aI.of underlying4
abbrev U5:=aI.of underlying5
abbrev U9:=aI.of underlying9
abbrev Se:=aI.of underlying21
abbrev Sf:=aI.of underlying22
abbrev Sg:=aI.of underlying28
abbrev Sh:=aI.of underlying31
abbrev Si:=aI.of underlying33
abbrev Sj:=aI.of underlying34
abbrev Sk:=aI.of underlying35
abbrev Sm:=aI.of underlying36
abbrev Sp:=aI.of underlying37
abbrev Sq:=aI.of underlying38
abbrev Sr:=aI.of underlying40
abbrev Ss:=aI.of underlying42
abbrev St:=aI.of underlying43
abbrev Su:=aI.of underlying45
abbrev Sv:=aI.of underlying47
abbrev Sw:=aI.of underlying49
abbrev Sy:=aI.of underlying51
abbrev Sz:=aI.of underlying53
abbrev SB:=aI.of underlying54
abbrev SC:=aI.of underlying55
abbrev SD:=aI.of underlying58
abbrev SE:=aI.of underlying60
abbrev SF:=aI.of underlying62
abbrev SG:=aI.of underlying65
abbrev SH:=aI.of underlying66
abbrev SI:=aI.of underlying67
abbrev SJ:=aI.of underlying68
abbrev SL:=aI.of underlying69
abbrev SM:=aI.of underlying70
abbrev SN:=aI.of underlying72
abbrev SO:=aI.of underlying74
abbrev SQ:=aI.of underlying78
abbrev SR:=aI.of underlying81
abbrev SU:=aI.of underlying84
abbrev SV:=aI.of underlying90
abbrev SW:=aI.of underlying100
abbrev SY:=aI.of underlying102
abbrev SZ:=aI.of underlying104
abbrev S4:=aI.of underlying105
abbrev S5:=aI.of underlying107
abbrev S6:=aI.of underlying108
abbrev S7:=aI.of underlying110
abbrev S8:=aI.of underlying114
abbrev S9:=aI.of underlying124
abbrev Ta:=aI.of underlying133
abbrev Tb:=aI.of underlying135
abbrev Tc:=aI.of underlying139
abbrev Td:=aI.of underlying158
abbrev Te:=aI.of underlying160
abbrev Tf:=aI.of underlying162
abbrev Tg:=aI.of underlying164
abbrev Th:=aI.of underlying166
abbrev Ti:=aI.of underlying168
abbrev Tj:=aI.of underlying169
abbrev Tk:=aI.of underlying173
abbrev Tm:=aI.of underlying175
abbrev Tn:=aI.of underlying177
abbrev To:=aI.of underlying179
abbrev Tp:=aI.of underlying183
abbrev Tq:=aI.of underlying186
abbrev Ts:=aI.of underlying187
abbrev Tt:=aI.of underlying192
abbrev Tu:=aI.of underlying203
abbrev Tv:=aI.of underlying207
abbrev Tw:=aI.of underlying210
abbrev Tx:=aI.of underlying211
abbrev Tz:=aI.of underlying213
abbrev TA:=aI.of underlying218
abbrev TB:=aI.of underlying219
abbrev TC:=aI.of underlying221
abbrev TD:=aI.of underlying222
abbrev TF:=aI.of underlying224
abbrev TG:=aI.of underlying225
abbrev TH:=aI.of underlying227
abbrev TJ:=aI.of underlying230
abbrev TK:=aI.of underlying232
abbrev TL:=aI.of underlying233
abbrev TM:=aI.of underlying236
abbrev TO:=aI.of underlying238
abbrev TP:=aI.of underlying241
abbrev TQ:=aI.of underlying243
abbrev TS:=aI.of underlying245
abbrev TT:=aI.of underlying247
abbrev TU:=aI.of underlying253
abbrev TV:=aI.of underlying255
abbrev TW:=aI.of underlying257
abbrev TX:=aI.of underlying259
abbrev TY:=aI.of underlying270
abbrev TZ:=aI.of underlying286
abbrev T4:=aI.of underlying288
abbrev T5:=aI.of underlying289
abbrev T6:=aI.of underlying294
abbrev T7:=aI.of underlying296
abbrev T8:=aI.of underlying305
abbrev T9:=aI.of underlying307
abbrev Ua:=aI.of underlying313
abbrev Ub:=aI.of underlying314
abbrev Uc:=aI.of underlying319
abbrev Ud:=aI.of underlying320
abbrev Ue:=aI.of underlying322
abbrev Uf:=aI.of underlying328
abbrev Ug:=aI.of underlying333
abbrev Uh:=aI.of underlying336
abbrev Ui:=aI.of underlying343
abbrev Uj:=aI.of underlying345
abbrev Uk:=aI.of underlying351
abbrev Ul:=aI.of underlying366
abbrev Um:=aI.of underlying423
abbrev Un:=aI.of underlying427
abbrev Uo:=aI.of underlying429
attribute [instance] U2 U3 U4 U5 U9 Se Sf Sg Sh Si Sj Sk Sm Sp Sq Sr Ss St Su Sv Sw Sy Sz SB SC SD SE SF SG SH SI SJ SL SM SN SO SQ SR SU SV SW SY SZ S4 S5 S6 S7 S8 S9 Ta Tb Tc Td Te Tf Tg Th Ti Tj Tk Tm Tn To Tp Tq Ts Tt Tu Tv Tw Tx Tz TA TB TC TD TF TG TH TJ TK TL TM TO TP TQ TS TT TU TV TW TX TY TZ T4 T5 T6 T7 T8 T9 Ua Ub Uc Ud Ue Uf Ug Uh Ui Uj Uk Ul Um Un Uo
theorem Ty.mixed:prog.follows .mixedOrders=true:=by kernel_rfl
instance:Au prog:=⟨Ty.mixed⟩
end
section
theorem U.cr {W w:World}{L R:List SP}{n c e:Nat}{cs:List Value}(I:U W w L)(ad:Option Addr)(bs:List UInt8)[k:fk L ad n c e 1 cs R](h:cs=bc bs)(hn:bs.length=n):aL w ad n bs:=by
 subst h;refine⟨hn,λe=>?_,λx hx hp=>?_⟩
 ·rcases lD n with h0 | h0
  ·exact h0
  ·obtain⟨b,off,e2,_⟩:=I.bY ad h0;rw[e]at e2;cases e2
 ·obtain⟨b,off,e2,hr⟩:=I.bY ad hp;exact⟨b,off,by rw[hx]at e2;cases e2;rfl,hr⟩
theorem aL.nil {w:World}{ad:Option Addr}:aL w ad 0 []:=⟨rfl,λ_=>rfl,λ_ _ h=>absurd h (by decide)⟩
theorem aL.fK {W w:World}{L:List SP}{ad:Option Addr}{m:Nat}{bs:List UInt8}(h:aL W ad m bs)(I:U W w L):aL w ad m bs:=by
 refine⟨h.1,h.2.1,λx hx h0=>?_⟩;obtain⟨b,off,rfl,hr⟩:=h.2.2 x hx h0;refine⟨b,off,rfl,λj v hj=>?_⟩;have h1:=hr j v hj;rw[I.fK (a:=⟨b,off+j,none⟩) (World.block_lt_of_cell? _ _ h1)];exact h1
theorem pB (ad:Option Addr)(c sz:Nat):e6 ad 0 c sz=ad:=by
 unfold e6;split
 ·rfl
 ·cases ad with
  | none=>rfl
  | some a=>simp[Addr.add]
def k5 (w:World)(ad:Option Addr)(m:Nat)(p:List (List UInt8)):Prop :=
 p.length=m∧(0<m→∃ b off,ad=some ⟨b,off,none⟩∧∀ j bs,p[j]?=some bs→∃ au c',w.cell? ⟨b,off+j,none⟩=some (.slice au bs.length c')∧aL w au bs.length bs)
theorem k5.take {w:World}{ad:Option Addr}{m n:Nat}{p:List (List UInt8)}(h:k5 w ad m p)(hn:n≤m):k5 w ad n (p.take n):=by
 refine⟨by rw[dH,h.1];omega,λh0=>?_⟩;obtain⟨b,off,h1,h2⟩:=h.2 (by omega);refine⟨b,off,h1,λj bs hj=>?_⟩;rw[rh]at hj;by_cases qz:j<n
 ·rw[ak qz]at hj;exact h2 j bs hj
 ·rw[ag qz]at hj;cases hj
abbrev ef:=Option Addr×Nat×List UInt8
def aM (x:ef):Value:=.slice x.1 x.2.2.length x.2.1
def ba (x:ef):SP:=Sl 5 1 x.1 x.2.2.length x.2.1 (bc x.2.2)
def cd (ad:Option Addr)(n c:Nat)(p:List (List UInt8)):SP:=λh=>∃ xs:List ef,(xs.map (·.2.2)=p∧p.length=n)∧cp [Sl 22 1 ad n c (xs.map aM),ah ba xs] h
section
variable {W w:World}{L L' R:List SP}{ad:Option Addr}{n c:Nat}{p:List (List UInt8)}{xs:List ef}
theorem cd.open (I:U W w (cd ad n c p::L)):∃ xs:List ef,xs.map (·.2.2)=p∧p.length=n∧U W w (Sl 22 1 ad n c (xs.map aM)::ah ba xs::L):=by
 obtain⟨xs,⟨h1,h2⟩,h3⟩:=I.jL (ι:=List ef) (p:=λxs=>xs.map (·.2.2)=p∧p.length=n) (B:=λxs h=>cp [Sl 22 1 ad n c (xs.map aM),ah ba xs] h) (λh ⟨xs,h1,h2⟩=>⟨xs,h1,h2⟩);exact⟨xs,h1,h2,h3.open λ_ h=>h⟩
theorem cd.close (I:U W w L)[k:fN L (Sl 22 1 ad n c (xs.map aM)::ah ba xs::L') R](h1:xs.map (·.2.2)=p)(h2:p.length=n):U W w (cd ad n c p::L') :=
 U.shut (M:=[_,_]) (I.sub (M:=Sl 22 1 ad n c (xs.map aM)::ah ba xs::L')) (λ_ x=>⟨xs,⟨h1,h2⟩,x⟩)
theorem cd.le (I:U W w (cd ad n c p::L)):p.length=n∧n≤c:=by
 obtain⟨xs,h1,h2,h3⟩:=cd.open I;exact⟨h2,(h3.sl ad).2⟩
theorem cd.nil (I:U W w L):U W w (cd none 0 0 []::L):=by
 have h:U W w (Sl 22 1 none 0 0 (([]:List ef).map aM)::ah ba []::L):=(I.iZ (f:=ba)).bR 22 1 none;exact cd.close (xs:=[]) h rfl rfl
theorem cd.rd (I:U W w (cd ad n c p::L)):k5 w ad n p:=by
 obtain⟨xs,h1,h2,h3⟩:=cd.open I;refine⟨h2,λh0=>?_⟩;obtain⟨b,off,rfl,hr⟩:=h3.bY ad h0;refine⟨b,off,rfl,λj bs hj=>?_⟩;rw[← h1,bm]at hj;obtain⟨x,hx,rfl⟩:=rC.1 hj;obtain⟨b0,gX⟩:=aZ.1 hx;refine⟨x.1,x.2.1,hr j _ (by rw[bm,hx];rfl),?_⟩;have h4:=(h3.perm (cW _ _ _)).fo b0;rw[gX]at h4;have h5:U W w (Sl 5 1 x.1 x.2.2.length x.2.1 (bc x.2.2)::_):=h4;exact h5.cr x.1 x.2.2 rfl rfl
theorem sW {bs:List UInt8}{m:Nat}(I:U W w L)(hr:∀ V,U W V L→aL V ad m bs)(hb:m≤1099511627776) :
   Calls prog 95 #[.slice ad m c] w λe V=>∃ au c',e=.returned (.slice au m c')∧U W V (Sl 5 1 au m c' (bc bs)::L):=by
 obtain⟨h1,h2,h3⟩:=hr _ I;cases ad with
 | none =>
  obtain rfl:=h2 rfl;obtain rfl:bs=[]:=hG h1;refine EN func95 ntmps95 rfl rfl λa E=>?_;refine RN 6 E I λa E=>?_;replace E:=E.eG 4;refine RT 3 E I ?_;exact⟨_,_,rfl,I.bR _ _ _⟩
 | some a =>
  rcases lD m with h0 | h0
  ·subst h0;obtain rfl:bs=[]:=hG h1;refine EN func95 ntmps95 rfl rfl λa E=>?_;refine RN 6 E I λa E=>?_;replace E:=E.aK 4;refine RN 2 E I λa E=>?_;refine ux E rfl I underlying22 Ty.t5 rfl λb5 a w E I ho=>?_;clear ho;refine RN 1 E I λa E=>?_;refine DF E rfl underlying22 Ty.t5 rfl (bh _) λa E=>?_;refine RT 1 E I ?_;exact⟨_,_,rfl,I⟩
  ·obtain⟨b,off,rfl,_⟩:=h3 a rfl h0;refine EN func95 ntmps95 rfl rfl λa E=>?_;refine RN 6 E I λa E=>?_;replace E:=E.aK 4;refine RN 2 E I λa E=>?_;refine ux E rfl I underlying22 Ty.t5 rfl λb5 a w E I ho=>?_;clear ho;refine RN 1 E I λa E=>?_;obtain⟨b',dI,hx,dh⟩:=(hr _ I.tail).2.2 _ rfl h0;cases hx;refine cK E rfl I underlying22 Ty.t5 rfl rfl dh (by rw[dt,h1,fD]) (eF bs) h0 (by decide) (by omega) λsX rD a w E I=>?_;rw[ep]at E I;refine RT 1 E I ?_;exact⟨_,_,rfl,I⟩
theorem pC (a b:List UInt8):((⟨a.toArray⟩:ByteArray).data.toList==(⟨b.toArray⟩:ByteArray).data.toList)=(a==b):=rfl
theorem Je {a b:List UInt8}{ad2:Option Addr}{m n c2:Nat}(de:aL w ad m a)(lF:aL w ad2 n b) :
   Calls prog 313 #[.slice ad m c,.slice ad2 n c2] w λe V=>e=.returned (.bool (a==b))∧V=w:=by
 have I:=U.start w;refine EN func313 ntmps313 rfl rfl λa E=>?_;refine RN 4 E I λa E=>?_;refine SS E (ky E underlying22 underlying5 underlying9 (de)) λa E=>?_;refine RN 1 E I λa E=>?_;refine SS E (ky E underlying22 underlying5 underlying9 (lF)) λa E=>?_;refine RN 0 E I λa E=>?_;refine SS E (sO E) λa E=>?_;refine RT 1 E I ?_;exact⟨by rw[pC],rfl⟩
theorem Up {p q:List (List UInt8)}{k:Nat}{x y:List UInt8}(h:p.take k=q.take k)(hx:p[k]?=some x)(hy:q[k]?=some y):(p.take (k+1)=q.take (k+1))↔x=y:=by
 obtain⟨h1,rfl⟩:=aZ.1 hx;obtain⟨h2,rfl⟩:=aZ.1 hy;rw[jv h1,jv h2,h];exact⟨λe=>by have:=List.append_cancel_left e;simpa using this,λe=>by rw[e]⟩
theorem Uq {p q:List (List UInt8)}{ad2:Option Addr}{m c2:Nat}(hp:k5 w ad m p)(hq:k5 w ad2 m q)(hb:m≤1099511627776) :
   Calls prog 312 #[.slice ad m c,.slice ad2 m c2,.func (.func 313) #[] #[]] w λe V=>e=.returned (.bool (p==q))∧V=w:=by
 have eO:=hp.1;have Ur:=hq.1;obtain⟨W,yi⟩:∃ W,w=W:=⟨w,rfl⟩;have I:U W w []:=yi ▸ U.start w;refine EN func312 ntmps312 rfl rfl λa E=>?_;refine RN 9 E I λa E=>?_;rw[Ru]at E;replace E:=E.aK 14;refine RN 6 E I λa E=>?_;refine aQ (λμ a w=>∃ k:Nat,(μ=m-k∧k≤m∧p.take k=q.take k∧w=W)∧Fr a 32 [(1,.slice ad2 m c2),(2,.func (.func 313) #[] #[]),(15,.slice ad m c),(16,.int .i64 m),(17,.int .i64 k)]∧U W w []) (m) (⟨0,⟨by simp,by simp,by simp,yi⟩,E.ab [1,2,15,16,17],I⟩) ?_;clear E I;rintro μ a w ⟨k,⟨rfl,hk,D0,Ax⟩,E,I⟩;subst Ax yi;refine IF 3 E I (λao a E=>?_) λao a E=>?_
 ·
  refine RN 2 E I λa E=>?_;obtain⟨b1,o1,rfl,h1⟩:=hp.2 (by omega);obtain⟨b2,o2,rfl,h2⟩:=hq.2 (by omega);have eH:p[k]?=some p[k]:=aD (by omega);have da:q[k]?=some q[k]:=aD (by omega);obtain⟨df,c1',Us,eB⟩:=h1 k _ eH;obtain⟨dz,c2',Ut,eg⟩:=h2 k _ da;have Jf:=Up D0 eH da;refine RN 2 E I λa E=>?_;refine SS E (ae E (Us)) λa E=>?_;refine RN 6 E I λa E=>?_;refine SS E (ae E (Ut)) λa E=>?_;refine CL 5 E I (Je eB eg) λa w E hx=>?_;obtain rfl:=hx;refine IF 1 E (U.start _) (λay a E=>?_) λay a E=>?_
  ·
   have bT:¬ p[k]=q[k]:=by simpa using ay
   refine RT 2 E (U.start _) ?_;refine⟨?_,rfl⟩;have:(p==q)=false:=by
    rw[l3];intro e;exact bT (Jf.1 (by rw[e]))
   rw[this]
  have heq:p[k]=q[k]:=by simpa using ay
  refine RN 2 E (U.start _) λa E=>?_;exact⟨m-(k+1),by omega,k+1,⟨rfl,by omega,Jf.2 heq,rfl⟩,E.ab [1,2,15,16,17],U.start _⟩
 refine RT 2 E I ?_;obtain rfl:k=m:=by omega
 rw[fO (by omega),fO (by omega)]at D0;subst D0;exact⟨by rw[beq_self_eq_true],rfl⟩
def iH (w:World)(ad:Option Addr)(xs:List ef):Prop:=(0<xs.length→∃ b off,ad=some ⟨b,off,none⟩∧Rd w b off (xs.map aM))∧∀ x∈xs,aL w x.1 x.2.2.length x.2.2
theorem iH.bb (h:iH w ad xs):k5 w ad xs.length (xs.map (·.2.2)):=by
 refine⟨by simp,λh0=>?_⟩;obtain⟨b,off,h1,h2⟩:=h.1 h0;refine⟨b,off,h1,λj bs hj=>?_⟩;rw[bm]at hj;obtain⟨x,hx,rfl⟩:=rC.1 hj;exact⟨x.1,x.2.1,h2 j _ (by rw[bm,hx];rfl),h.2 x (bH hx)⟩
theorem U.mB {m:Nat}(I:U W w (Sl 22 1 ad m c (xs.map aM)::ah ba xs::L)):iH w ad xs:=by
 have hm:xs.length=m:=by have:=(I.sl ad).1;simpa using this
 refine⟨λh0=>I.bY ad (by omega),λx hx=>?_⟩;obtain⟨i,hi,rfl⟩:=List.mem_iff_getElem.1 hx;have h4:=(I.perm (cW _ _ _)).fo hi;have h5:U W w (Sl 5 1 xs[i].1 xs[i].2.2.length xs[i].2.1 (bc xs[i].2.2)::_):=h4;exact h5.cr xs[i].1 xs[i].2.2 rfl rfl
end
end
end Go.Proofs.YteoldcfapaiobaaGreat
