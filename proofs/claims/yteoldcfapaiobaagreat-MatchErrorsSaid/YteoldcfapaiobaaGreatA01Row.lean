/- Rows of structs: a list laid out flat, so many cells each. -/
import Derived.Test.YteoldcfapaiobaaGreatA00Sl
import Derived.Laws.RangeAny
import Derived.Laws.Strings
import Derived.Laws.MakeOwn
import Derived.KernelRfl
import Derived.Test.YteoldcfapaiobaaGreatProg
namespace Go.Proofs.YteoldcfapaiobaaGreat
open Tryz
open List (all_eq_true drop_zero take_succ_cons getElem?_take getElem?_drop set_eq_take_append_cons_drop perm_middle drop_drop take_append nil_append map_cons set_append_right set_append_left getElem?_cons_succ mem_range getElem?_toArray drop_eq_nil_of_le ext_getElem getElem_map eraseIdx_eq_take_drop_succ cons_append getElem_set_self eraseIdx_set_eq take_length append_nil)
open Go.RowKit
set_option linter.unusedVariables false
set_option linter.unusedSimpArgs false
set_option maxRecDepth 10000
set_option synthInstance.maxSize 4000
set_option synthInstance.maxHeartbeats 400000
section
theorem Ps {x:Int}:decide (x≠x)=false:=by simp
def rows {α:Type}(f:α→List Value)(l:List α):List Value:=l.flatMap f
section
variable {α:Type}{f:α→List Value}{sz:Nat}
theorem nG (x:α)(l:List α):rows f (x::l)=f x++rows f l:=rfl
theorem j5 (l m:List α):rows f (l++m)=rows f l++rows f m:=by simp[rows]
theorem yK (h1:∀ x,∀ v∈f x,v.oneCell'=true)(l:List α):∀ v∈rows f l,v.oneCell'=true:=by
 intro v hv;simp only[rows,List.mem_flatMap]at hv;obtain⟨x,_,hx⟩:=hv;exact h1 x v hx
theorem iT (hf:∀ x,(f x).length=sz)(l:List α):(rows f l).length=l.length*sz:=by
 induction l with
 | nil=>simp[rows]
 | cons x l ih=>rw[nG,aK,hf,ih,e9,Nat.succ_mul,Nat.add_comm]
theorem Hb (hf:∀ x,(f x).length=sz)(l:List α)(i:Nat):(rows f l).drop (i*sz)=rows f (l.drop i):=by
 induction i generalizing l with
 | zero=>simp
 | succ i ih =>
  cases l with
  | nil=>simp[rows]
  | cons x l=>rw[nG,Nat.succ_mul,Nat.add_comm,← drop_drop,List.drop_left' (hf x),ih,List.drop_succ_cons]
theorem Pt (hf:∀ x,(f x).length=sz)(l:List α)(i:Nat):(rows f l).take (i*sz)=rows f (l.take i):=by
 induction i generalizing l with
 | zero=>simp[rows]
 | succ i ih =>
  cases l with
  | nil=>simp[rows]
  | cons x l =>
   rw[nG,Nat.succ_mul,Nat.add_comm,take_append,hf,fX (by rw[hf];omega),show sz+i*sz-sz=i*sz from by omega,ih,take_succ_cons,nG]
theorem uS (hf:∀ x,(f x).length=sz)(l:List α)(i:Nat)(h:i<l.length):((rows f l).drop (i*sz)).take sz=f l[i]:=by
 rw[Hb hf,j6 h,nG,List.take_left' (hf _)]
theorem BI (hf:∀ x,(f x).length=sz)(l:List α){i k:Nat}{v:Value}(h:i<l.length)(hv:(f l[i])[k]?=some v):(rows f l)[i*sz+k]?=some v:=by
 have hk:k<sz:=by rw[← hf l[i]];exact (a1.1 hv).1
 have:=uS hf l i h;rw[← this,getElem?_take,al hk,getElem?_drop]at hv;exact hv
theorem Hc (hf:∀ x,(f x).length=sz)(l:List α){i:Nat}(x:α)(h:i<l.length):cC (rows f l) (i*sz) (f x)=rows f (l.set i x):=by
 rw[set_eq_take_append_cons_drop,al h,j5,nG,cC,Pt hf,hf,show i*sz+sz=(i+1)*sz from by rw[Nat.succ_mul],Hb hf,dw]
theorem pM (hf:∀ x,(f x).length=sz)(l:List α){i k:Nat}{v:Value}(x:α)(h:i<l.length)(hk:k<sz)(hx:(f l[i]).set k v=f x):(rows f l).set (i*sz+k) v=rows f (l.set i x):=by
 have h0:l=l.take i++l[i]::l.drop (i+1):=by rw[← j6 h,jz]
 have uT:l.set i x=l.take i++x::l.drop (i+1):=by rw[set_eq_take_append_cons_drop,al h]
 rw[uT,j5,nG]
 conv=>lhs;rw[h0,j5,nG]
 have hl:(rows f (l.take i)).length=i*sz:=by rw[iT hf];simp;rw[Nat.min_eq_left (by omega)]
 rw[set_append_right _ _ (by omega),hl,show i*sz+k-i*sz=k from by omega,set_append_left _ _ (by rw[hf];exact hk),hx]
theorem Pu (A B C vs:List Value)(k:Nat)(hk:k+vs.length≤B.length):cC (A++(B++C)) (A.length+k) vs=A++(cC B k vs++C):=by
 have e1:(A++(B++C)).take (A.length+k)=A++B.take k:=by
  rw[take_append,fX (by omega),show A.length+k-A.length=k from by omega,List.take_append_of_le_length (by omega)]
 have e2:(A++(B++C)).drop (A.length+k+vs.length)=B.drop (k+vs.length)++C:=by
  rw[List.drop_append,drop_eq_nil_of_le (by omega),show A.length+k+vs.length-A.length=k+vs.length from by omega,List.drop_append_of_le_length (by omega),nil_append]
 rw[cC,e1,e2,cC];simp only[dw]
theorem Pv (hf:∀ x,(f x).length=sz)(l:List α){i k:Nat}{vs:List Value}(x:α)(h:i<l.length)(hk:k+vs.length≤sz)(hx:cC (f l[i]) k vs=f x):cC (rows f l) (i*sz+k) vs=rows f (l.set i x):=by
 have h0:rows f l=rows f (l.take i)++(f l[i]++rows f (l.drop (i+1))):=by
  rw[← nG,← j5,← j6 h,jz]
 have uT:l.set i x=l.take i++x::l.drop (i+1):=by rw[set_eq_take_append_cons_drop,al h]
 have hl:(rows f (l.take i)).length=i*sz:=by rw[iT hf];simp;rw[Nat.min_eq_left (by omega)]
 rw[uT,j5,nG,h0,← hl,Pu _ _ _ _ _ (by rw[hf];exact hk),hx]
theorem Pw (hf:∀ x,(f x).length=sz)(l:List α){i k m:Nat}(h:i<l.length)(hk:k+m≤sz):((rows f l).drop (i*sz+k)).take m=((f l[i]).drop k).take m:=by
 have:=uS hf l i h;rw[← this,List.drop_take,List.take_take,drop_drop,Nat.min_eq_left (by omega)]
end
def fn (m:Nat)(g:Nat→Value):List Value:=(List.range m).map g
theorem He (m:Nat)(g:Nat→Value):(fn m g).length=m:=by simp[fn]
theorem Hf {m k:Nat}(g:Nat→Value)(h:k<m):(fn m g)[k]?=some (g k):=by simp[fn,h]
theorem BJ {m:Nat}{g g':Nat→Value}(h:∀ k,k<m→g k=g' k):fn m g=fn m g':=by
 simp only[fn];exact List.map_congr_left λk hk=>h k (mem_range.1 hk)
theorem Hg {m k:Nat}(g:Nat→Value)(v:Value):(fn m g).set k v=fn m (λj=>if j=k then v else g j):=by
 apply ext_getElem (by simp[fn]);intro i h1 h2;simp only[fn,List.getElem_set,getElem_map,List.getElem_range];by_cases h:k=i
 ·simp[h]
 ·rw[ae h,ae (λe=>h e.symm)]
theorem Px {m:Nat}{g:Nat→Value}(h:∀ k,(g k).oneCell'=true):∀ v∈fn m g,v.oneCell'=true:=by
 intro v hv;simp only[fn,c8]at hv;obtain⟨k,_,rfl⟩:=hv;exact h k
theorem Py {m k n:Nat}(g:Nat→Value)(h:k+n≤m):((fn m g).drop k).take n=fn n (λj=>g (k+j)):=by
 apply ext_getElem (by simp[fn];omega);intro i h1 h2;simp[fn]
def ca (g:Nat→Int)(c:Nat)(v:Int):Nat→Int:=λj=>if j=c then v else g j
def ints (k:IntKind)(m:Nat)(g:Nat→Int):List Value:=fn m (λj=>.int k (g j))
theorem di (k:IntKind)(m:Nat)(g:Nat→Int):(ints k m g).length=m:=He _ _
theorem fO {k:IntKind}{m j:Nat}(g:Nat→Int)(h:j<m):(ints k m g)[j]?=some (.int k (g j)):=Hf _ h
theorem td {k:IntKind}{m:Nat}{g:Nat→Int}:∀ v∈ints k m g,v.oneCell'=true:=Px λ_=>rfl
theorem ints_set {k:IntKind}{m j:Nat}(g:Nat→Int)(v:Int):(ints k m g).set j (.int k v)=ints k m (λi=>if i=j then v else g i):=by
 rw[ints,Hg];exact BJ λi _=>by by_cases h:i=j <;> simp[h]
theorem Pz {k:IntKind}{m j n:Nat}(g:Nat→Int)(h:j+n≤m):((ints k m g).drop j).take n=ints k n (λi=>g (j+i)):=Py _ h
theorem wJ {k:IntKind}{m:Nat}{g g':Nat→Int}(h:∀ j,j<m→g j=g' j):ints k m g=ints k m g':=BJ λj hj=>by rw[h j hj]
class uU (fM:List (List Value))(out:outParam (List Value)):Prop where h:fM.flatten=out
instance uU.nil:uU [] []:=⟨rfl⟩
instance uU.one {x fM out}[k:uU fM out]:uU ([x]::fM) (x::out):=⟨by rw[List.flatten_cons,k.h];rfl⟩
instance lO.ints {k m g}:lO (ints k m g) m:=⟨di k m g⟩
section
variable {P:Program}{ops:Array Oper}{Q:Exit→Act→World→Prop}{a:Act}{w w' W:World}{K:Act→World→Prop}{n d:Nat}{l:List (Nat×Value)}{v:Value}{L R:List SP}
theorem uV {x y k i j t u dst ty ps af g}(E:Fr a n l)(h:j≠0)(hi:k.wrap (i.tdiv j)=i.tdiv j)[e:Ev l x (.int k i)][f:Ev l y (.int k j)] :
   (execOp a.eval ⟨dst,.binOp .quo t x y u,ty,ps,af,g⟩).run P w=.ok (.value (.int k (i.tdiv j))) w:=by
 have:k.wrap (i.tdiv j)=i.tdiv j:=hi;simp[execOp,e.ev a n E,f.ev a n E,eqGuard,binOp,Op.intDiv,h,this]
theorem yL {x y k i j t u dst ty ps af g}(E:Fr a n l)(h:j≠0)[e:Ev l x (.int k i)][f:Ev l y (.int k j)] :
   (execOp a.eval ⟨dst,.binOp .rem t x y u,ty,ps,af,g⟩).run P w=.ok (.value (.int k (i.tmod j))) w:=by
 simp[execOp,e.ev a n E,f.ev a n E,eqGuard,binOp,Op.intDiv,h]
theorem qn (i:Nat)(j:Nat):(i:Int).tdiv (j:Int)=((i/j:Nat):Int):=by rw[Int.natCast_ediv,Int.tdiv_eq_ediv_of_nonneg (by omega)]
theorem nH (i:Nat)(j:Nat):(i:Int).tmod (j:Int)=((i%j:Nat):Int):=by rw[Int.natCast_emod,Int.tmod_eq_emod_of_nonneg (by omega)]
theorem rI {x y k i j vs t el m ef z aX dst ty ps af g}(E:Fr a n l)(hu:P.underlying t=some (.array m el))(hd:P.underlying el=some ef)(h1:nB ef=true)(hi:TI P el z 1 aX)
   [ev:Ev l x (.agg (List.toArray vs))] [gS:Ev l y (.int k i)] [nj:ei i j] (hlt:j<m) (hv:vs[j]?=some v) :
   (execOp a.eval ⟨dst,.index t x y,ty,ps,af,g⟩).run P w=.ok (.value v) w:=by
 have:=nj.h;subst this;have wK:(part el vs.toArray j).run P w=.ok v w:=by
  have BK:(isAgg el).run P w=.ok false w:=by
   simp only[isAgg,Sem.run_bind,eM hd,Result.andThen_ok];cases ef <;> first | rfl | (simp[nB]at h1)
  simp[part,BK,hv]
 simp[execOp,ev.ev a n E,gS.ev a n E,Instr.index,asIntOf,eM hu,lL hi,hlt,wK]
theorem PA {x b off m t el z sz aX dst ty ps af g}(E:Fr a n l)[ev:Ev l x (.pointer (some ⟨b,off,none⟩))](ht:P.underlying t=some (.array m el))(hi:TI P el z sz aX) :
   (execOp a.eval ⟨dst,.slice t x none none none,ty,ps,af,g⟩).run P w=.ok (.value (.slice (some ⟨b,off,none⟩) m m)) w:=by
 simp[execOp,ev.ev a n E,Instr.sliceAt,Instr.sliceBounds,eM ht,lL hi,Instr.sureAddr,kR]
theorem gd {x k k' i s t dst ty ps af g}(E:Fr a n l)(I:P.underlying s=some (.int k))(ht:P.underlying t=some (.int k'))[ev:Ev l x (.int k i)] :
   (execOp a.eval ⟨dst,.convert s t x,ty,ps,af,g⟩).run P w=.ok (.value (.int k' (k'.wrap i))) w:=by
 simp[execOp,ev.ev a n E,convert,eM I,eM ht,Conv.intToInt]
theorem oJ {x k k' i s t dst ty ps af g}(E:Fr a n l)(I:P.underlying s=some (.int k))(ht:P.underlying t=some (.int k'))(hw:k'.wrap i=i)[ev:Ev l x (.int k i)] :
   (execOp a.eval ⟨dst,.convert s t x,ty,ps,af,g⟩).run P w=.ok (.value (.int k' i)) w:=by
 rw[gd E I ht,hw]
theorem BL {t el m z zs sz aX PB yM be parts fM out dst ty ps af g}(E:Fr a n l)(hu:P.underlying t=some (.array m el))(hi:TI P t z sz aX)[Bz:Cells z zs](he:TI P el PB yM be)
   [rE:s8 l parts 0 fM] (hc:(fM.all λc=>c.length==yM)=true) (hz:zs.length=fM.length*yM) [iE:uU fM out] :
   (execOp a.eval ⟨dst,.build t (List.toArray parts),ty,ps,af,g⟩).run P w=.ok (.value (.agg out.toArray)) w:=by
 obtain⟨vs,e1,e2⟩:=rE.h a n E;have hf:=Bw (sz:=yM) fM vs 0 [] zs e2 (λc wF=>by simpa using all_eq_true.1 hc c wF) (by simp) hz;simp only[nil_append]at hf;rw[iE.h]at hf;simp only[execOp,Sem.run_bind,Instr.build,s5 hi,Result.andThen_ok,eM hu,lL he,Bz.h,List.map_toArray,e1];simp[hf]
theorem PC {x y b off m t el z sz aX k i j dst ty ps af g}(E:Fr a n l)[ev:Ev l x (.pointer (some ⟨b,off,none⟩))](ht:P.underlying t=some (.array m el))(hi:TI P el z sz aX)[gS:Ev l y (.int k i)][nj:ei i j](h:j<m) :
   (execOp a.eval ⟨dst,.slice t x (some y) none none,ty,ps,af,g⟩).run P w=.ok (.value (.slice (some ⟨b,off+j*sz,none⟩) (m-j) (m-j))) w:=by
 have:=nj.h;subst this;have h2:¬ (m=j):=by omega
 simp[execOp,ev.ev a n E,gS.ev a n E,Instr.sliceAt,Instr.sliceBounds,Instr.sliceBound,asIntOf,eM ht,lL hi,Instr.sureAddr,kR,Nat.le_of_lt h,h2]
theorem PD {x y t t2 el z sz aX b off m c b2 gG BM c2 k vs e cs ty ps af g}(E:Fr a n l)(hw:Region.wanted ⟨some d,.call ⟨.builtin .copy,#[x,y],#[t,t2]⟩,ty,ps,af,g⟩ (yielded ops a.tmps)=true)(I:V W w L)
   (ht:P.underlying t=some (.slice el)) (hi:TI P el z sz aX) (hf:okB d n l=true) [ev:Ev l x (.slice (some ⟨b,off,none⟩) m c)] [gS:Ev l y (.slice (some ⟨b2,gG,none⟩) BM c2)] [BD:fC L b e cs R]
   (hk:min BM m=k) (hr:Rd w b2 gG vs) (hl:vs.length=k*sz) (h1:∀ v∈vs,v.oneCell'=true) (hle:off+vs.length≤cs.length)
   (h:∀ a' w',Fr a' n ((d,.int .i64 k)::l)→V W w' (aa b e (cC cs off vs)::R)→K a' w'):cI P ops Q ⟨some d,.call ⟨.builtin .copy,#[x,y],#[t,t2]⟩,ty,ps,af,g⟩ K a w:=by
 obtain⟨i,kS,dK,kn,pG⟩:=info_parts hi.h;have gR:=I.jy b;have nC:∀ j v,vs[j]?=some v→w.cell? ((⟨b2,gG,none⟩:Addr).add j)=some v:=λj v hj=>by rw[kR];exact hr j v hj
 have iS:=run_firstCells_some (P:=P) w sz k ⟨b2,gG,none⟩ BM c2 vs hl nC;have aQ:=run_storeCells_at (P:=P) b off e vs 0 cs.toArray w gR.has.2 (by simpa using hle) h1;have qk:(storeCells ⟨b,off,none⟩ vs).run P w=.ok () (w.setRow b (cC cs off vs).toArray):=by simpa [cC] using aQ
 refine bz (v:=.int .i64 k) (w':=w.setRow b (cC cs off vs).toArray) E hw ?_ hf (λa' dg=>h a' _ dg gR.setRow);simp[execOp,resolve,ev.ev a n E,gS.ev a n E,invoke,builtin,Builtin.copy_,eM ht,sizeOf,typeInfo,kS,kn,Builtin.lenOf,hk,iS,qk,goInt]
end
def ah {α:Type}(f:α→SP)(l:List α):SP:=λh=>ck (l.map f) h
section
variable {α:Type}{f:α→SP}{W w:World}{L:List SP}
theorem rJ {β:Type}(l:List β){i:Nat}(h:i<l.length):l.Perm (l[i]::l.eraseIdx i):=by
 conv=>lhs;rw[← jz i l,j6 h]
 rw[eraseIdx_eq_take_drop_succ];exact perm_middle
theorem V.iG (I:V W w L):V W w (ah f []::L) :=
 ⟨I.below,let ⟨h,p,q⟩:=I.sat;⟨h,p,λ_=>none,h,λ_=>.inl rfl,λ_ _ e=>(by cases e),Hp.Sub.refl _,trivial,q⟩⟩
theorem V.fE {l:List α}(I:V W w (ah f l::L)){i:Nat}(h:i<l.length):V W w (f l[i]::ah f (l.eraseIdx i)::L):=by
 have h1:=I.open (M:=l.map f) (λ_ x=>x);have hp:=((rJ l h).map f).append_right L;have h2:=h1.perm hp;simp only[map_cons,cons_append]at h2;refine V.perm (L:=ah f (l.eraseIdx i)::f l[i]::L) ?_ (List.Perm.swap _ _ _);exact V.shut (M:=(l.eraseIdx i).map f) (h2.perm perm_middle.symm) (λ_ x=>x)
theorem V.uW {l:List α}{x:α}(I:V W w (f x::ah f l::L)):V W w (ah f (x::l)::L):=by
 have h1:=(I.perm (List.Perm.swap _ _ _)).open (M:=l.map f) (λ_ x=>x);exact V.shut (M:=(x::l).map f) (h1.perm perm_middle) (λ_ x=>x)
theorem V.Hh {l l':List α}(I:V W w (ah f l::L))(hp:l.Perm l'):V W w (ah f l'::L):=by
 have h1:=I.open (M:=l.map f) (λ_ x=>x);exact V.shut (M:=l'.map f) (h1.perm ((hp.map f).append_right L)) (λ_ x=>x)
theorem V.ko {l:List α}{x:α}{i:Nat}(h:i<l.length)(I:V W w (f x::ah f (l.eraseIdx i)::L)):V W w (ah f (l.set i x)::L):=by
 refine I.uW.Hh ?_;have hi:i<(l.set i x).length:=by simpa using h
 have:=rJ (l.set i x) hi;rw[getElem_set_self,eraseIdx_set_eq]at this;exact this.symm
theorem V.jB {l:List α}{x:α}(I:V W w (f x::ah f l::L)):V W w (ah f (l++[x])::L) :=
 I.uW.Hh (List.perm_append_comm (l₁:=[x]))
end
end
section
def oK (s:ByteArray)(pos:Nat):List Value:=if pos<s.size then [.bool true,.int .i64 pos,.int .i32 (Utf8.decode s pos).1] else [.bool false]
def dZ (s:ByteArray)(pos:Nat):Nat:=if pos<s.size then pos+(Utf8.decode s pos).2 else pos
theorem BN (s:ByteArray)(pos:Nat):(oK s pos)[0]?=some (.bool (decide (pos<s.size))):=by
 by_cases h:pos<s.size <;> simp[oK,h]
theorem PE {s:ByteArray}{pos:Nat}(h:pos<s.size):(oK s pos)[1]?=some (.int .i64 pos):=by simp[oK,h]
theorem BO {s:ByteArray}{pos:Nat}(h:pos<s.size):(oK s pos)[2]?=some (.int .i32 (Utf8.decode s pos).1):=by simp[oK,h]
section
variable {P:Program}{ops:Array Oper}{Q:Exit→Act→World→Prop}{a:Act}{w w' W:World}{K:Act→World→Prop}{o:Oper}{n d:Nat}{l:List (Nat×Value)}{v:Value}{L R:List SP}
theorem BQ {t x s ty ps af g}(E:Fr a n l)(hw:Region.wanted ⟨some d,.range t x,ty,ps,af,g⟩ (yielded ops a.tmps)=true)(I:V W w L)(ht:P.underlying t=some .string)[ev:Ev l x (.string s)]
   (hf:okB d n l=true) (h:∀ b a' w',Fr a' n ((d,.pointer (some ⟨b,0,none⟩))::l)→V W w' (km b (.stringIter s 0)::L)→Old w w'→K a' w'):cI P ops Q ⟨some d,.range t x,ty,ps,af,g⟩ K a w:=by
 refine bz (v:=.pointer (some ⟨w.heap.size,0,none⟩)) (w':=w.alloc (.stringIter s 0)) E hw ?_ hf (λa' dg=>h _ _ _ dg (I.alloc _) (Old.alloc _ _));have:=run_range_string (P:=P) w t s ht;simp[execOp,ev.ev a n E,this,World.iter]
class BR (L:List SP)(b:Nat)(o:outParam Obj)(R:outParam (List SP)):Prop where perm:L.Perm (km b o::R)
instance BR.head {L b o}:BR (km b o::L) b o L:=⟨List.Perm.refl _⟩
theorem BS {x s pos b ty ps af g}(E:Fr a n l)(hw:Region.wanted ⟨some d,.next x true,ty,ps,af,g⟩ (yielded ops a.tmps)=true)(I:V W w L)[ev:Ev l x (.pointer (some ⟨b,0,none⟩))][k:BR L b (.stringIter s pos) R]
   (hf:okB d n l=true) (h:∀ a' w',Fr a' n ((d,.tuple (List.toArray (oK s pos)))::l)→V W w' (km b (.stringIter s (dZ s pos))::R)→K a' w'):cI P ops Q ⟨some d,.next x true,ty,ps,af,g⟩ K a w:=by
 have nE:=I.perm k.perm;have hb:=nE.has.2;by_cases hp:pos<s.size
 ·have dy:=nE.ca (o':=.stringIter s (dZ s pos)) (w':={ w with heap:=w.heap.setIfInBounds b (.stringIter s (dZ s pos)) }) rfl rfl rfl rfl;refine bz (v:=.tuple (List.toArray (oK s pos))) (w':={ w with heap:=w.heap.setIfInBounds b (.stringIter s (dZ s pos)) }) E hw ?_ hf (λa' dg=>h a' _ dg dy);simp[execOp,ev.ev a n E,Instr.next,getObj,setObj,Sem.run,hb,hp,goInt,oK,dZ,Sem.run_bind]
 ·have e:dZ s pos=pos:=by simp[dZ,hp]
  refine bz (v:=.tuple (List.toArray (oK s pos))) (w':=w) E hw ?_ hf (λa' dg=>h a' _ dg (by rw[e];exact nE));simp[execOp,ev.ev a n E,Instr.next,getObj,Sem.run,hb,hp,oK,Sem.run_bind]
theorem PF {x s t dst ty ps af g}(E:Fr a n l)[ev:Ev l x (.string s)](hu:P.underlying t=some .string) :
   (execOp a.eval ⟨dst,.call ⟨.builtin .len,#[x],#[t]⟩,ty,ps,af,g⟩).run P w=.ok (.value (.int .i64 s.size)) w:=by
 simp[execOp,resolve,ev.ev a n E,invoke,builtin,Builtin.len_,eM hu,goInt]
theorem yN {x y s k i j t dst ty ps af g}(E:Fr a n l)(hu:P.underlying t=some .string)[ev:Ev l x (.string s)][gS:Ev l y (.int k i)][nj:ei i j](h:j<s.size) :
   (execOp a.eval ⟨dst,.index t x y,ty,ps,af,g⟩).run P w=.ok (.value (.int .u8 (s[j]'h).toNat)) w:=by
 have:=nj.h;subst this;have h2:=run_index_string (P:=P) w t s k (j:Int) hu;have h3:0≤(j:Int)∧(j:Int)<s.size:=by omega
 rw[dif_pos h3]at h2;simp[execOp,ev.ev a n E,gS.ev a n E,h2]
theorem BT {x y s k i j t dst ty ps af g}(E:Fr a n l)(hu:P.underlying t=some .string)[ev:Ev l x (.string s)][gS:Ev l y (.int k i)][nj:ei i j](h:j≤s.size) :
   (execOp a.eval ⟨dst,.slice t x (some y) none none,ty,ps,af,g⟩).run P w=.ok (.value (.string (s.extract j s.size))) w:=by
 have:=nj.h;subst this;have h2:=run_slice_string_l (P:=P) w t s hu k (j:Int) (by omega) (by omega);simp only[Int.toNat_natCast]at h2;simp[execOp,ev.ev a n E,gS.ev a n E,run_sliceAt_string (P:=P) (w:=w) t _ _ _ _ hu,h2]
theorem Hi {x y k i k' j jn t u dst ty ps af g}(E:Fr a n l)[e:Ev l x (.int k i)][f:Ev l y (.int k' j)][nj:ei j jn](h:jn≤k.bits) :
   (execOp a.eval ⟨dst,.binOp .shl t x y u,ty,ps,af,g⟩).run P w=.ok (.value (.int k (k.wrap (i*2 ^ jn)))) w:=by
 have:=nj.h;subst this;have h2:min jn k.bits=jn:=Nat.min_eq_left h;have h3:¬ ((jn:Int)<0):=by omega
 simp[execOp,e.ev a n E,f.ev a n E,eqGuard,binOp,Op.shift,h2,h3]
theorem PG {x y k i k' j jn t u dst ty ps af g}(E:Fr a n l)[e:Ev l x (.int k i)][f:Ev l y (.int k' j)][nj:ei j jn](h:jn≤k.bits) :
   (execOp a.eval ⟨dst,.binOp .shr t x y u,ty,ps,af,g⟩).run P w=.ok (.value (.int k (i.fdiv (2 ^ jn)))) w:=by
 have:=nj.h;subst this;have h2:min jn k.bits=jn:=Nat.min_eq_left h;have h3:¬ ((jn:Int)<0):=by omega
 simp[execOp,e.ev a n E,f.ev a n E,eqGuard,binOp,Op.shift,h2,h3]
theorem PH {x y k i j t u dst ty ps af g}(E:Fr a n l)[e:Ev l x (.int k i)][f:Ev l y (.int k j)] :
   (execOp a.eval ⟨dst,.binOp .or t x y u,ty,ps,af,g⟩).run P w=.ok (.value (.int k (k.wrap ((BitVec.ofInt k.bits i ||| BitVec.ofInt k.bits j).toNat)))) w:=by
 simp[execOp,e.ev a n E,f.ev a n E,eqGuard,binOp,Op.intBits]
theorem PI {x y k i j t u dst ty ps af g}(E:Fr a n l)[e:Ev l x (.int k i)][f:Ev l y (.int k j)] :
   (execOp a.eval ⟨dst,.binOp .and t x y u,ty,ps,af,g⟩).run P w=.ok (.value (.int k (k.wrap ((BitVec.ofInt k.bits i &&& BitVec.ofInt k.bits j).toNat)))) w:=by
 simp[execOp,e.ev a n E,f.ev a n E,eqGuard,binOp,Op.intBits]
theorem PJ {x y k i j t u dst ty ps af g}(E:Fr a n l)[e:Ev l x (.int k i)][f:Ev l y (.int k j)] :
   (execOp a.eval ⟨dst,.binOp .xor t x y u,ty,ps,af,g⟩).run P w=.ok (.value (.int k (k.wrap ((BitVec.ofInt k.bits i ^^^ BitVec.ofInt k.bits j).toNat)))) w:=by
 simp[execOp,e.ev a n E,f.ev a n E,eqGuard,binOp,Op.intBits]
theorem PK {x k i t dst ty ps af g}(E:Fr a n l)[e:Ev l x (.int k i)] :
   (execOp a.eval ⟨dst,.unOp .xor t x,ty,ps,af,g⟩).run P w=.ok (.value (.int k (k.wrap ((BitVec.ofInt k.bits (if k.signed then -1 else k.max) ^^^ BitVec.ofInt k.bits i).toNat)))) w:=by
 simp[execOp,e.ev a n E,Op.unary,Op.intBits]
theorem PL {x k i t dst ty ps af g}(E:Fr a n l)[e:Ev l x (.int k i)] :
   (execOp a.eval ⟨dst,.unOp .neg t x,ty,ps,af,g⟩).run P w=.ok (.value (.int k (k.wrap (0-i)))) w:=by
 simp[execOp,e.ev a n E,Op.unary,Op.intArith]
theorem Hj {x y k i j t u dst ty ps af g}(E:Fr a n l)(h:j≠0)[e:Ev l x (.int k i)][f:Ev l y (.int k j)] :
   (execOp a.eval ⟨dst,.binOp .quo t x y u,ty,ps,af,g⟩).run P w=.ok (.value (.int k (k.wrap (i.tdiv j)))) w:=by
 simp[execOp,e.ev a n E,f.ev a n E,eqGuard,binOp,Op.intDiv,h]
theorem PM {t t':TypeId} {ms}(ht:P.underlying t=some (.interface ms))(v:Value)(k:Nat):(Op.equalIn (k+1) t (.iface t' v) .nilIface).run P w=.ok false w:=by
 simp[Op.equalIn,eM ht]
theorem PN {x t v t' ms u dst ty ps af g}(E:Fr a n l)(ht:P.underlying t=some (.interface ms))[e:Ev l x (.iface t' v)] :
   (execOp a.eval ⟨dst,.binOp .eql t x (.const .nilIface) u,ty,ps,af,g⟩).run P w=.ok (.value (.bool false)) w:=by
 have hc:a.eval (.const .nilIface)=.nilIface:=rfl;have h2:(Op.equal t (.iface t' v) .nilIface).run P w=.ok false w:=PM ht v 9999;simp only[execOp,e.ev a n E,hc,Sem.run_bind];simp[eqGuard,binOp,h2]
theorem PO {x t ef dst ty ps af g}(E:Fr a n l)(ht:P.underlying t=some ef)(hd:(match ef with | .interface _=>false | _=>true)=true)[e:Ev l x v] :
   (execOp a.eval ⟨dst,.makeInterface t x,ty,ps,af,g⟩).run P w=.ok (.value (.iface t v)) w:=by
 cases ef <;> first | (simp at hd) | skip
 all_goals simp[execOp,e.ev a n E,Instr.makeInterface,eM ht]
def oL (P:Program)(t:TypeId)(name:String)(f:FuncId):Prop:=∀ (ad:Option Addr) (w:World),(method (P.types.size+Made.depth) t (.pointer ad) name).run P w=.ok (f,.pointer ad) w
theorem jl {x t ad name f args oM ty ps af g vs all}{X:Ending→World→Prop}(E:Fr a n l)(hw:Region.wanted ⟨some d,.call ⟨.invoke x name,List.toArray args,oM⟩,ty,ps,af,g⟩ (yielded ops a.tmps)=true)
   [ex:Ev l x (.iface t (.pointer ad))] (hm:oL P t name f) (hb:g5 P f=true) (hf:okB d n l=true) [ev:m5 l args vs] (hc:Calls P f (List.toArray all) w X) (hO:.pointer ad::vs=all)
   (h:∀ e w',X e w'→∃ v,e=.returned v∧∀ a',Fr a' n ((d,v)::l)→K a' w') :
   cI P ops Q ⟨some d,.call ⟨.invoke x name,List.toArray args,oM⟩,ty,ps,af,g⟩ K a w:=by
 subst hO;refine GI hw ?_ hc λe w' hx=>let ⟨v,he,hv⟩:=h e w' hx;⟨v,he,hv _ (E.put hf v)⟩;have h3:=hm ad w;simp[execOp,resolve,ex.ev a n E,invoke,callMethod,ev.ev a n E,h3,yF hb,program,Sem.run]
end
end
section
section
variable {P:Program}{a:Act}{w:World}{n:Nat}{l:List (Nat×Value)}{v:Value}
theorem Hk {x vs t f fs iE ef dst ty ps af g}(E:Fr a n l)(hu:P.underlying t=some (.struct fs))(hf:fs[f]?=some iE)(hd:P.underlying iE.type=some ef)(h1:nB ef=true)
   [ev:Ev l x (.agg (List.toArray vs))] (hv:vs[iE.offset]?=some v) :
   (execOp a.eval ⟨dst,.field t x f,ty,ps,af,g⟩).run P w=.ok (.value v) w:=by
 have wK:(part iE.type vs.toArray iE.offset).run P w=.ok v w:=by
  have BK:(isAgg iE.type).run P w=.ok false w:=by
   simp only[isAgg,Sem.run_bind,eM hd,Result.andThen_ok];cases ef <;> first | rfl | (simp[nB]at h1)
  simp[part,BK,hv]
 simp[execOp,ev.ev a n E,Instr.field,eM hu,hf,asAgg,wK]
end
end
section
section
variable {P:Program}{a:Act}{w W:World}{n:Nat}{l:List (Nat×Value)}{L R:List SP}
theorem BU {x u z3 k' wG i' wH j' na ad m c t el z sz aX dst ty ps af g}(E:Fr a n l)(ht:P.underlying t=some (.slice el))(hi:TI P el z sz aX)[ev:Ev l x (.slice ad m c)][s7:Ev l u (.int k' i')][BA:Ev l z3 (.int wG wH)]
   [wE:ei i' j'] [BB:ei wH na] (h':j'≤na) (O8:na≤c) :
   (execOp a.eval ⟨dst,.slice t x none (some u) (some z3),ty,ps,af,g⟩).run P w=.ok (.value (.slice (fm ad 0 na sz) j' na)) w:=by
 have kT:=wE.h;subst kT;have BC:=BB.h;subst BC;have e1:=(pI ht).1;have e2:=(pI ht).2;have:=run_slice_hm (P:=P) (w:=w) t ad m c e1 k' wG (j':Int) (na:Int) (by omega) (by omega) (by omega);rw[e2,lL hi]at this;simp only[Result.andThen_ok,Int.toNat_natCast]at this;simp[execOp,ev.ev a n E,s7.ev a n E,BA.ev a n E,run_sliceAt_slice (P:=P) (w:=w) t _ _ _ _ e1,this,sliced,fm]
theorem V.Hl {e sz k c:Nat}{cs:List Value}(I:V W w L)(ad:Option Addr)(m:Nat)[pk:fL L ad k c e sz cs R](hm:m≤k):V W w (Sl e sz (fm ad 0 m sz) m m (cs.take (m*sz))::R):=by
 have h1:=I.perm pk.perm;rcases Nat.eq_zero_or_pos m with h0 | h0
 ·subst h0;simpa using h1.tail.bH e sz (fm ad 0 0 sz)
 ·have hc:=(I.sl ad);obtain⟨b,pre,post,⟨g1,mA,qo,rK⟩,h2⟩:=h1.ln (by omega);subst qo;rw[oG (by omega),Nat.zero_mul,Nat.add_zero];have lR:m*sz≤cs.length:=by rw[g1];exact Nat.mul_le_mul_right _ hm
  rw[show pre++cs++post=pre++cs.take (m*sz)++(cs.drop (m*sz)++post) from by
   conv=>lhs;rw[← jz (m*sz) cs]
   simp only[dw]]at h2
  exact V.iF h2 (by rw[en];omega) (bh _) (by simp)
end
end
section
section
variable {P:Program}{ops:Array Oper}{Q:Exit→Act→World→Prop}{a:Act}{w w' W:World}{K:Act→World→Prop}{n d:Nat}{l:List (Nat×Value)}{L:List SP}
theorem cg {t el z sz aX x y k k' i j ty ps af g}(E:Fr a n l)(hw:Region.wanted ⟨some d,.makeSlice t x y,ty,ps,af,g⟩ (yielded ops a.tmps)=true)(I:V W w L)(ht:P.underlying t=some (.slice el))
   (hi:TI P el z sz aX) (hf:okB d n l=true) (hb:aX*j≤281474976710656) (hj:j≤9223372036854775807) [e:Ev l x (.int k i)] [e2:Ev l y (.int k' i)] [nj:ei i j]
   (h:∀ b a' w',Fr a' n ((d,.slice (some ⟨b,0,none⟩) j j)::l)→V W w' (aa b el (madeCells z.cells (j*sz)).toList::L)→Old w w'→K a' w') :
   cI P ops Q ⟨some d,.makeSlice t x y,ty,ps,af,g⟩ K a w:=by
 have PQ:=nj.h;subst PQ;obtain⟨Hm,kS,dK,kn,pG⟩:=info_parts hi.h;have PR:(Hm.bytes:Int)*(j:Int)≤281474976710656:=by
  rw[pG];have:((aX*j:Nat):Int)≤281474976710656:=by omega
  rwa [Int.natCast_mul]at this
 have hr:=run_make (P:=P) w t el Hm z ht kS dK k k' (j:Int) (j:Int) (by omega) (Int.le_refl _) PR (by omega);rw[Int.toNat_natCast,kn]at hr;refine bz (v:=.slice (some ⟨w.heap.size,0,none⟩) j j) (w':=w.alloc (.cells (madeCells z.cells (j*sz)) el)) E hw ?_ hf (λa' dg=>h _ _ _ dg (by
  have:=I.alloc (.cells (madeCells z.cells (j*sz)) el);simpa [aa] using this) (Old.alloc _ _))
 simp[execOp,e.ev a n E,e2.ev a n E,hr]
end
end
section
class te (os:List Oper)(j:Nat)(s:outParam Nat):Prop where h:(os[j]?).bind (·.dst)=some s
instance te.zero {s op ty ps af g r}:te (⟨some s,op,ty,ps,af,g⟩::r) 0 s:=⟨rfl⟩
instance te.succ {o r j s}[h:te r j s]:te (o::r) (j+1) s:=⟨by rw[getElem?_cons_succ];exact h.h⟩
class nI (os:List Oper)(j:Nat)(o:outParam Oper):Prop where h:os[j]?=some o
instance nI.zero {o r}:nI (o::r) 0 o:=⟨rfl⟩
instance nI.succ {x r j o}[h:nI r j o]:nI (x::r) (j+1) o:=⟨by rw[getElem?_cons_succ];exact h.h⟩
class GB (v:Value)(b:Bool)(r:outParam Bool):Prop where h:((match v with | .bool c=>Option.some c | _=>none)==Option.some b)=r
instance GB.acB:GB (.bool true) true true:=⟨rfl⟩
instance GB.acC:GB (.bool true) false false:=⟨rfl⟩
instance GB.acD:GB (.bool false) true false:=⟨rfl⟩
instance GB.acE:GB (.bool false) false true:=⟨rfl⟩
instance GB.u {b}:GB undef b false:=⟨rfl⟩
class Gd (os:List Oper)(l:List (Nat×Value))(g:Option (Nat×Bool))(r:outParam Bool):Prop where
 h:∀ {a n},Fr a n l→∀ {dst op ty ps af},Region.wanted ⟨dst,op,ty,ps,af,g⟩ (yielded os.toArray a.tmps)=r
instance Gd.none {os l}:Gd os l none true:=⟨λ_=>rfl⟩
instance Gd.some {os l j b s v r}[d:te os j s][k:fl l s v][x:GB v b r]:Gd os l (some (j,b)) r:=⟨λ{a n} E dst op ty ps af=>by
 have h1:=E.has _ k.mem;have h2:(os.toArray[j]?).bind (·.dst)=Option.some s:=by rw[getElem?_toArray];exact d.h
 rw[← x.h];simp only[Region.wanted,yielded,h2,Option.bind_some,h1];cases v <;> rfl⟩
class qp (p q:Prop)(r:outParam Prop):Prop where h:r→p∧q
instance qp.l {q}:qp True q q:=⟨λh=>⟨trivial,h⟩⟩
instance qp.r {p}:qp p True p:=⟨λh=>⟨h,trivial⟩⟩
instance (priority:=low) qp.b {p q}:qp p q (p∧q):=⟨id⟩
class rL (cs:List Value)(i:Nat)(v:outParam Value):Prop where h:cs[i]?=some v
instance rL.zero {v cs}:rL (v::cs) 0 v:=⟨rfl⟩
instance rL.succ {c cs i v}[h:rL cs i v]:rL (c::cs) (i+1) v:=⟨by rw[getElem?_cons_succ];exact h.h⟩
instance rL.apZ {v xs ys}:rL ((v::xs)++ys) 0 v:=⟨rfl⟩
class mB (o j sz:Nat)(r:outParam Nat):Prop where h:o+j*sz=r
instance (priority:=10) mB.any {o j sz}:mB o j sz (o+j*sz):=⟨rfl⟩
instance (priority:=20) mB.one {o j}:mB o j 1 (o+j):=⟨by rw[Nat.mul_one]⟩
instance (priority:=25) mB.at0 {o sz}:mB o 0 sz (o+0):=⟨by rw[Nat.zero_mul]⟩
instance (priority:=50) mB.acF {sz}:mB 0 0 sz 0:=⟨by rw[Nat.zero_mul]⟩
instance (priority:=30) mB.zero {j sz}:mB 0 j sz (j*sz):=⟨Nat.zero_add _⟩
instance (priority:=40) mB.both {j}:mB 0 j 1 j:=⟨by omega⟩
class aG (P:Program)(t:TypeId)(d:outParam TypeDesc):Prop where h:P.underlying t=some d
theorem aG.of {P:Program}{t:TypeId}{d:TypeDesc}(h:P.underlying t=some d):aG P t d:=⟨h⟩
class mC (d:TypeDesc)(r:outParam Bool):Prop where h:nB d=r
instance Ex.acG {P:Program} {l x v1 v2 v3} [Ev l x (.tuple #[v1,v2,v3])]:Ex P l (.extract x 0) v1:=⟨λ_ _ E _ _ _ _ _ _=>nF E rfl⟩
instance Ex.acH {P:Program} {l x v1 v2 v3} [Ev l x (.tuple #[v1,v2,v3])]:Ex P l (.extract x 1) v2:=⟨λ_ _ E _ _ _ _ _ _=>nF E rfl⟩
instance Ex.acI {P:Program} {l x v1 v2 v3} [Ev l x (.tuple #[v1,v2,v3])]:Ex P l (.extract x 2) v3:=⟨λ_ _ E _ _ _ _ _ _=>nF E rfl⟩
instance:mC .bool true:=⟨rfl⟩
instance:mC .string true:=⟨rfl⟩
instance {k}:mC (.int k) true:=⟨rfl⟩
instance {t}:mC (.pointer t) true:=⟨rfl⟩
instance {t}:mC (.slice t) true:=⟨rfl⟩
instance {t u}:mC (.map t u) true:=⟨rfl⟩
instance {p r b}:mC (.func p r b) true:=⟨rfl⟩
instance {m}:mC (.interface m) true:=⟨rfl⟩
instance {f}:mC (.struct f) false:=⟨rfl⟩
instance {m t}:mC (.array m t) false:=⟨rfl⟩
class BV (d:TypeDesc):Prop where h:(match d with | .interface _=>false | _=>true)=true
instance {t}:BV (.pointer t):=⟨rfl⟩
instance {f}:BV (.struct f):=⟨rfl⟩
class Hn (m:Nat)(k:outParam Nat):Prop where h:m=k+1
instance {k}:Hn (k+1) k:=⟨rfl⟩
class uX (fs:List Field)(f:Nat)(t k:outParam Nat):Prop where h:∃ iE,fs[f]?=some iE∧iE.type=t∧iE.offset=k
instance uX.zero {PS t k e PT pp kq r}:uX (⟨PS,t,k,e,PT,pp,kq⟩::r) 0 t k:=⟨_,rfl,rfl,rfl⟩
instance uX.succ {x r f t k}[h:uX r f t k]:uX (x::r) (f+1) t k:=⟨by rw[getElem?_cons_succ];exact h.h⟩
section
variable {P:Program}{t u el k sz aX f:Nat}{d:TypeDesc}{z:Value}{fs:List Field}
instance [h:aG P t (.pointer el)]:wI P t:=⟨_,h.h⟩
instance [h:aG P t (.slice el)]:BF P t:=⟨_,h.h⟩
instance [h:aG P t d][g:mC d true]:BG P t:=⟨_,h.h,g.h⟩
instance {m:Nat}[h:aG P t (.struct fs.toArray)][g:uX fs f u k][hi:TI P u z m aX][q:Hn m sz]:BH P t f k:=by
 obtain⟨iE,h1,h2,h3⟩:=g.h;rw[q.h]at hi;exact⟨_,iE,z,sz,aX,h.h,by rw[getElem?_toArray];exact h1,by rw[h2];exact hi,h3⟩
end
def Lk (L:List SP)(w:World):Prop:=∃ W w0,V W w0 L∧Old w0 w
theorem Lk.of {W w:World}{L:List SP}(I:V W w L):Lk L w:=⟨W,w,I,Old.refl _⟩
theorem Lk.nil (w:World):Lk [] w:=⟨w,w,V.start _,Old.refl _⟩
theorem Lk.bu {w:World}{L R:List SP}{b e off:Nat}{cs:List Value}{v:Value}(h:Lk L w)[k:fC L b e cs R](hv:cs[off]?=some v):w.cell? ⟨b,off,none⟩=some v:=by
 obtain⟨W,w0,I,ho⟩:=h;exact ho.cell (I.bu hv)
theorem Lk.pD {w:World}{L R:List SP}{b e off:Nat}{cs:List Value}(h:Lk L w)[k:fC L b e cs R](m:Nat){vs:List Value}[sc:lK cs off m vs]:Rd w b off vs:=by
 obtain⟨W,w0,I,ho⟩:=h;exact ho.rd (I.pD m)
instance lK.whole {cs m}[h:lO cs m]:lK cs 0 m cs:=⟨by rw[drop_zero,← h.h,take_length]⟩
class tf (ad:Option Addr)(r:outParam Bool):Prop where h:ad.isNone=r
instance tf.n:tf none true:=⟨rfl⟩
instance tf.s {a}:tf (some a) false:=⟨rfl⟩
instance (priority:=low) tf.any {ad}:tf ad ad.isNone:=⟨rfl⟩
theorem Ho {P:Program}{a:Act}{w:World}{n:Nat}{l:List (Nat×Value)}{fn:Func} {t u x v v2 v3}{X:Ending→World→Prop}(E:Fr a n l)(hr:fn.results=#[.tmp t,.tmp u,.tmp x])[k:fl l t v][k2:fl l u v2][k3:fl l x v3](h:X (.returned (.tuple #[v,v2,v3])) w):bodyPost P fn X .ret a w:=by
 refine bodyPost_ret ?_ E.defers h;have h1:=E.has _ k.mem;have h2:=E.has _ k2.mem;have h3:=E.has _ k3.mem;simp[results,hr,Array.getD_eq_getD_getElem?,h1,h2,h3]
theorem Fr.eo {a:Act}{n:Nat}{l l':List (Nat×Value)}(E:Fr a n l)(s:Nat){b:Bool}[k:fl l s (.bool b)][e:gQ l s l'](h:b=true:=by first | rfl | decide):Fr a n ((s,.bool true)::l') :=
 E.bool (s:=s) (λ_ h=>h) (λe _=>by rw[h]at e;cases e)
theorem Fr.aN {a:Act}{n:Nat}{l l':List (Nat×Value)}(E:Fr a n l)(s:Nat){b:Bool}[k:fl l s (.bool b)][e:gQ l s l'](h:b=false:=by first | rfl | decide):Fr a n ((s,.bool false)::l') :=
 E.bool (s:=s) (λe _=>by rw[h]at e;cases e) (λ_ h=>h)
class Sx (P:Program)(L:List SP)(l:List (Nat×Value))(op:Go.Op)(c:outParam Prop)(v:outParam Value):Prop where
 ex:c→∀ {a n w},Fr a n l→Lk L w→∀ {dst ty ps af g},(execOp a.eval ⟨dst,op,ty,ps,af,g⟩).run P w=.ok (.value v) w
section
variable {P:Program}{L R:List SP}{l:List (Nat×Value)}{x y z:Operand}{v u zv:Value}{k k':IntKind}{i j i':Int}{m m' qq c:Nat}{t t' el sz aX b off r:Nat}{ad:Option Addr}{s:ByteArray}{p q:Bool}{vs ws zs:List Value}
instance (priority:=high) Sx.of {op}[h:Ex P l op v]:Sx P L l op True v:=⟨λ_ _ _ _ E _ _ _ _ _ _=>h.ex _ _ E _ _ _ _ _ _⟩
instance Sx.acJ [Ev l x (.bool true)] [Ev l y v]:Sx P L l (.pick x y z) True v:=⟨λ_ _ _ _ E _ _ _ _ _ _=>N2 E⟩
instance Sx.acK [Ev l x (.bool false)] [Ev l z v]:Sx P L l (.pick x y z) True v:=⟨λ_ _ _ _ E _ _ _ _ _ _=>N3 E⟩
instance Sx.load {e cs} [Ev l x (.pointer (some ⟨b,off,none⟩))][u:BG P t] [fC L b e cs R][n:rL cs off v]:Sx P L l (.load t x) True v :=
 ⟨λ_ _ _ _ E I _ _ _ _ _=>by obtain⟨ef,h1,h2⟩:=u.h;exact GD E h1 h2 (I.bu n.h)⟩
instance Sx.acL {e cs d} [Ev l x (.pointer (some ⟨b,off,none⟩))][u:aG P t d][g:mC d false][hi:TI P t zv m aX] [fC L b e cs R] [lK cs off m vs][k:lO vs m]:Sx P L l (.load t x) True (.agg vs.toArray) :=
 ⟨λ_ _ _ _ E I _ _ _ _ _=>bO E u.h g.h (by rw[k.h];exact hi) (I.pD m)⟩
instance Sx.add [Ev l x (.int .i64 i)] [Ev l y (.int .i64 j)]:Sx P L l (.binOp .add t x y t') (-9223372036854775808≤i+j∧i+j≤9223372036854775807) (.int .i64 (i+j)) :=
 ⟨λh _ _ _ E _ _ _ _ _ _=>N5 E h.1 h.2⟩
instance Sx.sub [Ev l x (.int .i64 i)] [Ev l y (.int .i64 j)]:Sx P L l (.binOp .sub t x y t') (-9223372036854775808≤i-j∧i-j≤9223372036854775807) (.int .i64 (i-j)) :=
 ⟨λh _ _ _ E _ _ _ _ _ _=>N6 E h.1 h.2⟩
instance Sx.mul [Ev l x (.int .i64 i)] [Ev l y (.int .i64 j)]:Sx P L l (.binOp .mul t x y t') (-9223372036854775808≤i*j∧i*j≤9223372036854775807) (.int .i64 (i*j)) :=
 ⟨λh _ _ _ E _ _ _ _ _ _=>N7 E h.1 h.2⟩
instance (priority:=low) Sx.acM [Ev l x (.int k i)] [Ev l y (.int k j)]:Sx P L l (.binOp .add t x y t') (True) (.int k (k.wrap (i+j))):=⟨λ_ _ _ _ E _ _ _ _ _ _=>GA E⟩
instance (priority:=low) Sx.acN [Ev l x (.int k i)] [Ev l y (.int k j)]:Sx P L l (.binOp .sub t x y t') (True) (.int k (k.wrap (i-j))):=⟨λ_ _ _ _ E _ _ _ _ _ _=>yD E⟩
instance (priority:=low) Sx.acO [Ev l x (.int k i)] [Ev l y (.int k j)]:Sx P L l (.binOp .mul t x y t') (True) (.int k (k.wrap (i*j))):=⟨λ_ _ _ _ E _ _ _ _ _ _=>GC E⟩
instance Sx.rem [Ev l x (.int k i)] [Ev l y (.int k j)]:Sx P L l (.binOp .rem t x y t') (j≠0) (.int k (i.tmod j)):=⟨λg _ _ _ E _ _ _ _ _ _=>yL E g⟩
instance Sx.or [Ev l x (.int k i)] [Ev l y (.int k j)]:Sx P L l (.binOp .or t x y t') (True) (.int k (k.wrap ((BitVec.ofInt k.bits i ||| BitVec.ofInt k.bits j).toNat))):=⟨λ_ _ _ _ E _ _ _ _ _ _=>PH E⟩
instance Sx.and [Ev l x (.int k i)] [Ev l y (.int k j)]:Sx P L l (.binOp .and t x y t') (True) (.int k (k.wrap ((BitVec.ofInt k.bits i &&& BitVec.ofInt k.bits j).toNat))):=⟨λ_ _ _ _ E _ _ _ _ _ _=>PI E⟩
instance (priority:=low) Sx.xor [Ev l x (.int k i)] [Ev l y (.int k j)]:Sx P L l (.binOp .xor t x y t') (True) (.int k (k.wrap ((BitVec.ofInt k.bits i ^^^ BitVec.ofInt k.bits j).toNat))):=⟨λ_ _ _ _ E _ _ _ _ _ _=>PJ E⟩
instance Sx.acP {i j:UInt8} [Ev l x (.int .u8 (i.toNat:Int))] [Ev l y (.int .u8 (j.toNat:Int))]:Sx P L l (.binOp .xor t x y t') True (.int .u8 ((i ^^^ j).toNat:Int)):=⟨λ_ _ _ _ E _ _ _ _ _ _=>Pd E⟩
instance Sx.min {ta} [Ev l x (.int k i)] [Ev l y (.int k j)]:Sx P L l (.call ⟨.builtin .min,#[x,y],ta⟩) (True) (.int k (min i j)):=⟨λ_ _ _ _ E _ _ _ _ _ _=>O5 E⟩
instance Sx.max {ta} [Ev l x (.int k i)] [Ev l y (.int k j)]:Sx P L l (.call ⟨.builtin .max,#[x,y],ta⟩) (True) (.int k (max i j)):=⟨λ_ _ _ _ E _ _ _ _ _ _=>O6 E⟩
instance Sx.shl [Ev l x (.int k i)] [Ev l y (.int k' j)] [ei j m]:Sx P L l (.binOp .shl t x y t') (m≤k.bits) (.int k (k.wrap (i*2 ^ m))):=⟨λg _ _ _ E _ _ _ _ _ _=>Hi E g⟩
instance Sx.shr [Ev l x (.int k i)] [Ev l y (.int k' j)] [ei j m]:Sx P L l (.binOp .shr t x y t') (m≤k.bits) (.int k (i.fdiv (2 ^ m))):=⟨λg _ _ _ E _ _ _ _ _ _=>PG E g⟩
instance Sx.com [Ev l x (.int k i)]:Sx P L l (.unOp .xor t x) True (.int k (k.wrap ((BitVec.ofInt k.bits (if k.signed then -1 else k.max) ^^^ BitVec.ofInt k.bits i).toNat))):=⟨λ_ _ _ _ E _ _ _ _ _ _=>PK E⟩
instance Sx.neg [Ev l x (.int k i)]:Sx P L l (.unOp .neg t x) True (.int k (k.wrap (0-i))):=⟨λ_ _ _ _ E _ _ _ _ _ _=>PL E⟩
instance Sx.acQ [h:aG P t (.slice el)] [Ev l x (.slice ad m c)][q:tf ad p]:Sx P L l (.binOp .eql t x (.const (.slice none 0 0)) t') True (.bool p):=⟨λ_ _ _ _ E _ _ _ _ _ _=>by rw[← q.h];exact O9 E h.h⟩
instance Sx.acR [h:aG P t .string] [Ev l x (.string s)]:Sx P L l (.call ⟨.builtin .len,#[x],#[t]⟩) (True) (.int .i64 s.size):=⟨λ_ _ _ _ E _ _ _ _ _ _=>PF E h.h⟩
instance Sx.acS [h:aG P t .bool] [Ev l x (.bool p)] [Ev l y (.bool q)]:Sx P L l (.binOp .eql t x y t') (True) (.bool (p==q)):=⟨λ_ _ _ _ E _ _ _ _ _ _=>O3 E h.h⟩
instance Sx.acT [h:aG P t .bool] [Ev l x (.bool p)] [Ev l y (.bool q)]:Sx P L l (.binOp .neq t x y t') (True) (.bool (p != q)):=⟨λ_ _ _ _ E _ _ _ _ _ _=>O4 E h.h⟩
instance Sx.acU {fn xs ys} [m5 l xs vs] [m5 l ys ws]:Sx P L l (.makeFunc fn xs.toArray ys.toArray) (True) (.func fn vs.toArray ws.toArray):=⟨λ_ _ _ _ E _ _ _ _ _ _=>Oo E⟩
instance Sx.acV {d}[h:aG P t d][g:BV d] [Ev l x v]:Sx P L l (.makeInterface t x) (True) (.iface t v):=⟨λ_ _ _ _ E _ _ _ _ _ _=>PO E h.h (by have:=g.h;cases d <;> first | rfl | (simp at this))⟩
instance Sx.acW {ms}[h:aG P t (.interface ms)] [Ev l x (.iface m v)]:Sx P L l (.binOp .eql t x (.const .nilIface) t') (True) (.bool false):=⟨λ_ _ _ _ E _ _ _ _ _ _=>PN E h.h⟩
instance Sx.index [h:aG P t (.slice el)][hi:TI P el zv sz aX] [Ev l x (.slice (some ⟨b,off,none⟩) m c)] [Ev l y (.int k i)] [ei i m'][q:mB off m' sz r]:Sx P L l (.indexAddr t x y) (m'<m) (.pointer (some ⟨b,r,none⟩)):=⟨λg _ _ _ E _ _ _ _ _ _=>by rw[← q.h];exact GH E h.h hi g⟩
instance Sx.acX [h:aG P t (.array m el)][hi:TI P el zv sz aX] [Ev l x (.pointer (some ⟨b,off,none⟩))] [Ev l y (.int k i)] [ei i m'][q:mB off m' sz r]:Sx P L l (.indexAddr t x y) (m'<m) (.pointer (some ⟨b,r,none⟩)):=⟨λg _ _ _ E _ _ _ _ _ _=>by rw[← q.h];exact Om E h.h hi g⟩
instance Sx.acY [h:aG P t (.slice el)][hi:TI P el zv sz aX] [Ev l x (.slice ad m c)] [Ev l y (.int k i)] [ei i m']:Sx P L l (.slice t x (some y) none none) (m'≤m) (.slice (fm ad m' c sz) (m-m') (c-m')):=⟨λg _ _ _ E _ _ _ _ _ _=>OD E h.h hi g⟩
instance Sx.acZ [h:aG P t (.slice el)][hi:TI P el zv sz aX] [Ev l x (.slice ad m c)] [Ev l y (.int k i)] [ei i m']:Sx P L l (.slice t x none (some y) none) (m'≤c) (.slice (fm ad 0 c sz) (m'-0) (c-0)):=⟨λg _ _ _ E _ _ _ _ _ _=>OE E h.h hi g⟩
instance Sx.ac0 [h:aG P t (.slice el)][hi:TI P el zv sz aX] [Ev l x (.slice ad m c)] [Ev l y (.int k i)] [ei i m'] [Ev l z (.int k' i')] [ei i' qq]:Sx P L l (.slice t x (some y) (some z) none) (m'≤qq∧qq≤c) (.slice (fm ad m' c sz) (qq-m') (c-m')):=⟨λg _ _ _ E _ _ _ _ _ _=>OF E h.h hi g.1 g.2⟩
instance Sx.ac1 [h:aG P t (.slice el)][hi:TI P el zv sz aX] [Ev l x (.slice ad m c)] [Ev l y (.int k i)] [ei i m'] [Ev l z (.int k' i')] [ei i' qq]:Sx P L l (.slice t x none (some y) (some z)) (m'≤qq∧qq≤c) (.slice (fm ad 0 qq sz) m' qq):=⟨λg _ _ _ E _ _ _ _ _ _=>BU E h.h hi g.1 g.2⟩
instance Sx.ac2 [h:aG P t (.array m el)][hi:TI P el zv sz aX] [Ev l x (.pointer (some ⟨b,off,none⟩))]:Sx P L l (.slice t x none none none) (True) (.slice (some ⟨b,off,none⟩) m m):=⟨λ_ _ _ _ E _ _ _ _ _ _=>PA E h.h hi⟩
instance Sx.conv [h:aG P t (.int k)][q:aG P t' (.int k')] [Ev l x (.int k i)]:Sx P L l (.convert t t' x) (k'.wrap i=i) (.int k' i):=⟨λg _ _ _ E _ _ _ _ _ _=>oJ E h.h q.h g⟩
instance Sx.build {j4 parts}[hb:ej P t j4][hi:TI P t zv sz aX] [Cells zv zs] [s9 j4 zs l parts vs]:Sx P L l (.build t (List.toArray parts)) ((j4.all λp=>Nat.ble (p.1+p.2) zs.length)=true) (.agg vs.toArray):=⟨λg _ _ _ E _ _ _ _ _ _=>G9 E hb hi g⟩
end
def Hd (C:World→Prop)(L:List SP):Prop:=∀ w',C w'→Lk L w'
theorem Hd.any (C:World→Prop):Hd C []:=λw' _=>Lk.nil w'
theorem Hd.gq {W w:World}{L:List SP}(I:V W w L):Hd (Old w) L:=λ_ h=>⟨W,w,I,h⟩
def CN (b:Bool)(C:World→Prop)(K:Act→World→Prop):Act→World→Prop:=λa w=>(b=true→C w)∧K a w
def rM (X:Ending→World→Prop)(v:Value):Act→World→Prop:=λ_ w=>X (.returned v) w
def qs (P:Program)(rs:List ResultVar)(X:Ending→World→Prop):Exit→Act→World→Prop:=λe a w=>∀ fn:Func,fn.results=rs.toArray→bodyPost P fn X e a w
class mD (Q:Exit→Act→World→Prop):Prop where h:kU Q
instance {K Q}[h:mD Q]:mD (Exit.then K Q):=⟨OJ h.h⟩
instance {i Q}[h:mD Q]:mD (Exit.inBlock i Q):=⟨OK h.h⟩
instance {P rs X}:mD (qs P rs X):=⟨λc a o v w h fn hr=>OL c a o v w (h fn hr)⟩
class yO (P:Program):Prop where h:P.follows .mixedOrders=true
class Rn (k n:Nat)(C:World→Prop)(L0 L:List SP)(l:List (Nat×Value))(X:Act→World→Prop)(b:outParam Bool)(c:outParam Prop)(l':outParam (List (Nat×Value)))(Y:outParam (Act→World→Prop)):Prop where
 rn:b=true→c→∀ {a W w},Fr a n l→V W w L→Hd C L0∧C w→(∀ a,Fr a n l'→Y a w)→X a w
class Way (v:Value)(x y:Code)(z:outParam Code):Prop where h:∃ b,v=.bool b∧z=if b then x else y
instance {x y}:Way (.bool true) x y x:=⟨true,rfl,rfl⟩
instance {x y}:Way (.bool false) x y y:=⟨false,rfl,rfl⟩
def BW (os:List Oper)(m i:Nat):Bool:=match Region.ready .any os.toArray (lb os.toArray.size m) with | [j]=>Nat.beq j i | _=>false
theorem PU {os:List Oper}{m i:Nat}(h:BW os m i=true):Region.ready .any os.toArray (lb os.toArray.size m)=[i]:=by
 unfold BW at h;split at h
 ·rename_i j e;rw[e,Nat.eq_of_beq_eq_true h]
 ·cases h
def PV (os:List Oper)(m:Nat):Bool:=(Region.ready .any os.toArray (lb os.toArray.size m)).isEmpty
section
variable {P:Program}{k n d i j m fuel:Nat}{C C2:World→Prop}{L0 L:List SP}{l l1 l':List (Nat×Value)}{X Y K:Act→World→Prop}{b b2:Bool}{c eF c2:Prop}{os rest:List Oper}{Q:Exit→Act→World→Prop}{op:Go.Op}{v:Value}{ty:TypeId}{ps:String}{af:Array Edge}{g:Option (Nat×Bool)}{x y z:Code}{o:Operand}{bk od:List Nat}
instance (priority:=1) Rn.stop:Rn 0 n C L0 L l X true True l X:=⟨λ_ _ _ _ _ E _ _ h=>h _ E⟩
instance Rn.oper [e:Gd os l g true][s:Sx P L l op eF v][q:gQ l d l1][r:Rn k n C L0 L ((d,v)::l1) K b2 c2 l' Y][p:qp eF c2 c] :
   Rn (k+1) n C L0 L l (cI P os.toArray Q ⟨some d,op,ty,ps,af,g⟩ K) (okB d n l1&&b2) c l' Y:=⟨λhb hc a W w E I hx h=>by
 rw[fB]at hb;obtain⟨h1,h2⟩:=p.h hc;exact bz (E.del d) (e.h E) (s.ex h1 E (Lk.of I)) hb.1 λa E=>r.rn hb.2 h2 E I hx h⟩
instance Rn.off {jb}[e:Gd os l (some jb) false][q:gQ l d l1][r:Rn k n C L0 L ((d,undef)::l1) K b2 c l' Y] :
   Rn (k+1) n C L0 L l (cI P os.toArray Q ⟨some d,op,ty,ps,af,some jb⟩ K) (okB d n l1&&b2) c l' Y:=⟨λhb hc a W w E I hx h=>by
 rw[fB]at hb;exact NY (E.del d) (e.h E) hb.1 λa E=>r.rn hb.2 hc E I hx h⟩
instance Rn.cons {ops}{o:Oper}[r:Rn k n C L0 L l (cI P ops Q o (wpList P ops Q rest)) b c l' Y]:Rn k n C L0 L l (wpList P ops Q (o::rest)) b c l' Y:=⟨λhb hc _ _ _ E I hx h=>(r.rn hb hc E I hx h)⟩
instance Rn.nil {ops}[r:Rn k n C L0 L l (Q .normal) b c l' Y]:Rn k n C L0 L l (wpList P ops Q []) b c l' Y:=⟨λhb hc _ _ _ E I hx h=>Pf (r.rn hb hc E I hx h)⟩
instance Rn.seq [r:Rn k n C L0 L l (x.wp P (Exit.then (y.wp P Q) Q)) b c l' Y]:Rn (k+1) n C L0 L l ((Code.seq x y).wp P Q) b c l' Y:=⟨λhb hc _ _ _ E I hx h=>wp_seq (r.rn hb hc E I hx h)⟩
instance Rn.region {id}[r:Rn k n C L0 L l (wpList P os.toArray Q os) b c l' Y]:Rn k n C L0 L l ((Code.region id os.toArray false).wp P Q) b c l' Y:=⟨λhb hc _ _ _ E I hx h=>wp_region_lit (r.rn hb hc E I hx h)⟩
instance Rn.skip [r:Rn k n C L0 L l (Q .normal) b c l' Y]:Rn k n C L0 L l (Code.skip.wp P Q) b c l' Y:=⟨λhb hc _ _ _ E I hx h=>wp_skip (r.rn hb hc E I hx h)⟩
instance Rn.block [r:Rn k n C L0 L l (x.wp P (Exit.inBlock i Q)) b c l' Y]:Rn k n C L0 L l ((Code.block i x).wp P Q) b c l' Y:=⟨λhb hc _ _ _ E I hx h=>wp_block (r.rn hb hc E I hx h)⟩
instance Rn.exit [r:Rn k n C L0 L l (Q (.exit i)) b c l' Y]:Rn k n C L0 L l ((Code.exit i).wp P Q) b c l' Y:=⟨λhb hc _ _ _ E I hx h=>wp_exit (r.rn hb hc E I hx h)⟩
instance Rn.ret [r:Rn k n C L0 L l (Q .ret) b c l' Y]:Rn k n C L0 L l (Code.ret.wp P Q) b c l' Y:=⟨λhb hc _ _ _ E I hx h=>wp_ret (r.rn hb hc E I hx h)⟩
instance Rn.cond [e:Ev l o v][q:Way v x y z][r:Rn k n C L0 L l (z.wp P Q) b c l' Y]:Rn (k+1) n C L0 L l ((Code.cond o x y).wp P Q) b c l' Y:=⟨λhb hc _ _ _ E I hx h=>by
 obtain⟨t,rfl,rfl⟩:=q.h;exact wp_cond (e.ev _ _ E) (r.rn hb hc E I hx h)⟩
instance Rn.ac3 [r:Rn k n C L0 L l (K) b c l' Y]:Rn k n C L0 L l (Exit.then K Q .normal) b c l' Y:=⟨λhb hc _ _ _ E I hx h=>TN (r.rn hb hc E I hx h)⟩
instance Rn.ac4 [r:Rn k n C L0 L l (Q .ret) b c l' Y]:Rn k n C L0 L l (Exit.then K Q .ret) b c l' Y:=⟨λhb hc _ _ _ E I hx h=>TR (r.rn hb hc E I hx h)⟩
instance Rn.ac5 [r:Rn k n C L0 L l (Q (.exit i)) b c l' Y]:Rn k n C L0 L l (Exit.then K Q (.exit i)) b c l' Y:=⟨λhb hc _ _ _ E I hx h=>TE (r.rn hb hc E I hx h)⟩
instance Rn.ac6 [r:Rn k n C L0 L l (Q .normal) b c l' Y]:Rn k n C L0 L l (Exit.inBlock i Q .normal) b c l' Y:=⟨λhb hc _ _ _ E I hx h=>Ph (r.rn hb hc E I hx h)⟩
instance Rn.ac7 [r:Rn k n C L0 L l (Q .ret) b c l' Y]:Rn k n C L0 L l (Exit.inBlock i Q .ret) b c l' Y:=⟨λhb hc _ _ _ E I hx h=>Pj (r.rn hb hc E I hx h)⟩
instance (priority:=high) Rn.ac8 [r:Rn k n C L0 L l (Q .normal) b c l' Y]:Rn k n C L0 L l (Exit.inBlock i Q (.exit i)) b c l' Y:=⟨λhb hc _ _ _ E I hx h=>Ov (r.rn hb hc E I hx h)⟩
instance Rn.ac9 [r:Rn k n C L0 L l (Q (.exit j)) b c l' Y]:Rn k n C L0 L l (Exit.inBlock i Q (.exit j)) (!Nat.beq j i&&b) c l' Y:=⟨λhb hc _ _ _ E I hx h=>by
 rw[fB,Bool.not_eq_true']at hb;exact Ow hb.1 (r.rn hb.2 hc E I hx h)⟩
variable {t u r3:Nat}{v2 v3 zv:Value}{vs cs:List Value}{R:Ending→World→Prop}{bb off e sz aX:Nat}{RR:List SP}{ef:TypeDesc}
instance Rn.GM:Rn 0 n C L0 L l (qs P [] R .normal) true True l (rM R (.tuple #[])):=⟨λ_ _ _ _ _ E _ _ h _ hr=>Go.Proofs.YteoldcfapaiobaaGreat.GM E hr (h _ E)⟩
instance Rn.GL:Rn 0 n C L0 L l (qs P [] R .ret) true True l (rM R (.tuple #[])):=⟨λ_ _ _ _ _ E _ _ h _ hr=>Go.Proofs.YteoldcfapaiobaaGreat.GL E hr (h _ E)⟩
instance Rn.GJ [fl l t v]:Rn 0 n C L0 L l (qs P [.tmp t] R .ret) true True l (rM R v):=⟨λ_ _ _ _ _ E _ _ h _ hr=>Go.Proofs.YteoldcfapaiobaaGreat.GJ E hr (h _ E)⟩
instance Rn.GK [fl l t v] [fl l u v2]:Rn 0 n C L0 L l (qs P [.tmp t,.tmp u] R .ret) true True l (rM R (.tuple #[v,v2])):=⟨λ_ _ _ _ _ E _ _ h _ hr=>Go.Proofs.YteoldcfapaiobaaGreat.GK E hr (h _ E)⟩
instance Rn.Ho [fl l t v] [fl l u v2] [fl l r3 v3]:Rn 0 n C L0 L l (qs P [.tmp t,.tmp u,.tmp r3] R .ret) true True l (rM R (.tuple #[v,v2,v3])):=⟨λ_ _ _ _ _ E _ _ h _ hr=>Go.Proofs.YteoldcfapaiobaaGreat.Ho E hr (h _ E)⟩
instance Rn.ada [fl l t (.pointer (some ⟨bb,off,none⟩))][q:aG P u ef][p2:mC ef false][hi:TI P u zv sz aX] [fC L bb e cs RR] [lK cs off sz vs][p:lO vs sz]:Rn 0 n C L0 L l (qs P [.cell t u] R .ret) true True l (rM R (.agg vs.toArray)):=⟨λ_ _ _ _ _ E I _ h _ hr =>
 Go.Proofs.YteoldcfapaiobaaGreat.Oq E hr (Bt q.h p2.h (by rw[p.h];exact hi) (I.pD sz)) (h _ E)⟩
instance Rn.adb [fl l t (.pointer (some ⟨bb,off,none⟩))][q:aG P u ef][p2:mC ef false][hi:TI P u zv sz aX] [fC L bb e cs RR] [lK cs off sz vs][p:lO vs sz] [fl l r3 v2]:Rn 0 n C L0 L l (qs P [.cell t u,.tmp r3] R .ret) true True l (rM R (.tuple #[.agg vs.toArray,v2])):=⟨λ_ _ _ _ _ E I _ h _ hr =>
 Go.Proofs.YteoldcfapaiobaaGreat.Ot E hr (Bt q.h p2.h (by rw[p.h];exact hi) (I.pD sz)) (h _ E)⟩
instance Rn.tg [r:Rn k n C L0 L l K b c l' Y]:Rn k n C L0 L l (CN b2 C K) b c l' Y:=⟨λhb hc _ _ _ E I hx h=>⟨λ_=>hx.2,r.rn hb hc E I hx h⟩⟩
instance (priority:=low) Rn.cnF [r:Rn k n C L0 L l K b c l' Y]:Rn k n C L0 L l (CN b2 C2 K) (!b2&&b) c l' Y:=⟨λhb hc _ _ _ E I hx h=>by
 rw[fB,Bool.not_eq_true']at hb;exact⟨λe=>(by rw[hb.1]at e;cases e),r.rn hb.2 hc E I hx h⟩⟩
instance Rn.one {o}[p:nI os i o][r:Rn k n C L0 L l (cI P os.toArray Q o (CN (bk.contains i) C2 (gu P os.toArray Q C2 bk od fuel (lQ m i)))) b c l' Y] :
   Rn k n C L0 L l (gu P os.toArray Q C2 bk ((i+1000)::od) (fuel+1) m) (BW os m i&&b) c l' Y:=⟨λhb hc a W w E I hx h=>by
 rw[fB]at hb;show gu P os.toArray Q C2 bk (i::od) (fuel+1) m a w;exact Pm (by rw[getElem?_toArray];exact p.h) (r.rn hb.2 hc E I hx h) (PU hb.1)⟩
instance (priority:=low) Rn.pure [p:nI os i ⟨some d,op,ty,ps,af,g⟩][pk:mD Q][e:Gd os l g true][s:Sx P [] l op eF v][q:gQ l d l1][r:Rn k n C L0 L ((d,v)::l1) (gu P os.toArray Q C2 bk od fuel (lQ m i)) b2 c2 l' Y][BZ:qp eF c2 c] :
   Rn (k+1) n C L0 L l (gu P os.toArray Q C2 bk (i::od) (fuel+1) m) (my os.toArray (lb os.toArray.size m) bk true i&&!bk.contains i&&okB d n l1&&b2) c l' Y:=⟨λhb hc a W w E I hx h=>by
 simp only[fB,Bool.not_eq_true']at hb;obtain⟨h1,h2⟩:=BZ.h hc;exact G5 (pL _ _ _) (by rw[getElem?_toArray];exact p.h) hb.1.1.1 hb.1.1.2 pk.h (E.del d) (e.h E) (λw=>s.ex h1 E (Lk.nil w)) hb.1.2 λa E=>r.rn hb.2 h2 E I hx h⟩
instance (priority:=low) Rn.ade {jb}[p:nI os i ⟨some d,op,ty,ps,af,some jb⟩][pk:mD Q][e:Gd os l (some jb) false][q:gQ l d l1][r:Rn k n C L0 L ((d,undef)::l1) (gu P os.toArray Q C2 bk od fuel (lQ m i)) b2 c l' Y] :
   Rn (k+1) n C L0 L l (gu P os.toArray Q C2 bk (i::od) (fuel+1) m) (my os.toArray (lb os.toArray.size m) bk true i&&!bk.contains i&&okB d n l1&&b2) c l' Y:=⟨λhb hc a W w E I hx h=>by
 simp only[fB,Bool.not_eq_true']at hb;exact OS (pL _ _ _) (by rw[getElem?_toArray];exact p.h) hb.1.1.1 hb.1.1.2 pk.h (E.del d) (e.h E) hb.1.2 λa E=>r.rn hb.2 hc E I hx h⟩
instance (priority:=high) Rn.held [p:nI os i ⟨some d,op,ty,ps,af,g⟩][pk:mD Q][e:Gd os l g true][s:Sx P L0 l op eF v][q:gQ l d l1][r:Rn k n C L0 L ((d,v)::l1) (gu P os.toArray Q C bk od fuel (lQ m i)) b2 c2 l' Y][BZ:qp eF c2 c] :
   Rn (k+1) n C L0 L l (gu P os.toArray Q C bk ((i+3000)::od) (fuel+1) m) (my os.toArray (lb os.toArray.size m) bk false i&&okB d n l1&&b2) c l' Y:=⟨λhb hc a W w E I hx h=>by
 simp only[fB]at hb;obtain⟨h1,h2⟩:=BZ.h hc;exact G6 (pL _ _ _) (by rw[getElem?_toArray];exact p.h) hb.1.1 pk.h (E.del d) (e.h E) (λw hw=>s.ex h1 E (hx.1 w hw)) hx.2 hb.1.2 λa E=>r.rn hb.2 h2 E I hx h⟩
instance (priority:=high) Rn.adf {jb}[p:nI os i ⟨some d,op,ty,ps,af,some jb⟩][pk:mD Q][e:Gd os l (some jb) false][q:gQ l d l1][r:Rn k n C L0 L ((d,undef)::l1) (gu P os.toArray Q C bk od fuel (lQ m i)) b2 c l' Y] :
   Rn (k+1) n C L0 L l (gu P os.toArray Q C bk ((i+3000)::od) (fuel+1) m) (my os.toArray (lb os.toArray.size m) bk false i&&okB d n l1&&b2) c l' Y:=⟨λhb hc a W w E I hx h=>by
 simp only[fB]at hb;exact OT (pL _ _ _) (by rw[getElem?_toArray];exact p.h) hb.1.1 pk.h (E.del d) (e.h E) hx.2 hb.1.2 λa E=>r.rn hb.2 hc E I hx h⟩
instance Rn.done [r:Rn k n C L0 L l (Q .normal) b c l' Y]:Rn k n C L0 L l (gu P os.toArray Q C2 bk [] fuel m) (PV os m&&b) c l' Y:=⟨λhb hc _ _ _ E I hx h=>by
 rw[fB]at hb;exact Pq (r.rn hb.2 hc E I hx h) (List.isEmpty_iff.1 hb.1)⟩
class Zp (vs:List Value)(ks:List Nat)(l:outParam (List (Nat×Value))):Prop where h:ks.zip vs=l
instance Zp.nil {ks}:Zp [] ks []:=⟨by simp⟩
instance Zp.cons {v vs k ks l}[h:Zp vs ks l]:Zp (v::vs) (k::ks) ((k,v)::l):=⟨by rw[List.zip_cons_cons,h.h]⟩
class App (xs ys:List Value)(zs:outParam (List Value)):Prop where h:xs++ys=zs
instance App.nil {ys}:App [] ys ys:=⟨rfl⟩
instance App.cons {x xs ys zs}[h:App xs ys zs]:App (x::xs) ys (x::zs):=⟨by rw[cons_append,h.h]⟩
instance Zp.app {xs ys zs ks l}[q:App xs ys zs][h:Zp zs ks l]:Zp (xs++ys) ks l:=⟨by rw[q.h];exact h.h⟩
class rN (n:Nat)(l:List (Nat×Value))(d:Option Tmp)(b:outParam Bool)(F:outParam (Value→List (Nat×Value))):Prop where h:b=true→∀ {a v},Fr a n l→Fr (a.put d v) n (F v)
instance rN.some {n l d l1}[q:gQ l d l1]:rN n l (some d) (okB d n l1) (λv=>(d,v)::l1):=⟨λh _ v E=>(E.del d).put h v⟩
class nJ (P:Program)(l:List (Nat×Value))(ce:Callee)(args:List Operand)(f:outParam Nat)(vs:outParam (List Value)):Prop where
 h:g5 P f=true→∀ {a n w},Fr a n l→∀ {dst oM ty ps af g},(execOp a.eval ⟨dst,.call ⟨ce,args.toArray,oM⟩,ty,ps,af,g⟩).run P w=.ok (.enter f vs.toArray) w
instance nJ.fn {P l f args vs}[ev:m5 l args vs]:nJ P l (.value (.func f)) args f vs:=⟨λhb a n w E _ _ _ _ _ _=>by
 have h2:a.eval (.func f)=.func (.func f) #[] #[]:=rfl;simp[execOp,resolve,h2,Deferred.ofValue,invoke,ev.ev a n E,yF hb]⟩
instance nJ.j7 {P l x f us args vs zs}[ex:Ev l (.tmp x) (.func (.func f) #[] (List.toArray us))][ev:m5 l args vs][q:App vs us zs]:nJ P l (.value (.tmp x)) args f zs:=⟨λhb a n w E _ _ _ _ _ _=>by
 rw[← q.h];simp[execOp,resolve,ex.ev a n E,Deferred.ofValue,invoke,ev.ev a n E,yF hb]⟩
class rO (vs:List Value):Prop where h:∀ v∈vs,v.oneCell'=true
instance rO.nil:rO []:=⟨by simp⟩
instance rO.ints {k m g}:rO (ints k m g):=⟨td⟩
class One (v:Value):Prop where h:v.oneCell'=true
instance {k i}:One (.int k i):=⟨rfl⟩
instance {b}:One (.bool b):=⟨rfl⟩
instance {s}:One (.string s):=⟨rfl⟩
instance {p}:One (.pointer p):=⟨rfl⟩
instance {p n c}:One (.slice p n c):=⟨rfl⟩
instance {t v}:One (.iface t v):=⟨rfl⟩
instance rO.cons {v vs}[h:One v][k:rO vs]:rO (v::vs):=⟨λx hx=>by
 rcases List.mem_cons.1 hx with rfl | hx
 ·exact h.h
 ·exact k.h x hx⟩
variable {a:Act}{w W:World}{l2:List (Nat×Value)}{p q:Prop}{bp:Bool}{F:Value→List (Nat×Value)}{dst:Option Tmp}{ce:Callee}{args:List Operand}{f:Nat}{oM:Array TypeId}{xo yP:Operand}
abbrev jC:World→Prop:=λ_=>True
theorem kr {w:World}:Hd jC []∧jC w:=⟨Hd.any _,trivial⟩
theorem EN {fn:Func}{Hq:Code}{rs:List ResultVar}{X:Ending→World→Prop}(hf:P.funcs[f]?=some fn)(hn:fn.ntmps=m)(hb:fn.body=some Hq)(hr:fn.results=rs.toArray)[z:Zp vs [0,1,2,3,4,5,6,7,8,9,10,11] l](h:∀ a,Fr a m l→Hq.wp P (qs P rs X) a w)
   (hm:(Nat.ble vs.length m&&Nat.ble vs.length 12)=true:=by rfl):Calls P f vs.toArray w X:=by
 rw[fB]at hm;refine Ou hf hb hn (Nat.le_of_ble_eq_true hm.1) λa E=>wp_mono (h a ?_) λ_ _ _ hq=>hq fn hr;have B0:=Nat.le_of_ble_eq_true hm.2;rw[← z.h];have e:((List.range vs.length).zip vs)=[0,1,2,3,4,5,6,7,8,9,10,11].zip vs:=by
  have h3:[0,1,2,3,4,5,6,7,8,9,10,11]=List.range (vs.length+(12-vs.length)):=by rw[show vs.length+(12-vs.length)=12 from by omega];rfl
  rw[h3,List.range_add];have h4:=List.zip_append (l₁:=List.range vs.length) (l₂:=vs) (r₁:=(List.range (12-vs.length)).map (vs.length+·)) (r₂:=[]) (by simp);rw[append_nil]at h4;rw[h4];simp
 rw[← e];exact E
theorem RN (k:Nat)(E:Fr a n l)(I:V W w L)[r:Rn k n jC [] L l X b c l' Y](h:∀ a,Fr a n l'→Y a w)(hb:b=true:=by kernel_rfl)(hc:c:=by (repeat' refine And.intro ?_ ?_) <;> first | exact True.intro | omega | exact (rfl:_=_) | decide):X a w:=r.rn hb hc E I kr h
theorem RH (k:Nat)(E:Fr a n l)(I:V W w L)(hH:Hd C L0)(U:C w)[r:Rn k n C L0 L l X b c l' Y](h:∀ a,Fr a n l'→Y a w)(hb:b=true:=by kernel_rfl)(hc:c:=by (repeat' refine And.intro ?_ ?_) <;> first | exact True.intro | omega | exact (rfl:_=_) | decide):X a w:=r.rn hb hc E I ⟨hH,U⟩ h
theorem RT (k:Nat)(E:Fr a n l)(I:V W w L)[r:Rn k n jC [] L l X b c l' (rM R v)](h:R (.returned v) w)(hb:b=true:=by kernel_rfl)(hc:c:=by (repeat' refine And.intro ?_ ?_) <;> first | exact True.intro | omega | exact (rfl:_=_) | decide):X a w:=r.rn hb hc E I kr λ_ _=>h
theorem IF (k:Nat)(E:Fr a n l)(I:V W w L)[r:Rn k n jC [] L l X b c l1 ((Code.cond (.tmp t) x y).wp P Q)][g1:fl l1 t (.bool b2)][mA:gQ l1 t l2][qo:BP b2 p q]
   (ht:p→∀ a,Fr a n ((t,.bool true)::l2)→x.wp P Q a w) (hf:q→∀ a,Fr a n ((t,.bool false)::l2)→y.wp P Q a w) (hb:b=true:=by kernel_rfl) (hc:c:=by (repeat' refine And.intro ?_ ?_) <;> first | exact True.intro | omega | exact (rfl:_=_) | decide):X a w :=
 r.rn hb hc E I kr λa E=>E.by (s:=t) (λh E=>GN E (ht h _ E)) (λh E=>GO E (hf h _ E))
theorem PW (k:Nat)(E:Fr a n l)(I:V W w L)[r:Rn k n jC [] L l X b c l1 ((Code.cond (.tmp t) x y).wp P Q)][g1:fl l1 t (.bool b2)][mA:gQ l1 t l2]
   (ht:b2=true→∀ a,Fr a n ((t,.bool true)::l2)→x.wp P Q a w) (hf:b2=false→∀ a,Fr a n ((t,.bool false)::l2)→y.wp P Q a w) (hb:b=true:=by kernel_rfl) (hc:c:=by (repeat' refine And.intro ?_ ?_) <;> first | exact True.intro | omega | exact (rfl:_=_) | decide):X a w :=
 r.rn hb hc E I kr λa E=>E.bool (s:=t) (λh E=>GN E (ht h _ E)) (λh E=>GO E (hf h _ E))
theorem BY (k:Nat)(E:Fr a n l)(I:V W w L)[r:Rn k n jC [] L l X b c l1 (cI P os.toArray Q ⟨dst,op,ty,ps,af,some (j,bp)⟩ K)][d1:te os j t][g1:fl l1 t (.bool b2)][mA:gQ l1 t l2][qo:BP b2 p q]
   (ht:p→∀ a,Fr a n ((t,.bool true)::l2)→cI P os.toArray Q ⟨dst,op,ty,ps,af,some (j,bp)⟩ K a w) (hf:q→∀ a,Fr a n ((t,.bool false)::l2)→cI P os.toArray Q ⟨dst,op,ty,ps,af,some (j,bp)⟩ K a w)
   (hb:b=true:=by kernel_rfl) (hc:c:=by (repeat' refine And.intro ?_ ?_) <;> first | exact True.intro | omega | exact (rfl:_=_) | decide):X a w :=
 r.rn hb hc E I kr λa E=>E.by (s:=t) (λh E=>ht h _ E) (λh E=>hf h _ E)
theorem wL (E:Fr a n l)[e:Gd os l g true][ev:nJ P l ce args f vs][uY:rN n l dst bp F]{X:Ending→World→Prop}(hc:Calls P f vs.toArray w X)(PX:bp=true)(hf:g5 P f=true)
   (h:∀ e w',X e w'→∃ v,e=.returned v∧∀ a',Fr a' n (F v)→K a' w'):cI P os.toArray Q ⟨dst,.call ⟨ce,args.toArray,oM⟩,ty,ps,af,g⟩ K a w :=
 GI (e.h E) (ev.h hf E) hc λe w' hx=>let ⟨v,he,hv⟩:=h e w' hx;⟨v,he,hv _ (uY.h PX E)⟩
section
variable {α β γ:Type}{S0:World→Prop}{S1:α→World→Prop}{S2:α→β→World→Prop}{S3:α→β→γ→World→Prop}{v1:α→Value}{Hr:α→β→Value}{Hs:α→β→γ→Value}
theorem CL (k:Nat)(E:Fr a n l)(I:V W w L)[r:Rn k n jC [] L l X b c l1 (cI P os.toArray Q ⟨dst,.call ⟨ce,args.toArray,oM⟩,ty,ps,af,g⟩ K)][e:Gd os l1 g true][ev:nJ P l1 ce args f vs][uY:rN n l1 dst bp F]
   (hq:Calls P f vs.toArray w λr w'=>r=.returned v∧S0 w') (h:∀ a w,Fr a n (F v)→S0 w→K a w) (hb:(b&&bp)=true:=by kernel_rfl) (hf:g5 P f=true:=by kernel_rfl) (hc:c:=by (repeat' refine And.intro ?_ ?_) <;> first | exact True.intro | omega | exact (rfl:_=_) | decide):X a w:=by
 simp only[fB]at hb;exact r.rn hb.1 hc E I kr λa E=>wL E hq hb.2 hf λe w' ⟨h1,h2⟩=>⟨_,h1,λa E=>h a w' E h2⟩
theorem bd (k:Nat)(E:Fr a n l)(I:V W w L)[r:Rn k n jC [] L l X b c l1 (cI P os.toArray Q ⟨dst,.call ⟨ce,args.toArray,oM⟩,ty,ps,af,g⟩ K)][e:Gd os l1 g true][ev:nJ P l1 ce args f vs][uY:rN n l1 dst bp F]
   (hq:Calls P f vs.toArray w λr w'=>∃ x,r=.returned (v1 x)∧S1 x w') (h:∀ x a w,Fr a n (F (v1 x))→S1 x w→K a w) (hb:(b&&bp)=true:=by kernel_rfl) (hf:g5 P f=true:=by kernel_rfl) (hc:c:=by (repeat' refine And.intro ?_ ?_) <;> first | exact True.intro | omega | exact (rfl:_=_) | decide):X a w:=by
 simp only[fB]at hb;exact r.rn hb.1 hc E I kr λa E=>wL E hq hb.2 hf λe w' ⟨x,h1,h2⟩=>⟨_,h1,λa E=>h x a w' E h2⟩
theorem a2 (k:Nat)(E:Fr a n l)(I:V W w L)[r:Rn k n jC [] L l X b c l1 (cI P os.toArray Q ⟨dst,.call ⟨ce,args.toArray,oM⟩,ty,ps,af,g⟩ K)][e:Gd os l1 g true][ev:nJ P l1 ce args f vs][uY:rN n l1 dst bp F]
   (hq:Calls P f vs.toArray w λr w'=>∃ x y,r=.returned (Hr x y)∧S2 x y w') (h:∀ x y a w,Fr a n (F (Hr x y))→S2 x y w→K a w) (hb:(b&&bp)=true:=by kernel_rfl) (hf:g5 P f=true:=by kernel_rfl) (hc:c:=by (repeat' refine And.intro ?_ ?_) <;> first | exact True.intro | omega | exact (rfl:_=_) | decide):X a w:=by
 simp only[fB]at hb;exact r.rn hb.1 hc E I kr λa E=>wL E hq hb.2 hf λe w' ⟨x,y,h1,h2⟩=>⟨_,h1,λa E=>h x y a w' E h2⟩
theorem jD (k:Nat)(E:Fr a n l)(I:V W w L)[r:Rn k n jC [] L l X b c l1 (cI P os.toArray Q ⟨dst,.call ⟨ce,args.toArray,oM⟩,ty,ps,af,g⟩ K)][e:Gd os l1 g true][ev:nJ P l1 ce args f vs][uY:rN n l1 dst bp F]
   (hq:Calls P f vs.toArray w λr w'=>∃ x y z,r=.returned (Hs x y z)∧S3 x y z w') (h:∀ x y z a w,Fr a n (F (Hs x y z))→S3 x y z w→K a w) (hb:(b&&bp)=true:=by kernel_rfl) (hf:g5 P f=true:=by kernel_rfl) (hc:c:=by (repeat' refine And.intro ?_ ?_) <;> first | exact True.intro | omega | exact (rfl:_=_) | decide):X a w:=by
 simp only[fB]at hb;exact r.rn hb.1 hc E I kr λa E=>wL E hq hb.2 hf λe w' ⟨x,y,z,h1,h2⟩=>⟨_,h1,λa E=>h x y z a w' E h2⟩
end
theorem jE (k:Nat)(E:Fr a n l)(I:V W w L)[r:Rn k n jC [] L l X b c l1 (cI P os.toArray Q ⟨dst,.call ⟨ce,args.toArray,oM⟩,ty,ps,af,g⟩ K)][e:Gd os l1 g true][ev:nJ P l1 ce args f vs][uY:rN n l1 dst bp F]{Z:Ending→World→Prop}
   (hq:Calls P f vs.toArray w Z) (h:∀ e w,Z e w→∃ v,e=.returned v∧∀ a,Fr a n (F v)→K a w) (hb:(b&&bp)=true:=by kernel_rfl) (hf:g5 P f=true:=by kernel_rfl) (hc:c:=by (repeat' refine And.intro ?_ ?_) <;> first | exact True.intro | omega | exact (rfl:_=_) | decide):X a w:=by
 simp only[fB]at hb;exact r.rn hb.1 hc E I kr λa E=>wL E hq hb.2 hf h
variable {cs lJ:List Value}{yQ:TypeId}{S:List SP}
theorem ST (k:Nat)(E:Fr a n l)(I:V W w L)[r:Rn k n jC [] L l X b c l1 (cI P os.toArray Q ⟨none,.store t xo yP,ty,ps,af,g⟩ K)][qt:Gd os l1 g true][ev:Ev l1 xo (.pointer (some ⟨bb,off,none⟩))][s6:Ev l1 yP v][hi:TI P t zv 1 aX][pE:Cells v [v]][o1:One v]
   [BD:fC L bb yQ cs S] [sc:pC cs off v lJ] (h:∀ a w,Fr a n l1→V W w (aa bb yQ lJ::S)→K a w) (hb:b=true:=by kernel_rfl) (hc:c:=by (repeat' refine And.intro ?_ ?_) <;> first | exact True.intro | omega | exact (rfl:_=_) | decide) (hlt:off<cs.length:=by first | exact Nat.adg rfl | omega | simp):X a w :=
 r.rn hb hc E I kr λa E=>GG E (qt.h E) I hi o1.h hlt h
theorem SA (k:Nat)(E:Fr a n l)(I:V W w L)[r:Rn k n jC [] L l X b c l1 (cI P os.toArray Q ⟨none,.store t xo yP,ty,ps,af,g⟩ K)][qt:Gd os l1 g true][ev:Ev l1 xo (.pointer (some ⟨bb,0,none⟩))][s6:Ev l1 yP v][hi:TI P t zv m aX][pE:Cells v vs][le:lO vs m][o1:rO vs]
   [BD:fC L bb yQ cs S] [PY:lO cs m] (h:∀ a w,Fr a n l1→V W w (aa bb yQ vs::S)→K a w) (hb:b=true:=by kernel_rfl) (hc:c:=by (repeat' refine And.intro ?_ ?_) <;> first | exact True.intro | omega | exact (rfl:_=_) | decide):X a w :=
 r.rn hb hc E I kr λa E=>Oi E (qt.h E) I (by rw[le.h];exact hi) o1.h (by rw[le.h,PY.h]) h
theorem AL (k:Nat)(E:Fr a n l)(I:V W w L)[r:Rn k n jC [] L l X b c l1 (cI P os.toArray Q ⟨some d,.alloc t,ty,ps,af,g⟩ K)][qt:Gd os l1 g true][hi:TI P t zv m aX][pE:Cells zv vs][q:gQ l1 d l2]
   (h:∀ b a w',Fr a n ((d,.pointer (some ⟨b,0,none⟩))::l2)→V W w' (aa b t vs::L)→K a w') (hb:(b&&okB d n l2)=true:=by kernel_rfl) (hc:c:=by (repeat' refine And.intro ?_ ?_) <;> first | exact True.intro | omega | exact (rfl:_=_) | decide):X a w:=by
 rw[fB]at hb;exact r.rn hb.1 hc E I kr λa E=>eS (E.del d) (qt.h E) I hi hb.2 λb a w E I _=>h b a w E I
theorem BX (k:Nat)(E:Fr a n l)(I:V W w L)[r:Rn k n jC [] L l X b c l1 (cI P os.toArray Q ⟨some d,.box t xo,ty,ps,af,g⟩ K)][qt:Gd os l1 g true][ev:Ev l1 xo v][pE:Cells v vs][q:gQ l1 d l2]
   (h:∀ b a w',Fr a n ((d,.pointer (some ⟨b,0,none⟩))::l2)→V W w' (aa b t vs::L)→K a w') (hb:(b&&okB d n l2)=true:=by kernel_rfl) (hc:c:=by (repeat' refine And.intro ?_ ?_) <;> first | exact True.intro | omega | exact (rfl:_=_) | decide):X a w:=by
 rw[fB]at hb;refine r.rn hb.1 hc E I kr λa E=>?_;have:=ev.ev a n E;refine bz (v:=.pointer (some ⟨w.heap.size,0,none⟩)) (w':=w.alloc (.cells vs.toArray t)) (E.del d) (qt.h E) ?_ hb.2 (λa' dg=>h _ _ _ dg (I.alloc _));simp[execOp,Instr.box,this,newVar,newRow,newObj,Sem.run,pE.h,Sem.run_bind]
theorem SX (k:Nat)(E:Fr a n l)(I:V W w L)[r:Rn k n jC [] L l X b c l1 (cI P os.toArray Q ⟨some d,op,ty,ps,af,g⟩ K)][qt:Gd os l1 g true][s:Sx P L l1 op eF v][q:gQ l1 d l2](h1:eF)
   (h:∀ a,Fr a n ((d,v)::l2)→K a w) (hb:(b&&okB d n l2)=true:=by kernel_rfl) (hc:c:=by (repeat' refine And.intro ?_ ?_) <;> first | exact True.intro | omega | exact (rfl:_=_) | decide):X a w:=by
 rw[fB]at hb;exact r.rn hb.1 hc E I kr λa E=>bz (E.del d) (qt.h E) (s.ex h1 E (Lk.of I)) hb.2 h
theorem QP [p:nI os i ⟨some d,op,ty,ps,af,g⟩][pk:mD Q][e:Gd os l g true][q:gQ l d l1](E:Fr a n l)(hr:∀ w,(execOp a.eval ⟨some d,op,ty,ps,af,g⟩).run P w=.ok (.value v) w)
   (h:∀ a,Fr a n ((d,v)::l1)→gu P os.toArray Q C2 bk od fuel (lQ m i) a w) (hb:(my os.toArray (lb os.toArray.size m) bk true i&&!bk.contains i&&okB d n l1)=true:=by kernel_rfl):gu P os.toArray Q C2 bk (i::od) (fuel+1) m a w:=by
 simp only[fB,Bool.not_eq_true']at hb;exact G5 (pL _ _ _) (by rw[getElem?_toArray];exact p.h) hb.1.1 hb.1.2 pk.h (E.del d) (e.h E) hr hb.2 h
theorem QH [p:nI os i ⟨some d,op,ty,ps,af,g⟩][pk:mD Q][e:Gd os l g true][q:gQ l d l1](E:Fr a n l)(hr:∀ w,C2 w→(execOp a.eval ⟨some d,op,ty,ps,af,g⟩).run P w=.ok (.value v) w)(U:C2 w)
   (h:∀ a,Fr a n ((d,v)::l1)→gu P os.toArray Q C2 bk od fuel (lQ m i) a w) (hb:(my os.toArray (lb os.toArray.size m) bk false i&&okB d n l1)=true:=by kernel_rfl):gu P os.toArray Q C2 bk ((i+3000)::od) (fuel+1) m a w:=by
 simp only[fB]at hb;exact G6 (pL _ _ _) (by rw[getElem?_toArray];exact p.h) hb.1 pk.h (E.del d) (e.h E) hr U hb.2 h
theorem aY (k:Nat)(C:World→World→Prop)(bk od:List Nat)(E:Fr a n l)(I:V W w L)[r:Rn k n jC [] L l X b c l1 ((Code.region i os.toArray true).wp P Q)][pk:mD Q][wM:yO P]
   (h:∀ a w,Fr a n l1→V W w L→Hd (C w) []→gu P os.toArray Q (C w) bk od os.length 0 a w) (hb:b=true:=by kernel_rfl) (hc:c:=by (repeat' refine And.intro ?_ ?_) <;> first | exact True.intro | omega | exact (rfl:_=_) | decide):X a w :=
 r.rn hb hc E I kr λa E=>Go.Proofs.YteoldcfapaiobaaGreat.DW (C w.drew) bk od wM.h pk.h (λ_=>h a _ E I.drew (Hd.any _)) List.size_toArray
theorem qv (k:Nat)(C:World→Prop)(bk od:List Nat)(E:Fr a n l)(I:V W w L)[r:Rn k n jC [] L l X b c l1 ((Code.region i os.toArray true).wp P Q)][pk:mD Q][wM:yO P]
   (h:∀ a,Fr a n l1→gu P os.toArray Q C bk od os.length 0 a w.drew) (hb:b=true:=by kernel_rfl) (hc:c:=by (repeat' refine And.intro ?_ ?_) <;> first | exact True.intro | omega | exact (rfl:_=_) | decide):X a w :=
 r.rn hb hc E I kr λa E=>Go.Proofs.YteoldcfapaiobaaGreat.DW C bk od wM.h pk.h (λ_=>h a E) List.size_toArray
theorem bL (k:Nat)(bk od:List Nat)(E:Fr a n l)(I:V W w L)[r:Rn k n jC [] L l X b c l1 ((Code.region i os.toArray true).wp P Q)][pk:mD Q][wM:yO P]
   (h:∀ a w,Fr a n l1→V W w L→Hd (Old w) L→Old w w→gu P os.toArray Q (Old w) bk od os.length 0 a w) (hb:b=true:=by kernel_rfl) (hc:c:=by (repeat' refine And.intro ?_ ?_) <;> first | exact True.intro | omega | exact (rfl:_=_) | decide):X a w :=
 r.rn hb hc E I kr λa E=>Go.Proofs.YteoldcfapaiobaaGreat.DW (Old w.drew) bk od wM.h pk.h (λ_=>h a _ E I.drew (Hd.gq I.drew) (Old.refl _)) List.size_toArray
end
section
variable {P:Program}{ops:Array Oper}{Q:Exit→Act→World→Prop}{C:World→Prop}{bk:List Nat}{fuel m:Nat}{a:Act}{w:World}
def wN (P:Program)(ops:Array Oper)(Q:Exit→Act→World→Prop)(C:World→Prop)(bk:List Nat)(fuel m:Nat)(a:Act)(w:World):List (Nat×List Nat)→Prop
 | []=>True
 | (i,od)::r=>(∃ o,ops[i]?=some o∧cI P ops Q o (CN (bk.contains i) C (gu P ops Q C bk od fuel (lQ m i))) a w)∧wN P ops Q C bk fuel m a w r
theorem wN.get:∀ {l:List (Nat×List Nat)} {i:Nat},wN P ops Q C bk fuel m a w l→i∈l.map (·.1)→∃ (o:Oper) (od:List Nat),ops[i]?=some o∧cI P ops Q o (CN (bk.contains i) C (gu P ops Q C bk od fuel (lQ m i))) a w
 | [],_,_,h=>by simp at h
 | (j,od)::r,i,⟨⟨o,h1,h2⟩,h3⟩,h=>by
  rw[map_cons]at h;rcases List.mem_cons.1 h with rfl | h
  ·exact⟨o,od,h1,h2⟩
  ·exact wN.get h3 h
theorem DN {od:List Nat}(l:List (Nat×List Nat))(hr:Region.ready .any ops (lb ops.size m)=l.map (·.1))(bN:l.isEmpty=false)(h:wN P ops Q C bk fuel m a w l):gu P ops Q C bk od (fuel+1) m a w:=by
 refine⟨λh0=>?_,λj hj=>?_⟩
 ·rw[hr]at h0;cases l with
  | nil=>cases bN
  | cons x r=>cases h0
 ·rw[hr]at hj;obtain⟨o,od,h1,h2⟩:=h.get hj;simp only[wpOp,h1,pL];exact h2
end
end
section
abbrev pt (b:Nat):Value:=.pointer (some ⟨b,0,none⟩)
theorem Hd.at {C:World→Prop}{L:List SP}(_:Hd C L)(w:World)(h:C w):C w:=h
theorem ag {P:Program}{a:Act}{w:World}{n:Nat}{l:List (Nat × Value)}{x ad t v dst ty ps af g}(E:Fr a n l)(hc:w.cell? ad=some v)[u:BG P t][ev:Ev l x (.pointer (some ad))]:(execOp a.eval ⟨dst,.load t x,ty,ps,af,g⟩).run P w=.ok (.value v) w:=by
 obtain ⟨ef,h1,h2⟩:=u.h;exact GD E h1 h2 hc
theorem SS {P:Program}{ops:Array Oper}{Q:Exit→Act→World→Prop}{a:Act}{w:World}{K:Act→World→Prop}{n d:Nat}{l:List (Nat × Value)}{v:Value}{op ty ps af g}(E:Fr a n l)(hr:(execOp a.eval ⟨some d,op,ty,ps,af,g⟩).run P w=.ok (.value v) w)(h:∀ a',Fr a' n ((d,v)::l)→K a' w)(hw:Region.wanted ⟨some d,op,ty,ps,af,g⟩ (yielded ops a.tmps)=true:=by rfl)(hf:okB d n l=true:=by rfl):cI P ops Q ⟨some d,op,ty,ps,af,g⟩ K a w:=bz E hw hr hf h
end
section
instance Ty.t2:TI prog 2 (.int .i64 0) 1 8:=TI.of (by kernel_rfl)
instance Ty.t3:TI prog 3 (.int .i64 0) 1 8:=TI.of (by kernel_rfl)
instance Ty.t4:TI prog 4 (.bool false) 1 1:=TI.of (by kernel_rfl)
instance Ty.t5:TI prog 5 (.int .u8 0) 1 1:=TI.of (by kernel_rfl)
instance Ty.t9:TI prog 9 (.string ⟨#[]⟩) 1 16:=TI.of (by kernel_rfl)
instance Ty.t21:TI prog 21 (.int .i32 0) 1 4:=TI.of (by kernel_rfl)
instance Ty.t22:TI prog 22 (.slice none 0 0) 1 24:=TI.of (by kernel_rfl)
instance Ty.t28:TI prog 28 (.agg #[.int .i64 0,.int .i64 0,.int .i64 0,.int .i64 0,.int .i64 0,.int .i64 0,.int .i64 0,.int .i64 0,.int .i64 0,.int .i64 0]) 10 80:=TI.of (by kernel_rfl)
instance Ty.t34:TI prog 34 (.pointer none) 1 8:=TI.of (by kernel_rfl)
instance Ty.t35:TI prog 35 (.pointer none) 1 8:=TI.of (by kernel_rfl)
instance Ty.t36:TI prog 36 (.slice none 0 0) 1 24:=TI.of (by kernel_rfl)
instance Ty.t37:TI prog 37 (.slice none 0 0) 1 24:=TI.of (by kernel_rfl)
instance Ty.t38:TI prog 38 (.slice none 0 0) 1 24:=TI.of (by kernel_rfl)
instance Ty.t40:TI prog 40 (.agg #[.pointer none,.slice none 0 0,.slice none 0 0,.slice none 0 0]) 4 80:=TI.of (by kernel_rfl)
instance Ty.t42:TI prog 42 (.pointer none) 1 8:=TI.of (by kernel_rfl)
instance Ty.t43:TI prog 43 (.slice none 0 0) 1 24:=TI.of (by kernel_rfl)
instance Ty.t45:TI prog 45 (.agg #[.string ⟨#[]⟩,.slice none 0 0]) 2 40:=TI.of (by kernel_rfl)
instance Ty.t47:TI prog 47 (.agg #[.int .i64 0,.int .i64 0,.slice none 0 0]) 3 40:=TI.of (by kernel_rfl)
instance Ty.t49:TI prog 49 (.agg #[.int .i32 0,.int .i32 0,.int .i32 0,.int .i32 0,.int .i32 0,.int .i32 0,.int .i32 0,.int .i32 0,.int .i32 0,.int .i32 0,.int .i32 0,.int .i32 0,.int .i32 0,.int .i32 0,.int .i32 0,.int .i32 0,.int .i32 0,.int .i32 0,.int .i32 0,.int .i32 0,.int .i32 0,.int .i32 0,.int .i32 0,.int .i32 0,.int .i32 0,.int .i32 0,.int .i32 0,.int .i32 0,.int .i32 0,.int .i32 0,.int .i32 0,.int .i32 0]) 32 128:=TI.of (by kernel_rfl)
instance Ty.t51:TI prog 51 (.agg ((.pointer none::.string ⟨#[]⟩::.slice none 0 0::.int .i64 0::.int .i64 0::.slice none 0 0::.int .i32 0::.int .i32 0::.int .i32 0::.int .i32 0::.int .i32 0::.int .i32 0::.int .i32 0::.int .i32 0::.int .i32 0::.int .i32 0::.int .i32 0::.int .i32 0::.int .i32 0::.int .i32 0::.int .i32 0::.int .i32 0::.int .i32 0::.int .i32 0::.int .i32 0::.int .i32 0::.int .i32 0::.int .i32 0::.int .i32 0::.int .i32 0::.int .i32 0::.int .i32 0::.int .i32 0::.int .i32 0::.int .i32 0::.int .i32 0::.int .i32 0::.int .i32 0::[]):List Value).toArray) 38 216:=TI.of (by kernel_rfl)
instance Ty.t53:TI prog 53 (.slice none 0 0) 1 24:=TI.of (by kernel_rfl)
instance Ty.t58:TI prog 58 (.agg #[.int .i64 0,.int .i64 0,.int .i64 0,.int .i64 0]) 4 32:=TI.of (by kernel_rfl)
instance Ty.t60:TI prog 60 (.agg #[.int .i64 0,.int .i64 0,.slice none 0 0]) 3 40:=TI.of (by kernel_rfl)
instance Ty.t62:TI prog 62 (.pointer none) 1 8:=TI.of (by kernel_rfl)
instance Ty.t65:TI prog 65 (.agg #[.slice none 0 0]) 1 24:=TI.of (by kernel_rfl)
instance Ty.t66:TI prog 66 (.slice none 0 0) 1 24:=TI.of (by kernel_rfl)
instance Ty.t67:TI prog 67 (.slice none 0 0) 1 24:=TI.of (by kernel_rfl)
instance Ty.t68:TI prog 68 (.slice none 0 0) 1 24:=TI.of (by kernel_rfl)
instance Ty.t69:TI prog 69 (.slice none 0 0) 1 24:=TI.of (by kernel_rfl)
instance Ty.t70:TI prog 70 (.slice none 0 0) 1 24:=TI.of (by kernel_rfl)
instance Ty.t72:TI prog 72 (.agg #[.int .i64 0,.int .i64 0,.int .i64 0,.int .i64 0,.int .i64 0,.int .i64 0,.int .i64 0,.int .i64 0,.int .i64 0,.int .i64 0,.slice none 0 0,.int .i64 0,.slice none 0 0,.slice none 0 0,.slice none 0 0,.slice none 0 0,.slice none 0 0,.slice none 0 0,.bool false]) 19 264:=TI.of (by kernel_rfl)
instance Ty.t81:TI prog 81 (.nilIface) 1 16:=TI.of (by kernel_rfl)
instance Ty.t90:TI prog 90 (.slice none 0 0) 1 24:=TI.of (by kernel_rfl)
instance Ty.t100:TI prog 100 (.int .u32 0) 1 4:=TI.of (by kernel_rfl)
instance Ty.t102:TI prog 102 (.agg #[.int .i64 0,.int .i64 0,.int .i64 0]) 3 24:=TI.of (by kernel_rfl)
instance Ty.t104:TI prog 104 (.slice none 0 0) 1 24:=TI.of (by kernel_rfl)
instance Ty.t105:TI prog 105 (.slice none 0 0) 1 24:=TI.of (by kernel_rfl)
instance Ty.t107:TI prog 107 (.agg #[.slice none 0 0,.pointer none,.slice none 0 0]) 3 56:=TI.of (by kernel_rfl)
instance Ty.t108:TI prog 108 (.slice none 0 0) 1 24:=TI.of (by kernel_rfl)
instance Ty.t110:TI prog 110 (.agg #[.slice none 0 0]) 1 24:=TI.of (by kernel_rfl)
instance Ty.t114:TI prog 114 (.agg #[.int .i64 0,.int .i64 0,.int .i64 0,.int .i64 0]) 4 32:=TI.of (by kernel_rfl)
instance Ty.t124:TI prog 124 (.agg #[.int .i64 0,.int .i64 0,.slice none 0 0]) 3 40:=TI.of (by kernel_rfl)
instance Ty.t133:TI prog 133 (.nilIface) 1 16:=TI.of (by kernel_rfl)
instance Ty.t135:TI prog 135 (.agg #[.nilIface]) 1 16:=TI.of (by kernel_rfl)
instance Ty.t139:TI prog 139 (.pointer none) 1 8:=TI.of (by kernel_rfl)
instance Ty.t158:TI prog 158 (.pointer none) 1 8:=TI.of (by kernel_rfl)
instance Ty.t162:TI prog 162 (.pointer none) 1 8:=TI.of (by kernel_rfl)
instance Ty.t164:TI prog 164 (.agg (List.replicate 201 (.int .i64 0)).toArray) 201 1608:=TI.of (by kernel_rfl)
instance Ty.t166:TI prog 166 (.int .i64 0) 1 8:=TI.of (by kernel_rfl)
instance Ty.t168:TI prog 168 (.slice none 0 0) 1 24:=TI.of (by kernel_rfl)
instance Ty.t169:TI prog 169 (.pointer none) 1 8:=TI.of (by kernel_rfl)
instance Ty.t173:TI prog 173 (.pointer none) 1 8:=TI.of (by kernel_rfl)
instance Ty.t175:TI prog 175 (.slice none 0 0) 1 24:=TI.of (by kernel_rfl)
instance Ty.t177:TI prog 177 (.agg #[.pointer none,.string ⟨#[]⟩,.slice none 0 0,.pointer none,.pointer none,.pointer none,.slice none 0 0,.int .i64 0,.int .i64 0]) 9 112:=TI.of (by kernel_rfl)
instance Ty.t179:TI prog 179 (.pointer none) 1 8:=TI.of (by kernel_rfl)
instance Ty.t183:TI prog 183 (.agg #[.int .i32 0,.int .i32 0,.int .i32 0,.int .i32 0,.int .i32 0,.int .i32 0,.int .i32 0,.int .i32 0,.int .i32 0,.int .i32 0,.int .i32 0,.int .i32 0,.int .i32 0,.int .i32 0,.int .i32 0,.int .i32 0,.int .i32 0,.int .i32 0,.int .i32 0,.int .i32 0,.int .i32 0,.int .i32 0,.int .i32 0,.int .i32 0,.int .i32 0,.int .i32 0,.int .i32 0,.int .i32 0,.int .i32 0,.int .i32 0,.int .i32 0,.int .i32 0]) 32 128:=TI.of (by kernel_rfl)
instance Ty.t186:TI prog 186 (.agg #[.int .i64 0,.int .i64 0,.slice none 0 0]) 3 40:=TI.of (by kernel_rfl)
instance Ty.t187:TI prog 187 (.pointer none) 1 8:=TI.of (by kernel_rfl)
instance Ty.t192:TI prog 192 (.agg ((.pointer none::.string ⟨#[]⟩::.slice none 0 0::.int .i64 0::.int .i64 0::.slice none 0 0::.int .i32 0::.int .i32 0::.int .i32 0::.int .i32 0::.int .i32 0::.int .i32 0::.int .i32 0::.int .i32 0::.int .i32 0::.int .i32 0::.int .i32 0::.int .i32 0::.int .i32 0::.int .i32 0::.int .i32 0::.int .i32 0::.int .i32 0::.int .i32 0::.int .i32 0::.int .i32 0::.int .i32 0::.int .i32 0::.int .i32 0::.int .i32 0::.int .i32 0::.int .i32 0::.int .i32 0::.int .i32 0::.int .i32 0::.int .i32 0::.int .i32 0::.int .i32 0::[]):List Value).toArray) 38 216:=TI.of (by kernel_rfl)
instance Ty.t203:TI prog 203 (.agg #[.int .i64 0,.int .i64 0,.int .i64 0,.int .i64 0,.int .i64 0,.slice none 0 0,.int .i64 0,.int .i64 0,.int .u32 0]) 9 88:=TI.of (by kernel_rfl)
instance Ty.t207:TI prog 207 (.slice none 0 0) 1 24:=TI.of (by kernel_rfl)
instance Ty.t210:TI prog 210 (.agg #[.int .i64 0]) 1 8:=TI.of (by kernel_rfl)
instance Ty.t211:TI prog 211 (.agg #[.int .i64 0]) 1 8:=TI.of (by kernel_rfl)
instance Ty.t213:TI prog 213 (.agg #[.int .i64 0,.int .i64 0]) 2 16:=TI.of (by kernel_rfl)
instance Ty.t218:TI prog 218 (.map none) 1 8:=TI.of (by kernel_rfl)
instance Ty.t219:TI prog 219 (.pointer none) 1 8:=TI.of (by kernel_rfl)
instance Ty.t221:TI prog 221 (.agg #[.pointer none,.map none,.int .i64 0]) 3 24:=TI.of (by kernel_rfl)
instance Ty.t222:TI prog 222 (.slice none 0 0) 1 24:=TI.of (by kernel_rfl)
instance Ty.t224:TI prog 224 (.agg #[.slice none 0 0]) 1 24:=TI.of (by kernel_rfl)
instance Ty.t225:TI prog 225 (.agg #[.int .i32 0,.int .i32 0,.int .i32 0,.int .i32 0,.int .i32 0,.int .i32 0,.int .i32 0,.int .i32 0]) 8 32:=TI.of (by kernel_rfl)
instance Ty.t227:TI prog 227 (.agg #[.int .i32 0,.int .i32 0,.int .i32 0,.int .i32 0,.int .i32 0,.int .i32 0,.int .i32 0,.int .i32 0,.int .i64 0]) 9 40:=TI.of (by kernel_rfl)
instance Ty.t230:TI prog 230 (.agg #[.int .i64 0,.int .i64 0,.int .i64 0,.int .i64 0]) 4 32:=TI.of (by kernel_rfl)
instance Ty.t232:TI prog 232 (.agg #[.int .i64 0,.int .i64 0,.int .i64 0,.int .i64 0,.int .i64 0]) 5 40:=TI.of (by kernel_rfl)
instance Ty.t236:TI prog 236 (.agg #[.pointer none,.int .i64 0,.slice none 0 0,.int .i64 0,.int .i64 0]) 5 56:=TI.of (by kernel_rfl)
instance Ty.t238:TI prog 238 (.agg #[.int .i64 0,.int .i64 0,.slice none 0 0,.int .i64 0,.int .i64 0]) 5 56:=TI.of (by kernel_rfl)
instance Ty.t241:TI prog 241 (.slice none 0 0) 1 24:=TI.of (by kernel_rfl)
instance Ty.t243:TI prog 243 (.agg #[.slice none 0 0]) 1 24:=TI.of (by kernel_rfl)
instance Ty.t245:TI prog 245 (.agg #[.int .i64 0,.int .i64 0]) 2 16:=TI.of (by kernel_rfl)
instance Ty.t247:TI prog 247 (.agg #[.string ⟨#[]⟩,.slice none 0 0,.pointer none,.pointer none,.pointer none,.bool false,.int .i64 0,.int .i64 0,.int .i64 0,.int .i64 0,.bool false]) 11 112:=TI.of (by kernel_rfl)
instance Ty.t253:TI prog 253 (.pointer none) 1 8:=TI.of (by kernel_rfl)
instance Ty.t255:TI prog 255 (.slice none 0 0) 1 24:=TI.of (by kernel_rfl)
instance Ty.t257:TI prog 257 (.agg #[.int .i64 0,.int .i64 0,.int .i64 0,.int .i64 0,.int .i64 0,.int .i64 0,.int .i64 0,.int .i64 0,.int .i64 0,.int .i64 0,.pointer none,.slice none 0 0,.slice none 0 0,.slice none 0 0,.int .i64 0,.bool false]) 16 176:=TI.of (by kernel_rfl)
instance Ty.t259:TI prog 259 (.agg #[.int .i64 0,.int .i64 0,.int .i64 0,.int .u32 0,.bool false]) 5 32:=TI.of (by kernel_rfl)
instance Ty.t286:TI prog 286 (.slice none 0 0) 1 24:=TI.of (by kernel_rfl)
instance Ty.t288:TI prog 288 (.agg #[.slice none 0 0]) 1 24:=TI.of (by kernel_rfl)
instance Ty.t289:TI prog 289 (.pointer none) 1 8:=TI.of (by kernel_rfl)
instance Ty.t296:TI prog 296 (.agg ((.int .i32 0::.int .i32 0::.int .i32 0::.int .i32 0::.int .i32 0::.int .i32 0::.int .i32 0::.int .i32 0::.int .i32 0::.int .i32 0::.int .i32 0::.int .i32 0::.int .i32 0::.int .i32 0::.int .i32 0::.int .i32 0::.int .i32 0::.int .i32 0::.int .i32 0::.int .i32 0::.int .i32 0::.int .i32 0::.int .i32 0::.int .i32 0::.int .i32 0::.int .i32 0::.int .i32 0::.int .i32 0::.int .i32 0::.int .i32 0::.int .i32 0::.int .i32 0::[]):List Value).toArray) 32 128:=TI.of (by kernel_rfl)
instance Ty.t307:TI prog 307 (.agg #[.pointer none,.int .i64 0,.bool false]) 3 24:=TI.of (by kernel_rfl)
instance Ty.t313:TI prog 313 (.agg #[.int .i64 0,.int .u32 0]) 2 16:=TI.of (by kernel_rfl)
instance Ty.t320:TI prog 320 (.agg (List.replicate 256 (.int .i64 0)).toArray) 256 2048:=TI.of (by kernel_rfl)
instance Ty.t322:TI prog 322 (.agg (List.replicate 256 (.bool false)).toArray) 256 256:=TI.of (by kernel_rfl)
instance Ty.t328:TI prog 328 (.agg #[.slice none 0 0]) 1 24:=TI.of (by kernel_rfl)
instance Ty.t333:TI prog 333 (.nilIface) 1 16:=TI.of (by kernel_rfl)
instance Ty.t336:TI prog 336 (.agg #[.string ⟨#[]⟩,.slice none 0 0,.nilIface,.int .i64 0,.slice none 0 0,.int .i64 0]) 6 96:=TI.of (by kernel_rfl)
instance Ty.t345:TI prog 345 (.agg #[.int .i64 0,.int .i64 0,.int .i64 0,.int .i64 0]) 4 32:=TI.of (by kernel_rfl)
instance Ty.t423:TI prog 423 (.agg #[.int .u8 0,.int .u8 0]) 2 2:=TI.of (by kernel_rfl)
instance Ty.t427:TI prog 427 (.agg #[.slice none 0 0,.bool false]) 2 32:=TI.of (by kernel_rfl)
instance Ty.t429:TI prog 429 (.agg #[.int .i64 0,.int .i64 0,.int .i64 0]) 3 24:=TI.of (by kernel_rfl)
instance Ty.Ht:ej prog 28 [(0,1),(1,1),(2,1),(3,1),(4,1),(5,1),(6,1),(7,1),(8,1),(9,1)]:=⟨_,underlying28,λw=>by kernel_rfl⟩
instance Ty.Hu:ej prog 40 [(0,1),(1,1),(2,1),(3,1)]:=⟨_,underlying40,λw=>by kernel_rfl⟩
instance Ty.b45:ej prog 45 [(0,1),(1,1)]:=⟨_,underlying45,λw=>by kernel_rfl⟩
instance Ty.b47:ej prog 47 [(0,1),(1,1),(2,1)]:=⟨_,underlying47,λw=>by kernel_rfl⟩
instance Ty.PZ:ej prog 51 [(0,1),(1,2),(3,3),(6,32)]:=⟨_,underlying51,λw=>by kernel_rfl⟩
instance Ty.b58:ej prog 58 [(0,1),(1,1),(2,1),(3,1)]:=⟨_,underlying58,λw=>by kernel_rfl⟩
instance Ty.P0:ej prog 60 [(0,1),(1,1),(2,1)]:=⟨_,underlying60,λw=>by kernel_rfl⟩
instance Ty.P1:ej prog 65 [(0,1)]:=⟨_,underlying65,λw=>by kernel_rfl⟩
instance Ty.b72:ej prog 72 [(0,10),(10,1),(11,1),(12,1),(13,1),(14,1),(15,1),(16,1),(17,1),(18,1)]:=⟨_,underlying72,λw=>by kernel_rfl⟩
instance Ty.adh:ej prog 102 [(0,1),(1,1),(2,1)]:=⟨_,underlying102,λw=>by kernel_rfl⟩
instance Ty.adi:ej prog 107 [(0,1),(1,1),(2,1)]:=⟨_,underlying107,λw=>by kernel_rfl⟩
instance Ty.P2:ej prog 110 [(0,1)]:=⟨_,underlying110,λw=>by kernel_rfl⟩
instance Ty.P3:ej prog 114 [(0,1),(1,1),(2,1),(3,1)]:=⟨_,underlying114,λw=>by kernel_rfl⟩
instance Ty.adj:ej prog 124 [(0,1),(1,1),(2,1)]:=⟨_,underlying124,λw=>by kernel_rfl⟩
instance Ty.adk:ej prog 135 [(0,1)]:=⟨_,underlying135,λw=>by kernel_rfl⟩
instance Ty.adl:ej prog 177 [(0,1),(1,2),(3,1),(4,1),(5,1),(6,1),(7,1),(8,1)]:=⟨_,underlying177,λw=>by kernel_rfl⟩
instance Ty.adm:ej prog 186 [(0,1),(1,1),(2,1)]:=⟨_,underlying186,λw=>by kernel_rfl⟩
instance Ty.adn:ej prog 192 [(0,1),(1,2),(3,3),(6,32)]:=⟨_,underlying192,λw=>by kernel_rfl⟩
instance Ty.ado:ej prog 203 [(0,1),(1,1),(2,1),(3,1),(4,1),(5,1),(6,1),(7,1),(8,1)]:=⟨_,underlying203,λw=>by kernel_rfl⟩
instance Ty.adp:ej prog 210 [(0,1)]:=⟨_,underlying210,λw=>by kernel_rfl⟩
instance Ty.adr:ej prog 211 [(0,1)]:=⟨_,underlying211,λw=>by kernel_rfl⟩
instance Ty.ads:ej prog 213 [(0,1),(1,1)]:=⟨_,underlying213,λw=>by kernel_rfl⟩
instance Ty.adt:ej prog 221 [(0,1),(1,1),(2,1)]:=⟨_,underlying221,λw=>by kernel_rfl⟩
instance Ty.adu:ej prog 224 [(0,1)]:=⟨_,underlying224,λw=>by kernel_rfl⟩
instance Ty.adv:ej prog 227 [(0,8),(8,1)]:=⟨_,underlying227,λw=>by kernel_rfl⟩
instance Ty.adw:ej prog 236 [(0,1),(1,1),(2,1),(3,1),(4,1)]:=⟨_,underlying236,λw=>by kernel_rfl⟩
instance Ty.adx:ej prog 238 [(0,1),(1,1),(2,1),(3,1),(4,1)]:=⟨_,underlying238,λw=>by kernel_rfl⟩
instance Ty.ady:ej prog 243 [(0,1)]:=⟨_,underlying243,λw=>by kernel_rfl⟩
instance Ty.adz:ej prog 245 [(0,1),(1,1)]:=⟨_,underlying245,λw=>by kernel_rfl⟩
instance Ty.adA:ej prog 247 [(0,2),(2,1),(3,1),(4,1),(5,1),(6,2),(8,1),(9,1),(10,1)]:=⟨_,underlying247,λw=>by kernel_rfl⟩
instance Ty.adB:ej prog 257 [(0,10),(10,1),(11,1),(12,1),(13,1),(14,1),(15,1)]:=⟨_,underlying257,λw=>by kernel_rfl⟩
instance Ty.adC:ej prog 259 [(0,1),(1,1),(2,1),(3,1),(4,1)]:=⟨_,underlying259,λw=>by kernel_rfl⟩
instance Ty.adD:ej prog 288 [(0,1)]:=⟨_,underlying288,λw=>by kernel_rfl⟩
instance Ty.P4:ej prog 296 [(0,32)]:=⟨_,underlying296,λw=>by kernel_rfl⟩
instance Ty.adF:ej prog 307 [(0,1),(1,1),(2,1)]:=⟨_,underlying307,λw=>by kernel_rfl⟩
instance Ty.adG:ej prog 313 [(0,1),(1,1)]:=⟨_,underlying313,λw=>by kernel_rfl⟩
instance Ty.adH:ej prog 328 [(0,1)]:=⟨_,underlying328,λw=>by kernel_rfl⟩
instance Ty.adI:ej prog 336 [(0,2),(2,1),(3,1),(4,1),(5,1)]:=⟨_,underlying336,λw=>by kernel_rfl⟩
instance Ty.adJ:ej prog 427 [(0,1),(1,1)]:=⟨_,underlying427,λw=>by kernel_rfl⟩
abbrev U2:=aG.of underlying2
abbrev U3:=aG.of underlying3
abbrev U4:=aG.of underlying4
abbrev U5:=aG.of underlying5
abbrev U9:=aG.of underlying9
abbrev P5:=aG.of underlying21
abbrev P6:=aG.of underlying22
abbrev P7:=aG.of underlying28
abbrev P8:=aG.of underlying31
abbrev P9:=aG.of underlying33
abbrev Qa:=aG.of underlying34
abbrev Qb:=aG.of underlying35
abbrev Qc:=aG.of underlying36
abbrev Qd:=aG.of underlying37
abbrev Qe:=aG.of underlying38
abbrev Qf:=aG.of underlying40
abbrev Qg:=aG.of underlying42
abbrev Qh:=aG.of underlying43
abbrev Qi:=aG.of underlying45
abbrev Qj:=aG.of underlying47
abbrev Qk:=aG.of underlying49
abbrev Ql:=aG.of underlying51
abbrev Qm:=aG.of underlying53
abbrev Qn:=aG.of underlying54
abbrev Qo:=aG.of underlying55
abbrev Qp:=aG.of underlying58
abbrev Qq:=aG.of underlying60
abbrev Qr:=aG.of underlying62
abbrev Qs:=aG.of underlying65
abbrev Qt:=aG.of underlying66
abbrev Qv:=aG.of underlying67
abbrev Qw:=aG.of underlying68
abbrev Qx:=aG.of underlying69
abbrev Qy:=aG.of underlying70
abbrev Qz:=aG.of underlying72
abbrev QA:=aG.of underlying74
abbrev QB:=aG.of underlying78
abbrev QC:=aG.of underlying81
abbrev QD:=aG.of underlying84
abbrev QE:=aG.of underlying90
abbrev QF:=aG.of underlying100
abbrev QG:=aG.of underlying102
abbrev QI:=aG.of underlying104
abbrev QJ:=aG.of underlying105
abbrev QK:=aG.of underlying107
abbrev QL:=aG.of underlying108
abbrev QM:=aG.of underlying110
abbrev QN:=aG.of underlying114
abbrev QO:=aG.of underlying124
abbrev QQ:=aG.of underlying133
abbrev QR:=aG.of underlying135
abbrev QS:=aG.of underlying139
abbrev QT:=aG.of underlying158
abbrev QU:=aG.of underlying160
abbrev QV:=aG.of underlying162
abbrev QW:=aG.of underlying164
abbrev QX:=aG.of underlying166
abbrev QY:=aG.of underlying168
abbrev QZ:=aG.of underlying169
abbrev Q0:=aG.of underlying173
abbrev Q1:=aG.of underlying175
abbrev Q2:=aG.of underlying177
abbrev Q3:=aG.of underlying179
abbrev Q4:=aG.of underlying183
abbrev Q5:=aG.of underlying186
abbrev Q6:=aG.of underlying187
abbrev Q7:=aG.of underlying192
abbrev Q8:=aG.of underlying203
abbrev Q9:=aG.of underlying207
abbrev Ra:=aG.of underlying210
abbrev Rb:=aG.of underlying211
abbrev Rc:=aG.of underlying213
abbrev Re:=aG.of underlying218
abbrev Rf:=aG.of underlying219
abbrev Rg:=aG.of underlying221
abbrev Rh:=aG.of underlying222
abbrev Ri:=aG.of underlying224
abbrev Rj:=aG.of underlying225
abbrev Rk:=aG.of underlying227
abbrev Rl:=aG.of underlying230
abbrev Rm:=aG.of underlying232
abbrev Rp:=aG.of underlying233
abbrev Rq:=aG.of underlying236
abbrev Rr:=aG.of underlying238
abbrev Rs:=aG.of underlying241
abbrev Rt:=aG.of underlying243
abbrev Ru:=aG.of underlying245
abbrev Rv:=aG.of underlying247
abbrev Rw:=aG.of underlying253
abbrev Rx:=aG.of underlying255
abbrev Ry:=aG.of underlying257
abbrev Rz:=aG.of underlying259
abbrev RA:=aG.of underlying270
abbrev RB:=aG.of underlying286
abbrev RC:=aG.of underlying288
abbrev RD:=aG.of underlying289
abbrev RE:=aG.of underlying294
abbrev RF:=aG.of underlying296
abbrev RG:=aG.of underlying305
abbrev RJ:=aG.of underlying307
abbrev RK:=aG.of underlying313
abbrev RL:=aG.of underlying314
abbrev RM:=aG.of underlying319
abbrev RO:=aG.of underlying320
abbrev RP:=aG.of underlying322
abbrev RQ:=aG.of underlying328
abbrev RS:=aG.of underlying333
abbrev RU:=aG.of underlying336
abbrev RV:=aG.of underlying343
abbrev RW:=aG.of underlying345
abbrev RX:=aG.of underlying351
abbrev RY:=aG.of underlying366
abbrev RZ:=aG.of underlying423
abbrev R0:=aG.of underlying427
abbrev R4:=aG.of underlying429
attribute [instance] U2 U3 U4 U5 U9 P5 P6 P7 P8 P9 Qa Qb Qc Qd Qe Qf Qg Qh Qi Qj Qk Ql Qm Qn Qo Qp Qq Qr Qs Qt Qv Qw Qx Qy Qz QA QB QC QD QE QF QG QI QJ QK QL QM QN QO QQ QR QS QT QU QV QW QX QY QZ Q0 Q1 Q2 Q3 Q4 Q5 Q6 Q7 Q8 Q9 Ra Rb Rc Re Rf Rg Rh Ri Rj Rk Rl Rm Rp Rq Rr Rs Rt Ru Rv Rw Rx Ry Rz RA RB RC RD RE RF RG RJ RK RL RM RO RP RQ RS RU RV RW RX RY RZ R0 R4
theorem Ty.mixed:prog.follows .mixedOrders=true:=by kernel_rfl
instance:yO prog:=⟨Ty.mixed⟩
end
section
theorem V.cF {W w:World}{L R:List SP}{n c e:Nat}{cs:List Value}(I:V W w L)(ad:Option Addr)(bs:List UInt8)[k:fL L ad n c e 1 cs R](h:cs=bc bs)(hn:bs.length=n):a6 w ad n bs:=by
 subst h;refine⟨hn,λe=>?_,λx hx hp=>?_⟩
 ·rcases Nat.eq_zero_or_pos n with h0 | h0
  ·exact h0
  ·obtain⟨b,off,e2,_⟩:=I.bY ad h0;rw[e]at e2;cases e2
 ·obtain⟨b,off,e2,hr⟩:=I.bY ad hp;exact⟨b,off,by rw[hx]at e2;cases e2;rfl,hr⟩
theorem a6.nil {w:World}{ad:Option Addr}:a6 w ad 0 []:=⟨rfl,λ_=>rfl,λ_ _ h=>absurd h (by decide)⟩
theorem a6.gq {W w:World}{L:List SP}{ad:Option Addr}{m:Nat}{bs:List UInt8}(h:a6 W ad m bs)(I:V W w L):a6 w ad m bs:=by
 refine⟨h.1,h.2.1,λx hx h0=>?_⟩;obtain⟨b,off,rfl,hr⟩:=h.2.2 x hx h0;refine⟨b,off,rfl,λj v hj=>?_⟩;have h1:=hr j v hj;rw[I.gq (a:=⟨b,off+j,none⟩) (World.block_lt_of_cell? _ _ h1)];exact h1
theorem qw (ad:Option Addr)(c sz:Nat):fm ad 0 c sz=ad:=by
 unfold fm;split
 ·rfl
 ·cases ad with
  | none=>rfl
  | some a=>simp[Addr.add]
def ku (w:World)(ad:Option Addr)(m:Nat)(p:List (List UInt8)):Prop :=
 p.length=m∧(0<m→∃ b off,ad=some ⟨b,off,none⟩∧∀ j bs,p[j]?=some bs→∃ av c',w.cell? ⟨b,off+j,none⟩=some (.slice av bs.length c')∧a6 w av bs.length bs)
theorem ku.take {w:World}{ad:Option Addr}{m n:Nat}{p:List (List UInt8)}(h:ku w ad m p)(hn:n≤m):ku w ad n (p.take n):=by
 refine⟨by rw[en,h.1];omega,λh0=>?_⟩;obtain⟨b,off,h1,h2⟩:=h.2 (by omega);refine⟨b,off,h1,λj bs hj=>?_⟩;rw[getElem?_take]at hj;by_cases pN:j<n
 ·rw[al pN]at hj;exact h2 j bs hj
 ·rw[ae pN]at hj;cases hj
abbrev ea:=Option Addr×Nat×List UInt8
def aI (x:ea):Value:=.slice x.1 x.2.2.length x.2.1
def a7 (x:ea):SP:=Sl 5 1 x.1 x.2.2.length x.2.1 (bc x.2.2)
def b0 (ad:Option Addr)(n c:Nat)(p:List (List UInt8)):SP:=λh=>∃ xs:List ea,(xs.map (·.2.2)=p∧p.length=n)∧ck [Sl 22 1 ad n c (xs.map aI),ah a7 xs] h
section
variable {W w:World}{L L' R:List SP}{ad:Option Addr}{n c:Nat}{p:List (List UInt8)}{xs:List ea}
theorem b0.open (I:V W w (b0 ad n c p::L)):∃ xs:List ea,xs.map (·.2.2)=p∧p.length=n∧V W w (Sl 22 1 ad n c (xs.map aI)::ah a7 xs::L):=by
 obtain⟨xs,⟨h1,h2⟩,h3⟩:=I.jj (ι:=List ea) (p:=λxs=>xs.map (·.2.2)=p∧p.length=n) (B:=λxs h=>ck [Sl 22 1 ad n c (xs.map aI),ah a7 xs] h) (λh ⟨xs,h1,h2⟩=>⟨xs,h1,h2⟩);exact⟨xs,h1,h2,h3.open λ_ h=>h⟩
theorem b0.close (I:V W w L)[k:fD L (Sl 22 1 ad n c (xs.map aI)::ah a7 xs::L') R](h1:xs.map (·.2.2)=p)(h2:p.length=n):V W w (b0 ad n c p::L') :=
 V.shut (M:=[_,_]) (I.sub (M:=Sl 22 1 ad n c (xs.map aI)::ah a7 xs::L')) (λ_ x=>⟨xs,⟨h1,h2⟩,x⟩)
theorem b0.le (I:V W w (b0 ad n c p::L)):p.length=n∧n≤c:=by
 obtain⟨xs,h1,h2,h3⟩:=b0.open I;exact⟨h2,(h3.sl ad).2⟩
theorem b0.nil (I:V W w L):V W w (b0 none 0 0 []::L):=by
 have h:V W w (Sl 22 1 none 0 0 (([]:List ea).map aI)::ah a7 []::L):=(I.iG (f:=a7)).bH 22 1 none;exact b0.close (xs:=[]) h rfl rfl
theorem b0.rd (I:V W w (b0 ad n c p::L)):ku w ad n p:=by
 obtain⟨xs,h1,h2,h3⟩:=b0.open I;refine⟨h2,λh0=>?_⟩;obtain⟨b,off,rfl,hr⟩:=h3.bY ad h0;refine⟨b,off,rfl,λj bs hj=>?_⟩;rw[← h1,bn]at hj;obtain⟨x,hx,rfl⟩:=Option.map_eq_some_iff.1 hj;obtain⟨ch,gT⟩:=a1.1 hx;refine⟨x.1,x.2.1,hr j _ (by rw[bn,hx];rfl),?_⟩;have h4:=(h3.perm (List.Perm.swap _ _ _)).fE ch;rw[gT]at h4;have h5:V W w (Sl 5 1 x.1 x.2.2.length x.2.1 (bc x.2.2)::_):=h4;exact h5.cF x.1 x.2.2 rfl rfl
theorem rP {bs:List UInt8}{m:Nat}(I:V W w L)(hr:∀ w',V W w' L→a6 w' ad m bs)(hb:m≤1099511627776) :
   Calls prog 95 #[.slice ad m c] w λe w'=>∃ av c',e=.returned (.slice av m c')∧V W w' (Sl 5 1 av m c' (bc bs)::L):=by
 obtain⟨h1,h2,h3⟩:=hr _ I;cases ad with
 | none =>
  obtain rfl:=h2 rfl;obtain rfl:bs=[]:=g6 h1;refine EN func95 ntmps95 rfl rfl λa E=>?_;refine RN 6 E I λa E=>?_;replace E:=E.eo 4;refine RT 3 E I ?_;exact⟨_,_,rfl,I.bH _ _ _⟩
 | some a =>
  rcases Nat.eq_zero_or_pos m with h0 | h0
  ·subst h0;obtain rfl:bs=[]:=g6 h1;refine EN func95 ntmps95 rfl rfl λa E=>?_;refine RN 6 E I λa E=>?_;replace E:=E.aN 4;refine RN 2 E I λa E=>?_;refine tc E rfl I underlying22 Ty.t5 rfl λb5 a w E I ho=>?_;clear ho;refine RN 1 E I λa E=>?_;refine BE E rfl underlying22 Ty.t5 rfl (bh _) λa E=>?_;refine RT 1 E I ?_;exact⟨_,_,rfl,I⟩
  ·obtain⟨b,off,rfl,_⟩:=h3 a rfl h0;refine EN func95 ntmps95 rfl rfl λa E=>?_;refine RN 6 E I λa E=>?_;replace E:=E.aN 4;refine RN 2 E I λa E=>?_;refine tc E rfl I underlying22 Ty.t5 rfl λb5 a w E I ho=>?_;clear ho;refine RN 1 E I λa E=>?_;obtain⟨b',dG,hx,cK⟩:=(hr _ I.tail).2.2 _ rfl h0;cases hx;refine cJ E rfl I underlying22 Ty.t5 rfl rfl cK (by rw[dx,h1,Nat.mul_one]) (ek bs) h0 (by decide) (by omega) λrQ qx a w E I=>?_;rw[Nat.zero_add]at E I;refine RT 1 E I ?_;exact⟨_,_,rfl,I⟩
theorem qy (a b:List UInt8):((⟨a.toArray⟩:ByteArray).data.toList==(⟨b.toArray⟩:ByteArray).data.toList)=(a==b):=rfl
theorem Hv {a b:List UInt8}{ad2:Option Addr}{m n c2:Nat}(dg:a6 w ad m a)(kV:a6 w ad2 n b) :
   Calls prog 313 #[.slice ad m c,.slice ad2 n c2] w λe w'=>e=.returned (.bool (a==b))∧w'=w:=by
 have I:=V.start w;refine EN func313 ntmps313 rfl rfl λa E=>?_;refine RN 4 E I λa E=>?_;refine SS E (lP E underlying22 underlying5 underlying9 (dg)) λa E=>?_;refine RN 1 E I λa E=>?_;refine SS E (lP E underlying22 underlying5 underlying9 (kV)) λa E=>?_;refine RN 0 E I λa E=>?_;refine SS E (rH E) λa E=>?_;refine RT 1 E I ?_;exact⟨by rw[qy],rfl⟩
theorem R5 {p q:List (List UInt8)}{k:Nat}{x y:List UInt8}(h:p.take k=q.take k)(hx:p[k]?=some x)(hy:q[k]?=some y):(p.take (k+1)=q.take (k+1))↔x=y:=by
 obtain⟨h1,rfl⟩:=a1.1 hx;obtain⟨h2,rfl⟩:=a1.1 hy;rw[iU h1,iU h2,h];exact⟨λe=>by have:=List.append_cancel_left e;simpa using this,λe=>by rw[e]⟩
theorem R6 {p q:List (List UInt8)}{ad2:Option Addr}{m c2:Nat}(hp:ku w ad m p)(hq:ku w ad2 m q)(hb:m≤1099511627776) :
   Calls prog 312 #[.slice ad m c,.slice ad2 m c2,.func (.func 313) #[] #[]] w λe w'=>e=.returned (.bool (p==q))∧w'=w:=by
 have eE:=hp.1;have R8:=hq.1;obtain⟨W,wO⟩:∃ W,w=W:=⟨w,rfl⟩;have I:V W w []:=wO ▸ V.start w;refine EN func312 ntmps312 rfl rfl λa E=>?_;refine RN 9 E I λa E=>?_;rw[Ps]at E;replace E:=E.aN 14;refine RN 6 E I λa E=>?_;refine aS (λμ a w=>∃ k:Nat,(μ=m-k∧k≤m∧p.take k=q.take k∧w=W)∧Fr a 32 [(1,.slice ad2 m c2),(2,.func (.func 313) #[] #[]),(15,.slice ad m c),(16,.int .i64 m),(17,.int .i64 k)]∧V W w []) (m) (⟨0,⟨by simp,by simp,by simp,wO⟩,E.ab [1,2,15,16,17],I⟩) ?_;clear E I;rintro μ a w ⟨k,⟨rfl,hk,B1,yR⟩,E,I⟩;subst yR wO;refine IF 3 E I (λan a E=>?_) λan a E=>?_
 ·
  refine RN 2 E I λa E=>?_;obtain⟨b1,o1,rfl,h1⟩:=hp.2 (by omega);obtain⟨b2,pO,rfl,h2⟩:=hq.2 (by omega);have ep:p[k]?=some p[k]:=aO (by omega);have dc:q[k]?=some q[k]:=aO (by omega);obtain⟨dD,c1',R9,fa⟩:=h1 k _ ep;obtain⟨dU,c2',Sa,eU⟩:=h2 k _ dc;have Hw:=R5 B1 ep dc;refine RN 2 E I λa E=>?_;refine SS E (ag E (R9)) λa E=>?_;refine RN 6 E I λa E=>?_;refine SS E (ag E (Sa)) λa E=>?_;refine CL 5 E I (Hv fa eU) λa w E hx=>?_;obtain rfl:=hx;refine IF 1 E (V.start _) (λay a E=>?_) λay a E=>?_
  ·
   have bN:¬ p[k]=q[k]:=by simpa using ay
   refine RT 2 E (V.start _) ?_;refine⟨?_,rfl⟩;have:(p==q)=false:=by
    rw[lp];intro e;exact bN (Hw.1 (by rw[e]))
   rw[this]
  have heq:p[k]=q[k]:=by simpa using ay
  refine RN 2 E (V.start _) λa E=>?_;exact⟨m-(k+1),by omega,k+1,⟨rfl,by omega,Hw.2 heq,rfl⟩,E.ab [1,2,15,16,17],V.start _⟩
 refine RT 2 E I ?_;obtain rfl:k=m:=by omega
 rw[fX (by omega),fX (by omega)]at B1;subst B1;exact⟨by rw[beq_self_eq_true],rfl⟩
def iH (w:World)(ad:Option Addr)(xs:List ea):Prop:=(0<xs.length→∃ b off,ad=some ⟨b,off,none⟩∧Rd w b off (xs.map aI))∧∀ x∈xs,a6 w x.1 x.2.2.length x.2.2
theorem iH.bb (h:iH w ad xs):ku w ad xs.length (xs.map (·.2.2)):=by
 refine⟨by simp,λh0=>?_⟩;obtain⟨b,off,h1,h2⟩:=h.1 h0;refine⟨b,off,h1,λj bs hj=>?_⟩;rw[bn]at hj;obtain⟨x,hx,rfl⟩:=Option.map_eq_some_iff.1 hj;exact⟨x.1,x.2.1,h2 j _ (by rw[bn,hx];rfl),h.2 x (bE hx)⟩
theorem V.lS {m:Nat}(I:V W w (Sl 22 1 ad m c (xs.map aI)::ah a7 xs::L)):iH w ad xs:=by
 have hm:xs.length=m:=by have:=(I.sl ad).1;simpa using this
 refine⟨λh0=>I.bY ad (by omega),λx hx=>?_⟩;obtain⟨i,hi,rfl⟩:=List.mem_iff_getElem.1 hx;have h4:=(I.perm (List.Perm.swap _ _ _)).fE hi;have h5:V W w (Sl 5 1 xs[i].1 xs[i].2.2.length xs[i].2.1 (bc xs[i].2.2)::_):=h4;exact h5.cF xs[i].1 xs[i].2.2 rfl rfl
end
end
end Go.Proofs.YteoldcfapaiobaaGreat
