/- Rows of structs: a list laid out flat, so many cells each. -/
import Derived.Test.YteoldcfapaiobaaGreatB00Sl
import Derived.Laws.RangeAny
import Derived.Laws.Strings
import Derived.Laws.MakeOwn
import Derived.KernelRfl
import Derived.Test.YteoldcfapaiobaaGreatProg
namespace Go.Proofs.YteoldcfapaiobaaGreat
open Tryz
open List (all_eq_true drop_zero take_succ_cons getElem?_take getElem?_drop set_eq_take_append_cons_drop perm_middle drop_drop take_append nil_append map_cons set_append_right set_append_left getElem?_cons_succ mem_range getElem?_toArray drop_eq_nil_of_le ext_getElem getElem_map eraseIdx_eq_take_drop_succ cons_append getElem_set_self eraseIdx_set_eq take_length append_nil)
open Go.RowKit
set_option linter.unusedVariables false
set_option linter.unusedSimpArgs false
set_option maxRecDepth 10000
set_option synthInstance.maxSize 4000
set_option synthInstance.maxHeartbeats 400000
section
theorem Qi {x:Int}:decide (x≠x)=false:=by simp
def rows {α:Type}(f:α→List Value)(l:List α):List Value:=l.flatMap f
section
variable {α:Type}{f:α→List Value}{sz:Nat}
theorem nQ (x:α)(l:List α):rows f (x::l)=f x++rows f l:=rfl
theorem ka (l m:List α):rows f (l++m)=rows f l++rows f m:=by simp[rows]
theorem y8 (h1:∀ x,∀ v∈f x,v.oneCell'=true)(l:List α):∀ v∈rows f l,v.oneCell'=true:=by
 intro v hv;simp only[rows,List.mem_flatMap]at hv;obtain⟨x,_,hx⟩:=hv;exact h1 x v hx
theorem iY (hf:∀ x,(f x).length=sz)(l:List α):(rows f l).length=l.length*sz:=by
 induction l with
 | nil=>simp[rows]
 | cons x l ih=>rw[nQ,aM,hf,ih,fc,Nat.succ_mul,Nat.add_comm]
theorem HL (hf:∀ x,(f x).length=sz)(l:List α)(i:Nat):(rows f l).drop (i*sz)=rows f (l.drop i):=by
 induction i generalizing l with
 | zero=>simp
 | succ i ih =>
  cases l with
  | nil=>simp[rows]
  | cons x l=>rw[nQ,Nat.succ_mul,Nat.add_comm,← drop_drop,List.drop_left' (hf x),ih,List.drop_succ_cons]
theorem Qj (hf:∀ x,(f x).length=sz)(l:List α)(i:Nat):(rows f l).take (i*sz)=rows f (l.take i):=by
 induction i generalizing l with
 | zero=>simp[rows]
 | succ i ih =>
  cases l with
  | nil=>simp[rows]
  | cons x l =>
   rw[nQ,Nat.succ_mul,Nat.add_comm,take_append,hf,fY (by rw[hf];omega),show sz+i*sz-sz=i*sz from by omega,ih,take_succ_cons,nQ]
theorem va (hf:∀ x,(f x).length=sz)(l:List α)(i:Nat)(h:i<l.length):((rows f l).drop (i*sz)).take sz=f l[i]:=by
 rw[HL hf,kb h,nQ,List.take_left' (hf _)]
theorem Cp (hf:∀ x,(f x).length=sz)(l:List α){i k:Nat}{v:Value}(h:i<l.length)(hv:(f l[i])[k]?=some v):(rows f l)[i*sz+k]?=some v:=by
 have hk:k<sz:=by rw[← hf l[i]];exact (a8.1 hv).1
 have:=va hf l i h;rw[← this,getElem?_take,al hk,getElem?_drop]at hv;exact hv
theorem HM (hf:∀ x,(f x).length=sz)(l:List α){i:Nat}(x:α)(h:i<l.length):cD (rows f l) (i*sz) (f x)=rows f (l.set i x):=by
 rw[set_eq_take_append_cons_drop,al h,ka,nQ,cD,Qj hf,hf,show i*sz+sz=(i+1)*sz from by rw[Nat.succ_mul],HL hf,dA]
theorem pX (hf:∀ x,(f x).length=sz)(l:List α){i k:Nat}{v:Value}(x:α)(h:i<l.length)(hk:k<sz)(hx:(f l[i]).set k v=f x):(rows f l).set (i*sz+k) v=rows f (l.set i x):=by
 have h0:l=l.take i++l[i]::l.drop (i+1):=by rw[← kb h,jE]
 have vb:l.set i x=l.take i++x::l.drop (i+1):=by rw[set_eq_take_append_cons_drop,al h]
 rw[vb,ka,nQ]
 conv=>lhs;rw[h0,ka,nQ]
 have hl:(rows f (l.take i)).length=i*sz:=by rw[iY hf];simp;rw[Nat.min_eq_left (by omega)]
 rw[set_append_right _ _ (by omega),hl,show i*sz+k-i*sz=k from by omega,set_append_left _ _ (by rw[hf];exact hk),hx]
theorem Qk (A B C vs:List Value)(k:Nat)(hk:k+vs.length≤B.length):cD (A++(B++C)) (A.length+k) vs=A++(cD B k vs++C):=by
 have e1:(A++(B++C)).take (A.length+k)=A++B.take k:=by
  rw[take_append,fY (by omega),show A.length+k-A.length=k from by omega,List.take_append_of_le_length (by omega)]
 have e2:(A++(B++C)).drop (A.length+k+vs.length)=B.drop (k+vs.length)++C:=by
  rw[List.drop_append,drop_eq_nil_of_le (by omega),show A.length+k+vs.length-A.length=k+vs.length from by omega,List.drop_append_of_le_length (by omega),nil_append]
 rw[cD,e1,e2,cD];simp only[dA]
theorem Ql (hf:∀ x,(f x).length=sz)(l:List α){i k:Nat}{vs:List Value}(x:α)(h:i<l.length)(hk:k+vs.length≤sz)(hx:cD (f l[i]) k vs=f x):cD (rows f l) (i*sz+k) vs=rows f (l.set i x):=by
 have h0:rows f l=rows f (l.take i)++(f l[i]++rows f (l.drop (i+1))):=by
  rw[← nQ,← ka,← kb h,jE]
 have vb:l.set i x=l.take i++x::l.drop (i+1):=by rw[set_eq_take_append_cons_drop,al h]
 have hl:(rows f (l.take i)).length=i*sz:=by rw[iY hf];simp;rw[Nat.min_eq_left (by omega)]
 rw[vb,ka,nQ,h0,← hl,Qk _ _ _ _ _ (by rw[hf];exact hk),hx]
theorem Qm (hf:∀ x,(f x).length=sz)(l:List α){i k m:Nat}(h:i<l.length)(hk:k+m≤sz):((rows f l).drop (i*sz+k)).take m=((f l[i]).drop k).take m:=by
 have:=va hf l i h;rw[← this,List.drop_take,List.take_take,drop_drop,Nat.min_eq_left (by omega)]
end
def fn (m:Nat)(g:Nat→Value):List Value:=(List.range m).map g
theorem HN (m:Nat)(g:Nat→Value):(fn m g).length=m:=by simp[fn]
theorem HO {m k:Nat}(g:Nat→Value)(h:k<m):(fn m g)[k]?=some (g k):=by simp[fn,h]
theorem Cq {m:Nat}{g g':Nat→Value}(h:∀ k,k<m→g k=g' k):fn m g=fn m g':=by
 simp only[fn];exact List.map_congr_left λk hk=>h k (mem_range.1 hk)
theorem HP {m k:Nat}(g:Nat→Value)(v:Value):(fn m g).set k v=fn m (λj=>if j=k then v else g j):=by
 apply ext_getElem (by simp[fn]);intro i h1 h2;simp only[fn,List.getElem_set,getElem_map,List.getElem_range];by_cases h:k=i
 ·simp[h]
 ·rw[ag h,ag (λe=>h e.symm)]
theorem Qn {m:Nat}{g:Nat→Value}(h:∀ k,(g k).oneCell'=true):∀ v∈fn m g,v.oneCell'=true:=by
 intro v hv;simp only[fn,c0]at hv;obtain⟨k,_,rfl⟩:=hv;exact h k
theorem Qo {m k n:Nat}(g:Nat→Value)(h:k+n≤m):((fn m g).drop k).take n=fn n (λj=>g (k+j)):=by
 apply ext_getElem (by simp[fn];omega);intro i h1 h2;simp[fn]
def ck (g:Nat→Int)(c:Nat)(v:Int):Nat→Int:=λj=>if j=c then v else g j
def ints (k:IntKind)(m:Nat)(g:Nat→Int):List Value:=fn m (λj=>.int k (g j))
theorem dm (k:IntKind)(m:Nat)(g:Nat→Int):(ints k m g).length=m:=HN _ _
theorem fO {k:IntKind}{m j:Nat}(g:Nat→Int)(h:j<m):(ints k m g)[j]?=some (.int k (g j)):=HO _ h
theorem tv {k:IntKind}{m:Nat}{g:Nat→Int}:∀ v∈ints k m g,v.oneCell'=true:=Qn λ_=>rfl
theorem ints_set {k:IntKind}{m j:Nat}(g:Nat→Int)(v:Int):(ints k m g).set j (.int k v)=ints k m (λi=>if i=j then v else g i):=by
 rw[ints,HP];exact Cq λi _=>by by_cases h:i=j <;> simp[h]
theorem Qp {k:IntKind}{m j n:Nat}(g:Nat→Int)(h:j+n≤m):((ints k m g).drop j).take n=ints k n (λi=>g (j+i)):=Qo _ h
theorem w5 {k:IntKind}{m:Nat}{g g':Nat→Int}(h:∀ j,j<m→g j=g' j):ints k m g=ints k m g':=Cq λj hj=>by rw[h j hj]
class vc (fM:List (List Value))(out:outParam (List Value)):Prop where h:fM.flatten=out
instance vc.nil:vc [] []:=⟨rfl⟩
instance vc.one {x fM out}[k:vc fM out]:vc ([x]::fM) (x::out):=⟨by rw[List.flatten_cons,k.h];rfl⟩
instance lZ.ints {k m g}:lZ (ints k m g) m:=⟨dm k m g⟩
section
variable {P:Program}{ops:Array Oper}{Q:Exit→Act→World→Prop}{a:Act}{w V W:World}{K:Act→World→Prop}{n d:Nat}{l:List (Nat×Value)}{v:Value}{L R:List SP}
theorem vd {x y k i j t u dst ty ps af g}(E:Fr a n l)(h:j≠0)(hi:k.wrap (i.tdiv j)=i.tdiv j)[e:Ev l x (.int k i)][f:Ev l y (.int k j)] :
   (execOp a.eval ⟨dst,.binOp .quo t x y u,ty,ps,af,g⟩).run P w=.ok (.value (.int k (i.tdiv j))) w:=by
 have:k.wrap (i.tdiv j)=i.tdiv j:=hi;simp[execOp,e.ev a n E,f.ev a n E,eqGuard,binOp,Op.intDiv,h,this]
theorem y9 {x y k i j t u dst ty ps af g}(E:Fr a n l)(h:j≠0)[e:Ev l x (.int k i)][f:Ev l y (.int k j)] :
   (execOp a.eval ⟨dst,.binOp .rem t x y u,ty,ps,af,g⟩).run P w=.ok (.value (.int k (i.tmod j))) w:=by
 simp[execOp,e.ev a n E,f.ev a n E,eqGuard,binOp,Op.intDiv,h]
theorem qD (i:Nat)(j:Nat):(i:Int).tdiv (j:Int)=((i/j:Nat):Int):=by rw[Int.natCast_ediv,Int.tdiv_eq_ediv_of_nonneg (by omega)]
theorem nR (i:Nat)(j:Nat):(i:Int).tmod (j:Int)=((i%j:Nat):Int):=by rw[Int.natCast_emod,Int.tmod_eq_emod_of_nonneg (by omega)]
theorem rT {x y k i j vs t el m ek z a2 dst ty ps af g}(E:Fr a n l)(hu:P.underlying t=some (.array m el))(hd:P.underlying el=some ek)(h1:nM ek=true)(hi:TI P el z 1 a2)
   [ev:Ev l x (.agg (List.toArray vs))] [gP:Ev l y (.int k i)] [nj:eu i j] (hlt:j<m) (hv:vs[j]?=some v) :
   (execOp a.eval ⟨dst,.index t x y,ty,ps,af,g⟩).run P w=.ok (.value v) w:=by
 have:=nj.h;subst this;have w6:(part el vs.toArray j).run P w=.ok v w:=by
  have Cr:(isAgg el).run P w=.ok false w:=by
   simp only[isAgg,Sem.run_bind,eP hd,Result.andThen_ok];cases ek <;> first | rfl | (simp[nM]at h1)
  simp[part,Cr,hv]
 simp[execOp,ev.ev a n E,gP.ev a n E,Instr.index,asIntOf,eP hu,lW hi,hlt,w6]
theorem Qq {x b off m t el z sz a2 dst ty ps af g}(E:Fr a n l)[ev:Ev l x (.pointer (some ⟨b,off,none⟩))](ht:P.underlying t=some (.array m el))(hi:TI P el z sz a2) :
   (execOp a.eval ⟨dst,.slice t x none none none,ty,ps,af,g⟩).run P w=.ok (.value (.slice (some ⟨b,off,none⟩) m m)) w:=by
 simp[execOp,ev.ev a n E,Instr.sliceAt,Instr.sliceBounds,eP ht,lW hi,Instr.sureAddr,j5]
theorem gj {x k k' i s t dst ty ps af g}(E:Fr a n l)(I:P.underlying s=some (.int k))(ht:P.underlying t=some (.int k'))[ev:Ev l x (.int k i)] :
   (execOp a.eval ⟨dst,.convert s t x,ty,ps,af,g⟩).run P w=.ok (.value (.int k' (k'.wrap i))) w:=by
 simp[execOp,ev.ev a n E,convert,eP I,eP ht,Conv.intToInt]
theorem oQ {x k k' i s t dst ty ps af g}(E:Fr a n l)(I:P.underlying s=some (.int k))(ht:P.underlying t=some (.int k'))(hw:k'.wrap i=i)[ev:Ev l x (.int k i)] :
   (execOp a.eval ⟨dst,.convert s t x,ty,ps,af,g⟩).run P w=.ok (.value (.int k' i)) w:=by
 rw[gj E I ht,hw]
theorem Cs {t el m z zs sz a2 Qr za be parts fM out dst ty ps af g}(E:Fr a n l)(hu:P.underlying t=some (.array m el))(hi:TI P t z sz a2)[Cg:Cells z zs](he:TI P el Qr za be)
   [rP:tr l parts 0 fM] (hc:(fM.all λc=>c.length==za)=true) (hz:zs.length=fM.length*za) [iK:vc fM out] :
   (execOp a.eval ⟨dst,.build t (List.toArray parts),ty,ps,af,g⟩).run P w=.ok (.value (.agg out.toArray)) w:=by
 obtain⟨vs,e1,e2⟩:=rP.h a n E;have hf:=Cd (sz:=za) fM vs 0 [] zs e2 (λc wZ=>by simpa using all_eq_true.1 hc c wZ) (by simp) hz;simp only[nil_append]at hf;rw[iK.h]at hf;simp only[execOp,Sem.run_bind,Instr.build,tm hi,Result.andThen_ok,eP hu,lW he,Cg.h,List.map_toArray,e1];simp[hf]
theorem Qs {x y b off m t el z sz a2 k i j dst ty ps af g}(E:Fr a n l)[ev:Ev l x (.pointer (some ⟨b,off,none⟩))](ht:P.underlying t=some (.array m el))(hi:TI P el z sz a2)[gP:Ev l y (.int k i)][nj:eu i j](h:j<m) :
   (execOp a.eval ⟨dst,.slice t x (some y) none none,ty,ps,af,g⟩).run P w=.ok (.value (.slice (some ⟨b,off+j*sz,none⟩) (m-j) (m-j))) w:=by
 have:=nj.h;subst this;have h2:¬ (m=j):=by omega
 simp[execOp,ev.ev a n E,gP.ev a n E,Instr.sliceAt,Instr.sliceBounds,Instr.sliceBound,asIntOf,eP ht,lW hi,Instr.sureAddr,j5,Nat.le_of_lt h,h2]
theorem Qt {x y t t2 el z sz a2 b off m c b2 gG zb c2 k vs e cs ty ps af g}(E:Fr a n l)(hw:Region.wanted ⟨some d,.call ⟨.builtin .copy,#[x,y],#[t,t2]⟩,ty,ps,af,g⟩ (yielded ops a.tmps)=true)(I:U W w L)
   (ht:P.underlying t=some (.slice el)) (hi:TI P el z sz a2) (hf:okB d n l=true) [ev:Ev l x (.slice (some ⟨b,off,none⟩) m c)] [gP:Ev l y (.slice (some ⟨b2,gG,none⟩) zb c2)] [Ck:fD L b e cs R]
   (hk:min zb m=k) (hr:Rd w b2 gG vs) (hl:vs.length=k*sz) (h1:∀ v∈vs,v.oneCell'=true) (hle:off+vs.length≤cs.length)
   (h:∀ a' V,Fr a' n ((d,.int .i64 k)::l)→U W V (aa b e (cD cs off vs)::R)→K a' V):cH P ops Q ⟨some d,.call ⟨.builtin .copy,#[x,y],#[t,t2]⟩,ty,ps,af,g⟩ K a w:=by
 obtain⟨i,k9,dJ,kE,pR⟩:=info_parts hi.h;have gO:=I.jD b;have nN:∀ j v,vs[j]?=some v→w.cell? ((⟨b2,gG,none⟩:Addr).add j)=some v:=λj v hj=>by rw[j5];exact hr j v hj
 have iX:=run_firstCells_some (P:=P) w sz k ⟨b2,gG,none⟩ zb c2 vs hl nN;have aT:=run_storeCells_at (P:=P) b off e vs 0 cs.toArray w gO.has.2 (by simpa using hle) h1;have qz:(storeCells ⟨b,off,none⟩ vs).run P w=.ok () (w.setRow b (cD cs off vs).toArray):=by simpa [cD] using aT
 refine bC (v:=.int .i64 k) (V:=w.setRow b (cD cs off vs).toArray) E hw ?_ hf (λa' di=>h a' _ di gO.setRow);simp[execOp,resolve,ev.ev a n E,gP.ev a n E,invoke,builtin,Builtin.copy_,eP ht,sizeOf,typeInfo,k9,kE,Builtin.lenOf,hk,iX,qz,goInt]
end
def ah {α:Type}(f:α→SP)(l:List α):SP:=λh=>cn (l.map f) h
section
variable {α:Type}{f:α→SP}{W w:World}{L:List SP}
theorem rU {β:Type}(l:List β){i:Nat}(h:i<l.length):l.Perm (l[i]::l.eraseIdx i):=by
 conv=>lhs;rw[← jE i l,kb h]
 rw[eraseIdx_eq_take_drop_succ];exact perm_middle
theorem U.iM (I:U W w L):U W w (ah f []::L) :=
 ⟨I.below,let ⟨h,p,q⟩:=I.sat;⟨h,p,λ_=>none,h,λ_=>.inl rfl,λ_ _ e=>(by cases e),Hp.Sub.refl _,trivial,q⟩⟩
theorem U.fv {l:List α}(I:U W w (ah f l::L)){i:Nat}(h:i<l.length):U W w (f l[i]::ah f (l.eraseIdx i)::L):=by
 have h1:=I.open (M:=l.map f) (λ_ x=>x);have hp:=((rU l h).map f).append_right L;have h2:=h1.perm hp;simp only[map_cons,cons_append]at h2;refine U.perm (L:=ah f (l.eraseIdx i)::f l[i]::L) ?_ (List.Perm.swap _ _ _);exact U.shut (M:=(l.eraseIdx i).map f) (h2.perm perm_middle.symm) (λ_ x=>x)
theorem U.ve {l:List α}{x:α}(I:U W w (f x::ah f l::L)):U W w (ah f (x::l)::L):=by
 have h1:=(I.perm (List.Perm.swap _ _ _)).open (M:=l.map f) (λ_ x=>x);exact U.shut (M:=(x::l).map f) (h1.perm perm_middle) (λ_ x=>x)
theorem U.HQ {l l':List α}(I:U W w (ah f l::L))(hp:l.Perm l'):U W w (ah f l'::L):=by
 have h1:=I.open (M:=l.map f) (λ_ x=>x);exact U.shut (M:=l'.map f) (h1.perm ((hp.map f).append_right L)) (λ_ x=>x)
theorem U.kG {l:List α}{x:α}{i:Nat}(h:i<l.length)(I:U W w (f x::ah f (l.eraseIdx i)::L)):U W w (ah f (l.set i x)::L):=by
 refine I.ve.HQ ?_;have hi:i<(l.set i x).length:=by simpa using h
 have:=rU (l.set i x) hi;rw[getElem_set_self,eraseIdx_set_eq]at this;exact this.symm
theorem U.jG {l:List α}{x:α}(I:U W w (f x::ah f l::L)):U W w (ah f (l++[x])::L) :=
 I.ve.HQ (List.perm_append_comm (l₁:=[x]))
end
end
section
def oR (s:ByteArray)(pos:Nat):List Value:=if pos<s.size then [.bool true,.int .i64 pos,.int .i32 (Utf8.decode s pos).1] else [.bool false]
def ec (s:ByteArray)(pos:Nat):Nat:=if pos<s.size then pos+(Utf8.decode s pos).2 else pos
theorem Ct (s:ByteArray)(pos:Nat):(oR s pos)[0]?=some (.bool (decide (pos<s.size))):=by
 by_cases h:pos<s.size <;> simp[oR,h]
theorem Qv {s:ByteArray}{pos:Nat}(h:pos<s.size):(oR s pos)[1]?=some (.int .i64 pos):=by simp[oR,h]
theorem Cu {s:ByteArray}{pos:Nat}(h:pos<s.size):(oR s pos)[2]?=some (.int .i32 (Utf8.decode s pos).1):=by simp[oR,h]
section
variable {P:Program}{ops:Array Oper}{Q:Exit→Act→World→Prop}{a:Act}{w V W:World}{K:Act→World→Prop}{o:Oper}{n d:Nat}{l:List (Nat×Value)}{v:Value}{L R:List SP}
theorem Cv {t x s ty ps af g}(E:Fr a n l)(hw:Region.wanted ⟨some d,.range t x,ty,ps,af,g⟩ (yielded ops a.tmps)=true)(I:U W w L)(ht:P.underlying t=some .string)[ev:Ev l x (.string s)]
   (hf:okB d n l=true) (h:∀ b a' V,Fr a' n ((d,.pointer (some ⟨b,0,none⟩))::l)→U W V (kD b (.stringIter s 0)::L)→Old w V→K a' V):cH P ops Q ⟨some d,.range t x,ty,ps,af,g⟩ K a w:=by
 refine bC (v:=.pointer (some ⟨w.heap.size,0,none⟩)) (V:=w.alloc (.stringIter s 0)) E hw ?_ hf (λa' di=>h _ _ _ di (I.alloc _) (Old.alloc _ _));have:=run_range_string (P:=P) w t s ht;simp[execOp,ev.ev a n E,this,World.iter]
class Cw (L:List SP)(b:Nat)(o:outParam Obj)(R:outParam (List SP)):Prop where perm:L.Perm (kD b o::R)
instance Cw.head {L b o}:Cw (kD b o::L) b o L:=⟨List.Perm.refl _⟩
theorem Cx {x s pos b ty ps af g}(E:Fr a n l)(hw:Region.wanted ⟨some d,.next x true,ty,ps,af,g⟩ (yielded ops a.tmps)=true)(I:U W w L)[ev:Ev l x (.pointer (some ⟨b,0,none⟩))][k:Cw L b (.stringIter s pos) R]
   (hf:okB d n l=true) (h:∀ a' V,Fr a' n ((d,.tuple (List.toArray (oR s pos)))::l)→U W V (kD b (.stringIter s (ec s pos))::R)→K a' V):cH P ops Q ⟨some d,.next x true,ty,ps,af,g⟩ K a w:=by
 have kF:=I.perm k.perm;have hb:=kF.has.2;by_cases hp:pos<s.size
 ·have c6:=kF.ck (o':=.stringIter s (ec s pos)) (V:={ w with heap:=w.heap.setIfInBounds b (.stringIter s (ec s pos)) }) rfl rfl rfl rfl;refine bC (v:=.tuple (List.toArray (oR s pos))) (V:={ w with heap:=w.heap.setIfInBounds b (.stringIter s (ec s pos)) }) E hw ?_ hf (λa' di=>h a' _ di c6);simp[execOp,ev.ev a n E,Instr.next,getObj,setObj,Sem.run,hb,hp,goInt,oR,ec,Sem.run_bind]
 ·have e:ec s pos=pos:=by simp[ec,hp]
  refine bC (v:=.tuple (List.toArray (oR s pos))) (V:=w) E hw ?_ hf (λa' di=>h a' _ di (by rw[e];exact kF));simp[execOp,ev.ev a n E,Instr.next,getObj,Sem.run,hb,hp,oR,Sem.run_bind]
theorem Qw {x s t dst ty ps af g}(E:Fr a n l)[ev:Ev l x (.string s)](hu:P.underlying t=some .string) :
   (execOp a.eval ⟨dst,.call ⟨.builtin .len,#[x],#[t]⟩,ty,ps,af,g⟩).run P w=.ok (.value (.int .i64 s.size)) w:=by
 simp[execOp,resolve,ev.ev a n E,invoke,builtin,Builtin.len_,eP hu,goInt]
theorem zc {x y s k i j t dst ty ps af g}(E:Fr a n l)(hu:P.underlying t=some .string)[ev:Ev l x (.string s)][gP:Ev l y (.int k i)][nj:eu i j](h:j<s.size) :
   (execOp a.eval ⟨dst,.index t x y,ty,ps,af,g⟩).run P w=.ok (.value (.int .u8 (s[j]'h).toNat)) w:=by
 have:=nj.h;subst this;have h2:=run_index_string (P:=P) w t s k (j:Int) hu;have h3:0≤(j:Int)∧(j:Int)<s.size:=by omega
 rw[dif_pos h3]at h2;simp[execOp,ev.ev a n E,gP.ev a n E,h2]
theorem Cy {x y s k i j t dst ty ps af g}(E:Fr a n l)(hu:P.underlying t=some .string)[ev:Ev l x (.string s)][gP:Ev l y (.int k i)][nj:eu i j](h:j≤s.size) :
   (execOp a.eval ⟨dst,.slice t x (some y) none none,ty,ps,af,g⟩).run P w=.ok (.value (.string (s.extract j s.size))) w:=by
 have:=nj.h;subst this;have h2:=run_slice_string_l (P:=P) w t s hu k (j:Int) (by omega) (by omega);simp only[Int.toNat_natCast]at h2;simp[execOp,ev.ev a n E,gP.ev a n E,run_sliceAt_string (P:=P) (w:=w) t _ _ _ _ hu,h2]
theorem HR {x y k i k' j jn t u dst ty ps af g}(E:Fr a n l)[e:Ev l x (.int k i)][f:Ev l y (.int k' j)][nj:eu j jn](h:jn≤k.bits) :
   (execOp a.eval ⟨dst,.binOp .shl t x y u,ty,ps,af,g⟩).run P w=.ok (.value (.int k (k.wrap (i*2 ^ jn)))) w:=by
 have:=nj.h;subst this;have h2:min jn k.bits=jn:=Nat.min_eq_left h;have h3:¬ ((jn:Int)<0):=by omega
 simp[execOp,e.ev a n E,f.ev a n E,eqGuard,binOp,Op.shift,h2,h3]
theorem Qx {x y k i k' j jn t u dst ty ps af g}(E:Fr a n l)[e:Ev l x (.int k i)][f:Ev l y (.int k' j)][nj:eu j jn](h:jn≤k.bits) :
   (execOp a.eval ⟨dst,.binOp .shr t x y u,ty,ps,af,g⟩).run P w=.ok (.value (.int k (i.fdiv (2 ^ jn)))) w:=by
 have:=nj.h;subst this;have h2:min jn k.bits=jn:=Nat.min_eq_left h;have h3:¬ ((jn:Int)<0):=by omega
 simp[execOp,e.ev a n E,f.ev a n E,eqGuard,binOp,Op.shift,h2,h3]
theorem Qy {x y k i j t u dst ty ps af g}(E:Fr a n l)[e:Ev l x (.int k i)][f:Ev l y (.int k j)] :
   (execOp a.eval ⟨dst,.binOp .or t x y u,ty,ps,af,g⟩).run P w=.ok (.value (.int k (k.wrap ((BitVec.ofInt k.bits i ||| BitVec.ofInt k.bits j).toNat)))) w:=by
 simp[execOp,e.ev a n E,f.ev a n E,eqGuard,binOp,Op.intBits]
theorem Qz {x y k i j t u dst ty ps af g}(E:Fr a n l)[e:Ev l x (.int k i)][f:Ev l y (.int k j)] :
   (execOp a.eval ⟨dst,.binOp .and t x y u,ty,ps,af,g⟩).run P w=.ok (.value (.int k (k.wrap ((BitVec.ofInt k.bits i &&& BitVec.ofInt k.bits j).toNat)))) w:=by
 simp[execOp,e.ev a n E,f.ev a n E,eqGuard,binOp,Op.intBits]
theorem QA {x y k i j t u dst ty ps af g}(E:Fr a n l)[e:Ev l x (.int k i)][f:Ev l y (.int k j)] :
   (execOp a.eval ⟨dst,.binOp .xor t x y u,ty,ps,af,g⟩).run P w=.ok (.value (.int k (k.wrap ((BitVec.ofInt k.bits i ^^^ BitVec.ofInt k.bits j).toNat)))) w:=by
 simp[execOp,e.ev a n E,f.ev a n E,eqGuard,binOp,Op.intBits]
theorem QB {x k i t dst ty ps af g}(E:Fr a n l)[e:Ev l x (.int k i)] :
   (execOp a.eval ⟨dst,.unOp .xor t x,ty,ps,af,g⟩).run P w=.ok (.value (.int k (k.wrap ((BitVec.ofInt k.bits (if k.signed then -1 else k.max) ^^^ BitVec.ofInt k.bits i).toNat)))) w:=by
 simp[execOp,e.ev a n E,Op.unary,Op.intBits]
theorem QC {x k i t dst ty ps af g}(E:Fr a n l)[e:Ev l x (.int k i)] :
   (execOp a.eval ⟨dst,.unOp .neg t x,ty,ps,af,g⟩).run P w=.ok (.value (.int k (k.wrap (0-i)))) w:=by
 simp[execOp,e.ev a n E,Op.unary,Op.intArith]
theorem HS {x y k i j t u dst ty ps af g}(E:Fr a n l)(h:j≠0)[e:Ev l x (.int k i)][f:Ev l y (.int k j)] :
   (execOp a.eval ⟨dst,.binOp .quo t x y u,ty,ps,af,g⟩).run P w=.ok (.value (.int k (k.wrap (i.tdiv j)))) w:=by
 simp[execOp,e.ev a n E,f.ev a n E,eqGuard,binOp,Op.intDiv,h]
theorem QD {t t':TypeId} {ms}(ht:P.underlying t=some (.interface ms))(v:Value)(k:Nat):(Op.equalIn (k+1) t (.iface t' v) .nilIface).run P w=.ok false w:=by
 simp[Op.equalIn,eP ht]
theorem QE {x t v t' ms u dst ty ps af g}(E:Fr a n l)(ht:P.underlying t=some (.interface ms))[e:Ev l x (.iface t' v)] :
   (execOp a.eval ⟨dst,.binOp .eql t x (.const .nilIface) u,ty,ps,af,g⟩).run P w=.ok (.value (.bool false)) w:=by
 have hc:a.eval (.const .nilIface)=.nilIface:=rfl;have h2:(Op.equal t (.iface t' v) .nilIface).run P w=.ok false w:=QD ht v 9999;simp only[execOp,e.ev a n E,hc,Sem.run_bind];simp[eqGuard,binOp,h2]
theorem QF {x t ek dst ty ps af g}(E:Fr a n l)(ht:P.underlying t=some ek)(hd:(match ek with | .interface _=>false | _=>true)=true)[e:Ev l x v] :
   (execOp a.eval ⟨dst,.makeInterface t x,ty,ps,af,g⟩).run P w=.ok (.value (.iface t v)) w:=by
 cases ek <;> first | (simp at hd) | skip
 all_goals simp[execOp,e.ev a n E,Instr.makeInterface,eP ht]
def oS (P:Program)(t:TypeId)(name:String)(f:FuncId):Prop:=∀ (ad:Option Addr) (w:World),(method (P.types.size+Made.depth) t (.pointer ad) name).run P w=.ok (f,.pointer ad) w
theorem jv {x t ad name f args oT ty ps af g vs all}{X:Ending→World→Prop}(E:Fr a n l)(hw:Region.wanted ⟨some d,.call ⟨.invoke x name,List.toArray args,oT⟩,ty,ps,af,g⟩ (yielded ops a.tmps)=true)
   [ex:Ev l x (.iface t (.pointer ad))] (hm:oS P t name f) (hb:g4 P f=true) (hf:okB d n l=true) [ev:nh l args vs] (hc:Calls P f (List.toArray all) w X) (hO:.pointer ad::vs=all)
   (h:∀ e V,X e V→∃ v,e=.returned v∧∀ a',Fr a' n ((d,v)::l)→K a' V) :
   cH P ops Q ⟨some d,.call ⟨.invoke x name,List.toArray args,oT⟩,ty,ps,af,g⟩ K a w:=by
 subst hO;refine Hi hw ?_ hc λe V hx=>let ⟨v,he,hv⟩:=h e V hx;⟨v,he,hv _ (E.put hf v)⟩;have h3:=hm ad w;simp[execOp,resolve,ex.ev a n E,invoke,callMethod,ev.ev a n E,h3,y4 hb,program,Sem.run]
end
end
section
section
variable {P:Program}{a:Act}{w:World}{n:Nat}{l:List (Nat×Value)}{v:Value}
theorem HT {x vs t f fs iK ek dst ty ps af g}(E:Fr a n l)(hu:P.underlying t=some (.struct fs))(hf:fs[f]?=some iK)(hd:P.underlying iK.type=some ek)(h1:nM ek=true)
   [ev:Ev l x (.agg (List.toArray vs))] (hv:vs[iK.offset]?=some v) :
   (execOp a.eval ⟨dst,.field t x f,ty,ps,af,g⟩).run P w=.ok (.value v) w:=by
 have w6:(part iK.type vs.toArray iK.offset).run P w=.ok v w:=by
  have Cr:(isAgg iK.type).run P w=.ok false w:=by
   simp only[isAgg,Sem.run_bind,eP hd,Result.andThen_ok];cases ek <;> first | rfl | (simp[nM]at h1)
  simp[part,Cr,hv]
 simp[execOp,ev.ev a n E,Instr.field,eP hu,hf,asAgg,w6]
end
end
section
section
variable {P:Program}{a:Act}{w W:World}{n:Nat}{l:List (Nat×Value)}{L R:List SP}
theorem Cz {x u z3 k' w2 i' w3 j' nq ad m c t el z sz a2 dst ty ps af g}(E:Fr a n l)(ht:P.underlying t=some (.slice el))(hi:TI P el z sz a2)[ev:Ev l x (.slice ad m c)][tp:Ev l u (.int k' i')][Ch:Ev l z3 (.int w2 w3)]
   [wY:eu i' j'] [Ci:eu w3 nq] (h':j'≤nq) (P4:nq≤c) :
   (execOp a.eval ⟨dst,.slice t x none (some u) (some z3),ty,ps,af,g⟩).run P w=.ok (.value (.slice (fm ad 0 nq sz) j' nq)) w:=by
 have la:=wY.h;subst la;have Cj:=Ci.h;subst Cj;have e1:=(pT ht).1;have e2:=(pT ht).2;have:=run_slice_hm (P:=P) (w:=w) t ad m c e1 k' w2 (j':Int) (nq:Int) (by omega) (by omega) (by omega);rw[e2,lW hi]at this;simp only[Result.andThen_ok,Int.toNat_natCast]at this;simp[execOp,ev.ev a n E,tp.ev a n E,Ch.ev a n E,run_sliceAt_slice (P:=P) (w:=w) t _ _ _ _ e1,this,sliced,fm]
theorem U.HU {e sz k c:Nat}{cs:List Value}(I:U W w L)(ad:Option Addr)(m:Nat)[pk:fL L ad k c e sz cs R](hm:m≤k):U W w (Sl e sz (fm ad 0 m sz) m m (cs.take (m*sz))::R):=by
 have h1:=I.perm pk.perm;rcases Nat.eq_zero_or_pos m with h0 | h0
 ·subst h0;simpa using h1.tail.bO e sz (fm ad 0 0 sz)
 ·have hc:=(I.sl ad);obtain⟨b,pre,post,⟨g1,kH,nr,pY⟩,h2⟩:=h1.lC (by omega);subst nr;rw[oN (by omega),Nat.zero_mul,Nat.add_zero];have l4:m*sz≤cs.length:=by rw[g1];exact Nat.mul_le_mul_right _ hm
  rw[show pre++cs++post=pre++cs.take (m*sz)++(cs.drop (m*sz)++post) from by
   conv=>lhs;rw[← jE (m*sz) cs]
   simp only[dA]]at h2
  exact U.iL h2 (by rw[ez];omega) (bk _) (by simp)
end
end
section
section
variable {P:Program}{ops:Array Oper}{Q:Exit→Act→World→Prop}{a:Act}{w V W:World}{K:Act→World→Prop}{n d:Nat}{l:List (Nat×Value)}{L:List SP}
theorem qE {t el z sz a2 x y k k' i j ty ps af g}(E:Fr a n l)(hw:Region.wanted ⟨some d,.makeSlice t x y,ty,ps,af,g⟩ (yielded ops a.tmps)=true)(I:U W w L)(ht:P.underlying t=some (.slice el))
   (hi:TI P el z sz a2) (hf:okB d n l=true) (hb:a2*j≤281474976710656) (hj:j≤9223372036854775807) [e:Ev l x (.int k i)] [e2:Ev l y (.int k' i)] [nj:eu i j]
   (h:∀ b a' V,Fr a' n ((d,.slice (some ⟨b,0,none⟩) j j)::l)→U W V (aa b el (madeCells z.cells (j*sz)).toList::L)→Old w V→K a' V) :
   cH P ops Q ⟨some d,.makeSlice t x y,ty,ps,af,g⟩ K a w:=by
 have QG:=nj.h;subst QG;obtain⟨HV,k9,dJ,kE,pR⟩:=info_parts hi.h;have QI:(HV.bytes:Int)*(j:Int)≤281474976710656:=by
  rw[pR];have:((a2*j:Nat):Int)≤281474976710656:=by omega
  rwa [Int.natCast_mul]at this
 have hr:=run_make (P:=P) w t el HV z ht k9 dJ k k' (j:Int) (j:Int) (by omega) (Int.le_refl _) QI (by omega);rw[Int.toNat_natCast,kE]at hr;refine bC (v:=.slice (some ⟨w.heap.size,0,none⟩) j j) (V:=w.alloc (.cells (madeCells z.cells (j*sz)) el)) E hw ?_ hf (λa' di=>h _ _ _ di (by
  have:=I.alloc (.cells (madeCells z.cells (j*sz)) el);simpa [aa] using this) (Old.alloc _ _))
 simp[execOp,e.ev a n E,e2.ev a n E,hr]
end
end
section
class tw (os:List Oper)(j:Nat)(s:outParam Nat):Prop where h:(os[j]?).bind (·.dst)=some s
instance tw.zero {s op ty ps af g r}:tw (⟨some s,op,ty,ps,af,g⟩::r) 0 s:=⟨rfl⟩
instance tw.succ {o r j s}[h:tw r j s]:tw (o::r) (j+1) s:=⟨by rw[getElem?_cons_succ];exact h.h⟩
class nS (os:List Oper)(j:Nat)(o:outParam Oper):Prop where h:os[j]?=some o
instance nS.zero {o r}:nS (o::r) 0 o:=⟨rfl⟩
instance nS.succ {x r j o}[h:nS r j o]:nS (x::r) (j+1) o:=⟨by rw[getElem?_cons_succ];exact h.h⟩
class GB (v:Value)(b:Bool)(r:outParam Bool):Prop where h:((match v with | .bool c=>Option.some c | _=>none)==Option.some b)=r
instance GB.QJ:GB (.bool true) true true:=⟨rfl⟩
instance GB.adr:GB (.bool true) false false:=⟨rfl⟩
instance GB.ads:GB (.bool false) true false:=⟨rfl⟩
instance GB.adt:GB (.bool false) false true:=⟨rfl⟩
instance GB.u {b}:GB undef b false:=⟨rfl⟩
class Gd (os:List Oper)(l:List (Nat×Value))(g:Option (Nat×Bool))(r:outParam Bool):Prop where
 h:∀ {a n},Fr a n l→∀ {dst op ty ps af},Region.wanted ⟨dst,op,ty,ps,af,g⟩ (yielded os.toArray a.tmps)=r
instance Gd.none {os l}:Gd os l none true:=⟨λ_=>rfl⟩
instance Gd.some {os l j b s v r}[d:tw os j s][k:fl l s v][x:GB v b r]:Gd os l (some (j,b)) r:=⟨λ{a n} E dst op ty ps af=>by
 have h1:=E.has _ k.mem;have h2:(os.toArray[j]?).bind (·.dst)=Option.some s:=by rw[getElem?_toArray];exact d.h
 rw[← x.h];simp only[Region.wanted,yielded,h2,Option.bind_some,h1];cases v <;> rfl⟩
class qF (p q:Prop)(r:outParam Prop):Prop where h:r→p∧q
instance qF.l {q}:qF True q q:=⟨λh=>⟨trivial,h⟩⟩
instance qF.r {p}:qF p True p:=⟨λh=>⟨h,trivial⟩⟩
instance (priority:=low) qF.b {p q}:qF p q (p∧q):=⟨id⟩
class rV (cs:List Value)(i:Nat)(v:outParam Value):Prop where h:cs[i]?=some v
instance rV.zero {v cs}:rV (v::cs) 0 v:=⟨rfl⟩
instance rV.succ {c cs i v}[h:rV cs i v]:rV (c::cs) (i+1) v:=⟨by rw[getElem?_cons_succ];exact h.h⟩
instance rV.apZ {v xs ys}:rV ((v::xs)++ys) 0 v:=⟨rfl⟩
class mL (o j sz:Nat)(r:outParam Nat):Prop where h:o+j*sz=r
instance (priority:=10) mL.any {o j sz}:mL o j sz (o+j*sz):=⟨rfl⟩
instance (priority:=20) mL.one {o j}:mL o j 1 (o+j):=⟨by rw[Nat.mul_one]⟩
instance (priority:=25) mL.at0 {o sz}:mL o 0 sz (o+0):=⟨by rw[Nat.zero_mul]⟩
instance (priority:=50) mL.adu {sz}:mL 0 0 sz 0:=⟨by rw[Nat.zero_mul]⟩
instance (priority:=30) mL.zero {j sz}:mL 0 j sz (j*sz):=⟨Nat.zero_add _⟩
instance (priority:=40) mL.both {j}:mL 0 j 1 j:=⟨by omega⟩
class aJ (P:Program)(t:TypeId)(d:outParam TypeDesc):Prop where h:P.underlying t=some d
theorem aJ.of {P:Program}{t:TypeId}{d:TypeDesc}(h:P.underlying t=some d):aJ P t d:=⟨h⟩
class mM (d:TypeDesc)(r:outParam Bool):Prop where h:nM d=r
instance Ex.adv {P:Program} {l x v1 v2 v3} [Ev l x (.tuple #[v1,v2,v3])]:Ex P l (.extract x 0) v1:=⟨λ_ _ E _ _ _ _ _ _=>nP E rfl⟩
instance Ex.adw {P:Program} {l x v1 v2 v3} [Ev l x (.tuple #[v1,v2,v3])]:Ex P l (.extract x 1) v2:=⟨λ_ _ E _ _ _ _ _ _=>nP E rfl⟩
instance Ex.adx {P:Program} {l x v1 v2 v3} [Ev l x (.tuple #[v1,v2,v3])]:Ex P l (.extract x 2) v3:=⟨λ_ _ E _ _ _ _ _ _=>nP E rfl⟩
instance:mM .bool true:=⟨rfl⟩
instance:mM .string true:=⟨rfl⟩
instance {k}:mM (.int k) true:=⟨rfl⟩
instance {t}:mM (.pointer t) true:=⟨rfl⟩
instance {t}:mM (.slice t) true:=⟨rfl⟩
instance {t u}:mM (.map t u) true:=⟨rfl⟩
instance {p r b}:mM (.func p r b) true:=⟨rfl⟩
instance {m}:mM (.interface m) true:=⟨rfl⟩
instance {f}:mM (.struct f) false:=⟨rfl⟩
instance {m t}:mM (.array m t) false:=⟨rfl⟩
class CA (d:TypeDesc):Prop where h:(match d with | .interface _=>false | _=>true)=true
instance {t}:CA (.pointer t):=⟨rfl⟩
instance {f}:CA (.struct f):=⟨rfl⟩
class HW (m:Nat)(k:outParam Nat):Prop where h:m=k+1
instance {k}:HW (k+1) k:=⟨rfl⟩
class vf (fs:List Field)(f:Nat)(t k:outParam Nat):Prop where h:∃ iK,fs[f]?=some iK∧iK.type=t∧iK.offset=k
instance vf.zero {QK t k e QL pp kI r}:vf (⟨QK,t,k,e,QL,pp,kI⟩::r) 0 t k:=⟨_,rfl,rfl,rfl⟩
instance vf.succ {x r f t k}[h:vf r f t k]:vf (x::r) (f+1) t k:=⟨by rw[getElem?_cons_succ];exact h.h⟩
section
variable {P:Program}{t u el k sz a2 f:Nat}{d:TypeDesc}{z:Value}{fs:List Field}
instance [h:aJ P t (.pointer el)]:w4 P t:=⟨_,h.h⟩
instance [h:aJ P t (.slice el)]:Cm P t:=⟨_,h.h⟩
instance [h:aJ P t d][g:mM d true]:Cn P t:=⟨_,h.h,g.h⟩
instance {m:Nat}[h:aJ P t (.struct fs.toArray)][g:vf fs f u k][hi:TI P u z m a2][q:HW m sz]:Co P t f k:=by
 obtain⟨iK,h1,h2,h3⟩:=g.h;rw[q.h]at hi;exact⟨_,iK,z,sz,a2,h.h,by rw[getElem?_toArray];exact h1,by rw[h2];exact hi,h3⟩
end
def Lk (L:List SP)(w:World):Prop:=∃ W w0,U W w0 L∧Old w0 w
theorem Lk.of {W w:World}{L:List SP}(I:U W w L):Lk L w:=⟨W,w,I,Old.refl _⟩
theorem Lk.nil (w:World):Lk [] w:=⟨w,w,U.start _,Old.refl _⟩
theorem Lk.bz {w:World}{L R:List SP}{b e off:Nat}{cs:List Value}{v:Value}(h:Lk L w)[k:fD L b e cs R](hv:cs[off]?=some v):w.cell? ⟨b,off,none⟩=some v:=by
 obtain⟨W,w0,I,ho⟩:=h;exact ho.cell (I.bz hv)
theorem Lk.pO {w:World}{L R:List SP}{b e off:Nat}{cs:List Value}(h:Lk L w)[k:fD L b e cs R](m:Nat){vs:List Value}[sc:lV cs off m vs]:Rd w b off vs:=by
 obtain⟨W,w0,I,ho⟩:=h;exact ho.rd (I.pO m)
instance lV.whole {cs m}[h:lZ cs m]:lV cs 0 m cs:=⟨by rw[drop_zero,← h.h,take_length]⟩
class tx (ad:Option Addr)(r:outParam Bool):Prop where h:ad.isNone=r
instance tx.n:tx none true:=⟨rfl⟩
instance tx.s {a}:tx (some a) false:=⟨rfl⟩
instance (priority:=low) tx.any {ad}:tx ad ad.isNone:=⟨rfl⟩
theorem HX {P:Program}{a:Act}{w:World}{n:Nat}{l:List (Nat×Value)}{fn:Func} {t u x v v2 v3}{X:Ending→World→Prop}(E:Fr a n l)(hr:fn.results=#[.tmp t,.tmp u,.tmp x])[k:fl l t v][k2:fl l u v2][k3:fl l x v3](h:X (.returned (.tuple #[v,v2,v3])) w):bodyPost P fn X .ret a w:=by
 refine bodyPost_ret ?_ E.defers h;have h1:=E.has _ k.mem;have h2:=E.has _ k2.mem;have h3:=E.has _ k3.mem;simp[results,hr,Array.getD_eq_getD_getElem?,h1,h2,h3]
theorem Fr.dX {a:Act}{n:Nat}{l l':List (Nat×Value)}(E:Fr a n l)(s:Nat){b:Bool}[k:fl l s (.bool b)][e:gN l s l'](h:b=true:=by first | rfl | decide):Fr a n ((s,.bool true)::l') :=
 E.bool (s:=s) (λ_ h=>h) (λe _=>by rw[h]at e;cases e)
theorem Fr.aK {a:Act}{n:Nat}{l l':List (Nat×Value)}(E:Fr a n l)(s:Nat){b:Bool}[k:fl l s (.bool b)][e:gN l s l'](h:b=false:=by first | rfl | decide):Fr a n ((s,.bool false)::l') :=
 E.bool (s:=s) (λe _=>by rw[h]at e;cases e) (λ_ h=>h)
class Sx (P:Program)(L:List SP)(l:List (Nat×Value))(op:Go.Op)(c:outParam Prop)(v:outParam Value):Prop where
 ex:c→∀ {a n w},Fr a n l→Lk L w→∀ {dst ty ps af g},(execOp a.eval ⟨dst,op,ty,ps,af,g⟩).run P w=.ok (.value v) w
section
variable {P:Program}{L R:List SP}{l:List (Nat×Value)}{x y z:Operand}{v u zv:Value}{k k':IntKind}{i j i':Int}{m m' qG c:Nat}{t t' el sz a2 b off r:Nat}{ad:Option Addr}{s:ByteArray}{p q:Bool}{vs ws zs:List Value}
instance (priority:=high) Sx.of {op}[h:Ex P l op v]:Sx P L l op True v:=⟨λ_ _ _ _ E _ _ _ _ _ _=>h.ex _ _ E _ _ _ _ _ _⟩
instance Sx.ady [Ev l x (.bool true)] [Ev l y v]:Sx P L l (.pick x y z) True v:=⟨λ_ _ _ _ E _ _ _ _ _ _=>OV E⟩
instance Sx.adz [Ev l x (.bool false)] [Ev l z v]:Sx P L l (.pick x y z) True v:=⟨λ_ _ _ _ E _ _ _ _ _ _=>OW E⟩
instance Sx.load {e cs} [Ev l x (.pointer (some ⟨b,off,none⟩))][u:Cn P t] [fD L b e cs R][n:rV cs off v]:Sx P L l (.load t x) True v :=
 ⟨λ_ _ _ _ E I _ _ _ _ _=>by obtain⟨ek,h1,h2⟩:=u.h;exact He E h1 h2 (I.bz n.h)⟩
instance Sx.adA {e cs d} [Ev l x (.pointer (some ⟨b,off,none⟩))][u:aJ P t d][g:mM d false][hi:TI P t zv m a2] [fD L b e cs R] [lV cs off m vs][k:lZ vs m]:Sx P L l (.load t x) True (.agg vs.toArray) :=
 ⟨λ_ _ _ _ E I _ _ _ _ _=>bR E u.h g.h (by rw[k.h];exact hi) (I.pO m)⟩
instance Sx.add [Ev l x (.int .i64 i)] [Ev l y (.int .i64 j)]:Sx P L l (.binOp .add t x y t') (-9223372036854775808≤i+j∧i+j≤9223372036854775807) (.int .i64 (i+j)) :=
 ⟨λh _ _ _ E _ _ _ _ _ _=>OY E h.1 h.2⟩
instance Sx.sub [Ev l x (.int .i64 i)] [Ev l y (.int .i64 j)]:Sx P L l (.binOp .sub t x y t') (-9223372036854775808≤i-j∧i-j≤9223372036854775807) (.int .i64 (i-j)) :=
 ⟨λh _ _ _ E _ _ _ _ _ _=>OZ E h.1 h.2⟩
instance Sx.mul [Ev l x (.int .i64 i)] [Ev l y (.int .i64 j)]:Sx P L l (.binOp .mul t x y t') (-9223372036854775808≤i*j∧i*j≤9223372036854775807) (.int .i64 (i*j)) :=
 ⟨λh _ _ _ E _ _ _ _ _ _=>O0 E h.1 h.2⟩
instance (priority:=low) Sx.adB [Ev l x (.int k i)] [Ev l y (.int k j)]:Sx P L l (.binOp .add t x y t') (True) (.int k (k.wrap (i+j))):=⟨λ_ _ _ _ E _ _ _ _ _ _=>Hb E⟩
instance (priority:=low) Sx.adC [Ev l x (.int k i)] [Ev l y (.int k j)]:Sx P L l (.binOp .sub t x y t') (True) (.int k (k.wrap (i-j))):=⟨λ_ _ _ _ E _ _ _ _ _ _=>wV E⟩
instance (priority:=low) Sx.adD [Ev l x (.int k i)] [Ev l y (.int k j)]:Sx P L l (.binOp .mul t x y t') (True) (.int k (k.wrap (i*j))):=⟨λ_ _ _ _ E _ _ _ _ _ _=>Hc E⟩
instance Sx.rem [Ev l x (.int k i)] [Ev l y (.int k j)]:Sx P L l (.binOp .rem t x y t') (j≠0) (.int k (i.tmod j)):=⟨λg _ _ _ E _ _ _ _ _ _=>y9 E g⟩
instance Sx.or [Ev l x (.int k i)] [Ev l y (.int k j)]:Sx P L l (.binOp .or t x y t') (True) (.int k (k.wrap ((BitVec.ofInt k.bits i ||| BitVec.ofInt k.bits j).toNat))):=⟨λ_ _ _ _ E _ _ _ _ _ _=>Qy E⟩
instance Sx.and [Ev l x (.int k i)] [Ev l y (.int k j)]:Sx P L l (.binOp .and t x y t') (True) (.int k (k.wrap ((BitVec.ofInt k.bits i &&& BitVec.ofInt k.bits j).toNat))):=⟨λ_ _ _ _ E _ _ _ _ _ _=>Qz E⟩
instance (priority:=low) Sx.xor [Ev l x (.int k i)] [Ev l y (.int k j)]:Sx P L l (.binOp .xor t x y t') (True) (.int k (k.wrap ((BitVec.ofInt k.bits i ^^^ BitVec.ofInt k.bits j).toNat))):=⟨λ_ _ _ _ E _ _ _ _ _ _=>QA E⟩
instance Sx.adF {i j:UInt8} [Ev l x (.int .u8 (i.toNat:Int))] [Ev l y (.int .u8 (j.toNat:Int))]:Sx P L l (.binOp .xor t x y t') True (.int .u8 ((i ^^^ j).toNat:Int)):=⟨λ_ _ _ _ E _ _ _ _ _ _=>P9 E⟩
instance Sx.min {tt} [Ev l x (.int k i)] [Ev l y (.int k j)]:Sx P L l (.call ⟨.builtin .min,#[x,y],tt⟩) (True) (.int k (min i j)):=⟨λ_ _ _ _ E _ _ _ _ _ _=>P1 E⟩
instance Sx.max {tt} [Ev l x (.int k i)] [Ev l y (.int k j)]:Sx P L l (.call ⟨.builtin .max,#[x,y],tt⟩) (True) (.int k (max i j)):=⟨λ_ _ _ _ E _ _ _ _ _ _=>P2 E⟩
instance Sx.shl [Ev l x (.int k i)] [Ev l y (.int k' j)] [eu j m]:Sx P L l (.binOp .shl t x y t') (m≤k.bits) (.int k (k.wrap (i*2 ^ m))):=⟨λg _ _ _ E _ _ _ _ _ _=>HR E g⟩
instance Sx.shr [Ev l x (.int k i)] [Ev l y (.int k' j)] [eu j m]:Sx P L l (.binOp .shr t x y t') (m≤k.bits) (.int k (i.fdiv (2 ^ m))):=⟨λg _ _ _ E _ _ _ _ _ _=>Qx E g⟩
instance Sx.com [Ev l x (.int k i)]:Sx P L l (.unOp .xor t x) True (.int k (k.wrap ((BitVec.ofInt k.bits (if k.signed then -1 else k.max) ^^^ BitVec.ofInt k.bits i).toNat))):=⟨λ_ _ _ _ E _ _ _ _ _ _=>QB E⟩
instance Sx.neg [Ev l x (.int k i)]:Sx P L l (.unOp .neg t x) True (.int k (k.wrap (0-i))):=⟨λ_ _ _ _ E _ _ _ _ _ _=>QC E⟩
instance Sx.adG [h:aJ P t (.slice el)] [Ev l x (.slice ad m c)][q:tx ad p]:Sx P L l (.binOp .eql t x (.const (.slice none 0 0)) t') True (.bool p):=⟨λ_ _ _ _ E _ _ _ _ _ _=>by rw[← q.h];exact P5 E h.h⟩
instance Sx.adH [h:aJ P t .string] [Ev l x (.string s)]:Sx P L l (.call ⟨.builtin .len,#[x],#[t]⟩) (True) (.int .i64 s.size):=⟨λ_ _ _ _ E _ _ _ _ _ _=>Qw E h.h⟩
instance Sx.adI [h:aJ P t .bool] [Ev l x (.bool p)] [Ev l y (.bool q)]:Sx P L l (.binOp .eql t x y t') (True) (.bool (p==q)):=⟨λ_ _ _ _ E _ _ _ _ _ _=>PZ E h.h⟩
instance Sx.adJ [h:aJ P t .bool] [Ev l x (.bool p)] [Ev l y (.bool q)]:Sx P L l (.binOp .neq t x y t') (True) (.bool (p != q)):=⟨λ_ _ _ _ E _ _ _ _ _ _=>P0 E h.h⟩
instance Sx.adK {fn xs ys} [nh l xs vs] [nh l ys ws]:Sx P L l (.makeFunc fn xs.toArray ys.toArray) (True) (.func fn vs.toArray ws.toArray):=⟨λ_ _ _ _ E _ _ _ _ _ _=>Pj E⟩
instance Sx.adM {d}[h:aJ P t d][g:CA d] [Ev l x v]:Sx P L l (.makeInterface t x) (True) (.iface t v):=⟨λ_ _ _ _ E _ _ _ _ _ _=>QF E h.h (by have:=g.h;cases d <;> first | rfl | (simp at this))⟩
instance Sx.adO {ms}[h:aJ P t (.interface ms)] [Ev l x (.iface m v)]:Sx P L l (.binOp .eql t x (.const .nilIface) t') (True) (.bool false):=⟨λ_ _ _ _ E _ _ _ _ _ _=>QE E h.h⟩
instance Sx.index [h:aJ P t (.slice el)][hi:TI P el zv sz a2] [Ev l x (.slice (some ⟨b,off,none⟩) m c)] [Ev l y (.int k i)] [eu i m'][q:mL off m' sz r]:Sx P L l (.indexAddr t x y) (m'<m) (.pointer (some ⟨b,r,none⟩)):=⟨λg _ _ _ E _ _ _ _ _ _=>by rw[← q.h];exact Hh E h.h hi g⟩
instance Sx.adQ [h:aJ P t (.array m el)][hi:TI P el zv sz a2] [Ev l x (.pointer (some ⟨b,off,none⟩))] [Ev l y (.int k i)] [eu i m'][q:mL off m' sz r]:Sx P L l (.indexAddr t x y) (m'<m) (.pointer (some ⟨b,r,none⟩)):=⟨λg _ _ _ E _ _ _ _ _ _=>by rw[← q.h];exact Pf E h.h hi g⟩
instance Sx.adR [h:aJ P t (.slice el)][hi:TI P el zv sz a2] [Ev l x (.slice ad m c)] [Ev l y (.int k i)] [eu i m']:Sx P L l (.slice t x (some y) none none) (m'≤m) (.slice (fm ad m' c sz) (m-m') (c-m')):=⟨λg _ _ _ E _ _ _ _ _ _=>Py E h.h hi g⟩
instance Sx.adS [h:aJ P t (.slice el)][hi:TI P el zv sz a2] [Ev l x (.slice ad m c)] [Ev l y (.int k i)] [eu i m']:Sx P L l (.slice t x none (some y) none) (m'≤c) (.slice (fm ad 0 c sz) (m'-0) (c-0)):=⟨λg _ _ _ E _ _ _ _ _ _=>Pz E h.h hi g⟩
instance Sx.adU [h:aJ P t (.slice el)][hi:TI P el zv sz a2] [Ev l x (.slice ad m c)] [Ev l y (.int k i)] [eu i m'] [Ev l z (.int k' i')] [eu i' qG]:Sx P L l (.slice t x (some y) (some z) none) (m'≤qG∧qG≤c) (.slice (fm ad m' c sz) (qG-m') (c-m')):=⟨λg _ _ _ E _ _ _ _ _ _=>PA E h.h hi g.1 g.2⟩
instance Sx.adV [h:aJ P t (.slice el)][hi:TI P el zv sz a2] [Ev l x (.slice ad m c)] [Ev l y (.int k i)] [eu i m'] [Ev l z (.int k' i')] [eu i' qG]:Sx P L l (.slice t x none (some y) (some z)) (m'≤qG∧qG≤c) (.slice (fm ad 0 qG sz) m' qG):=⟨λg _ _ _ E _ _ _ _ _ _=>Cz E h.h hi g.1 g.2⟩
instance Sx.adW [h:aJ P t (.array m el)][hi:TI P el zv sz a2] [Ev l x (.pointer (some ⟨b,off,none⟩))]:Sx P L l (.slice t x none none none) (True) (.slice (some ⟨b,off,none⟩) m m):=⟨λ_ _ _ _ E _ _ _ _ _ _=>Qq E h.h hi⟩
instance Sx.conv [h:aJ P t (.int k)][q:aJ P t' (.int k')] [Ev l x (.int k i)]:Sx P L l (.convert t t' x) (k'.wrap i=i) (.int k' i):=⟨λg _ _ _ E _ _ _ _ _ _=>oQ E h.h q.h g⟩
instance Sx.build {j9 parts}[hb:ew P t j9][hi:TI P t zv sz a2] [Cells zv zs] [ts j9 zs l parts vs]:Sx P L l (.build t (List.toArray parts)) ((j9.all λp=>Nat.ble (p.1+p.2) zs.length)=true) (.agg vs.toArray):=⟨λg _ _ _ E _ _ _ _ _ _=>HJ E hb hi g⟩
end
def Hd (C:World→Prop)(L:List SP):Prop:=∀ V,C V→Lk L V
theorem Hd.any (C:World→Prop):Hd C []:=λV _=>Lk.nil V
theorem Hd.gv {W w:World}{L:List SP}(I:U W w L):Hd (Old w) L:=λ_ h=>⟨W,w,I,h⟩
def CN (b:Bool)(C:World→Prop)(K:Act→World→Prop):Act→World→Prop:=λa w=>(b=true→C w)∧K a w
def rX (X:Ending→World→Prop)(v:Value):Act→World→Prop:=λ_ w=>X (.returned v) w
def qH (P:Program)(rs:List ResultVar)(X:Ending→World→Prop):Exit→Act→World→Prop:=λe a w=>∀ fn:Func,fn.results=rs.toArray→bodyPost P fn X e a w
class mN (Q:Exit→Act→World→Prop):Prop where h:ld Q
instance {K Q}[h:mN Q]:mN (Exit.then K Q):=⟨PE h.h⟩
instance {i Q}[h:mN Q]:mN (Exit.inBlock i Q):=⟨PF h.h⟩
instance {P rs X}:mN (qH P rs X):=⟨λc a o v w h fn hr=>PG c a o v w (h fn hr)⟩
class zd (P:Program):Prop where h:P.follows .mixedOrders=true
class Rn (k n:Nat)(C:World→Prop)(L0 L:List SP)(l:List (Nat×Value))(X:Act→World→Prop)(b:outParam Bool)(c:outParam Prop)(l':outParam (List (Nat×Value)))(Y:outParam (Act→World→Prop)):Prop where
 rn:b=true→c→∀ {a W w},Fr a n l→U W w L→Hd C L0∧C w→(∀ a,Fr a n l'→Y a w)→X a w
class Way (v:Value)(x y:Code)(z:outParam Code):Prop where h:∃ b,v=.bool b∧z=if b then x else y
instance {x y}:Way (.bool true) x y x:=⟨true,rfl,rfl⟩
instance {x y}:Way (.bool false) x y y:=⟨false,rfl,rfl⟩
def CB (os:List Oper)(m i:Nat):Bool:=match Region.ready .any os.toArray (lb os.toArray.size m) with | [j]=>Nat.beq j i | _=>false
theorem QM {os:List Oper}{m i:Nat}(h:CB os m i=true):Region.ready .any os.toArray (lb os.toArray.size m)=[i]:=by
 unfold CB at h;split at h
 ·rename_i j e;rw[e,Nat.eq_of_beq_eq_true h]
 ·cases h
def QN (os:List Oper)(m:Nat):Bool:=(Region.ready .any os.toArray (lb os.toArray.size m)).isEmpty
section
variable {P:Program}{k n d i j m fuel:Nat}{C C2:World→Prop}{L0 L:List SP}{l l1 l':List (Nat×Value)}{X Y K:Act→World→Prop}{b b2:Bool}{c dN c2:Prop}{os rest:List Oper}{Q:Exit→Act→World→Prop}{op:Go.Op}{v:Value}{ty:TypeId}{ps:String}{af:Array Edge}{g:Option (Nat×Bool)}{x y z:Code}{o:Operand}{bf od:List Nat}
instance (priority:=1) Rn.stop:Rn 0 n C L0 L l X true True l X:=⟨λ_ _ _ _ _ E _ _ h=>h _ E⟩
instance Rn.oper [e:Gd os l g true][s:Sx P L l op dN v][q:gN l d l1][r:Rn k n C L0 L ((d,v)::l1) K b2 c2 l' Y][p:qF dN c2 c] :
   Rn (k+1) n C L0 L l (cH P os.toArray Q ⟨some d,op,ty,ps,af,g⟩ K) (okB d n l1&&b2) c l' Y:=⟨λhb hc a W w E I hx h=>by
 rw[fC]at hb;obtain⟨h1,h2⟩:=p.h hc;exact bC (E.del d) (e.h E) (s.ex h1 E (Lk.of I)) hb.1 λa E=>r.rn hb.2 h2 E I hx h⟩
instance Rn.off {jb}[e:Gd os l (some jb) false][q:gN l d l1][r:Rn k n C L0 L ((d,undef)::l1) K b2 c l' Y] :
   Rn (k+1) n C L0 L l (cH P os.toArray Q ⟨some d,op,ty,ps,af,some jb⟩ K) (okB d n l1&&b2) c l' Y:=⟨λhb hc a W w E I hx h=>by
 rw[fC]at hb;exact OR (E.del d) (e.h E) hb.1 λa E=>r.rn hb.2 hc E I hx h⟩
instance Rn.cons {ops}{o:Oper}[r:Rn k n C L0 L l (cH P ops Q o (wpList P ops Q rest)) b c l' Y]:Rn k n C L0 L l (wpList P ops Q (o::rest)) b c l' Y:=⟨λhb hc _ _ _ E I hx h=>(r.rn hb hc E I hx h)⟩
instance Rn.nil {ops}[r:Rn k n C L0 L l (Q .normal) b c l' Y]:Rn k n C L0 L l (wpList P ops Q []) b c l' Y:=⟨λhb hc _ _ _ E I hx h=>Qa (r.rn hb hc E I hx h)⟩
instance Rn.seq [r:Rn k n C L0 L l (x.wp P (Exit.then (y.wp P Q) Q)) b c l' Y]:Rn (k+1) n C L0 L l ((Code.seq x y).wp P Q) b c l' Y:=⟨λhb hc _ _ _ E I hx h=>wp_seq (r.rn hb hc E I hx h)⟩
instance Rn.region {id}[r:Rn k n C L0 L l (wpList P os.toArray Q os) b c l' Y]:Rn k n C L0 L l ((Code.region id os.toArray false).wp P Q) b c l' Y:=⟨λhb hc _ _ _ E I hx h=>wp_region_lit (r.rn hb hc E I hx h)⟩
instance Rn.skip [r:Rn k n C L0 L l (Q .normal) b c l' Y]:Rn k n C L0 L l (Code.skip.wp P Q) b c l' Y:=⟨λhb hc _ _ _ E I hx h=>wp_skip (r.rn hb hc E I hx h)⟩
instance Rn.block [r:Rn k n C L0 L l (x.wp P (Exit.inBlock i Q)) b c l' Y]:Rn k n C L0 L l ((Code.block i x).wp P Q) b c l' Y:=⟨λhb hc _ _ _ E I hx h=>wp_block (r.rn hb hc E I hx h)⟩
instance Rn.exit [r:Rn k n C L0 L l (Q (.exit i)) b c l' Y]:Rn k n C L0 L l ((Code.exit i).wp P Q) b c l' Y:=⟨λhb hc _ _ _ E I hx h=>wp_exit (r.rn hb hc E I hx h)⟩
instance Rn.ret [r:Rn k n C L0 L l (Q .ret) b c l' Y]:Rn k n C L0 L l (Code.ret.wp P Q) b c l' Y:=⟨λhb hc _ _ _ E I hx h=>wp_ret (r.rn hb hc E I hx h)⟩
instance Rn.cond [e:Ev l o v][q:Way v x y z][r:Rn k n C L0 L l (z.wp P Q) b c l' Y]:Rn (k+1) n C L0 L l ((Code.cond o x y).wp P Q) b c l' Y:=⟨λhb hc _ _ _ E I hx h=>by
 obtain⟨t,rfl,rfl⟩:=q.h;exact wp_cond (e.ev _ _ E) (r.rn hb hc E I hx h)⟩
instance Rn.adX [r:Rn k n C L0 L l (K) b c l' Y]:Rn k n C L0 L l (Exit.then K Q .normal) b c l' Y:=⟨λhb hc _ _ _ E I hx h=>TN (r.rn hb hc E I hx h)⟩
instance Rn.adY [r:Rn k n C L0 L l (Q .ret) b c l' Y]:Rn k n C L0 L l (Exit.then K Q .ret) b c l' Y:=⟨λhb hc _ _ _ E I hx h=>TR (r.rn hb hc E I hx h)⟩
instance Rn.adZ [r:Rn k n C L0 L l (Q (.exit i)) b c l' Y]:Rn k n C L0 L l (Exit.then K Q (.exit i)) b c l' Y:=⟨λhb hc _ _ _ E I hx h=>TE (r.rn hb hc E I hx h)⟩
instance Rn.ad0 [r:Rn k n C L0 L l (Q .normal) b c l' Y]:Rn k n C L0 L l (Exit.inBlock i Q .normal) b c l' Y:=⟨λhb hc _ _ _ E I hx h=>Qb (r.rn hb hc E I hx h)⟩
instance Rn.ad1 [r:Rn k n C L0 L l (Q .ret) b c l' Y]:Rn k n C L0 L l (Exit.inBlock i Q .ret) b c l' Y:=⟨λhb hc _ _ _ E I hx h=>Qc (r.rn hb hc E I hx h)⟩
instance (priority:=high) Rn.ad3 [r:Rn k n C L0 L l (Q .normal) b c l' Y]:Rn k n C L0 L l (Exit.inBlock i Q (.exit i)) b c l' Y:=⟨λhb hc _ _ _ E I hx h=>Pp (r.rn hb hc E I hx h)⟩
instance Rn.ad4 [r:Rn k n C L0 L l (Q (.exit j)) b c l' Y]:Rn k n C L0 L l (Exit.inBlock i Q (.exit j)) (!Nat.beq j i&&b) c l' Y:=⟨λhb hc _ _ _ E I hx h=>by
 rw[fC,Bool.not_eq_true']at hb;exact Pq hb.1 (r.rn hb.2 hc E I hx h)⟩
variable {t u r3:Nat}{v2 v3 zv:Value}{vs cs:List Value}{R:Ending→World→Prop}{bb off e sz a2:Nat}{RR:List SP}{ek:TypeDesc}
instance Rn.Hm:Rn 0 n C L0 L l (qH P [] R .normal) true True l (rX R (.tuple #[])):=⟨λ_ _ _ _ _ E _ _ h _ hr=>Go.Proofs.YteoldcfapaiobaaGreat.Hm E hr (h _ E)⟩
instance Rn.Hl:Rn 0 n C L0 L l (qH P [] R .ret) true True l (rX R (.tuple #[])):=⟨λ_ _ _ _ _ E _ _ h _ hr=>Go.Proofs.YteoldcfapaiobaaGreat.Hl E hr (h _ E)⟩
instance Rn.Hj [fl l t v]:Rn 0 n C L0 L l (qH P [.tmp t] R .ret) true True l (rX R v):=⟨λ_ _ _ _ _ E _ _ h _ hr=>Go.Proofs.YteoldcfapaiobaaGreat.Hj E hr (h _ E)⟩
instance Rn.Hk [fl l t v] [fl l u v2]:Rn 0 n C L0 L l (qH P [.tmp t,.tmp u] R .ret) true True l (rX R (.tuple #[v,v2])):=⟨λ_ _ _ _ _ E _ _ h _ hr=>Go.Proofs.YteoldcfapaiobaaGreat.Hk E hr (h _ E)⟩
instance Rn.HX [fl l t v] [fl l u v2] [fl l r3 v3]:Rn 0 n C L0 L l (qH P [.tmp t,.tmp u,.tmp r3] R .ret) true True l (rX R (.tuple #[v,v2,v3])):=⟨λ_ _ _ _ _ E _ _ h _ hr=>Go.Proofs.YteoldcfapaiobaaGreat.HX E hr (h _ E)⟩
instance Rn.ad5 [fl l t (.pointer (some ⟨bb,off,none⟩))][q:aJ P u ek][p2:mM ek false][hi:TI P u zv sz a2] [fD L bb e cs RR] [lV cs off sz vs][p:lZ vs sz]:Rn 0 n C L0 L l (qH P [.cell t u] R .ret) true True l (rX R (.agg vs.toArray)):=⟨λ_ _ _ _ _ E I _ h _ hr =>
 Go.Proofs.YteoldcfapaiobaaGreat.Pm E hr (Ca q.h p2.h (by rw[p.h];exact hi) (I.pO sz)) (h _ E)⟩
instance Rn.ad6 [fl l t (.pointer (some ⟨bb,off,none⟩))][q:aJ P u ek][p2:mM ek false][hi:TI P u zv sz a2] [fD L bb e cs RR] [lV cs off sz vs][p:lZ vs sz] [fl l r3 v2]:Rn 0 n C L0 L l (qH P [.cell t u,.tmp r3] R .ret) true True l (rX R (.tuple #[.agg vs.toArray,v2])):=⟨λ_ _ _ _ _ E I _ h _ hr =>
 Go.Proofs.YteoldcfapaiobaaGreat.Pn E hr (Ca q.h p2.h (by rw[p.h];exact hi) (I.pO sz)) (h _ E)⟩
instance Rn.tz [r:Rn k n C L0 L l K b c l' Y]:Rn k n C L0 L l (CN b2 C K) b c l' Y:=⟨λhb hc _ _ _ E I hx h=>⟨λ_=>hx.2,r.rn hb hc E I hx h⟩⟩
instance (priority:=low) Rn.cnF [r:Rn k n C L0 L l K b c l' Y]:Rn k n C L0 L l (CN b2 C2 K) (!b2&&b) c l' Y:=⟨λhb hc _ _ _ E I hx h=>by
 rw[fC,Bool.not_eq_true']at hb;exact⟨λe=>(by rw[hb.1]at e;cases e),r.rn hb.2 hc E I hx h⟩⟩
instance Rn.one {o}[p:nS os i o][r:Rn k n C L0 L l (cH P os.toArray Q o (CN (bf.contains i) C2 (fZ P os.toArray Q C2 bf od fuel (l3 m i)))) b c l' Y] :
   Rn k n C L0 L l (fZ P os.toArray Q C2 bf ((i+1000)::od) (fuel+1) m) (CB os m i&&b) c l' Y:=⟨λhb hc a W w E I hx h=>by
 rw[fC]at hb;show fZ P os.toArray Q C2 bf (i::od) (fuel+1) m a w;exact Qd (by rw[getElem?_toArray];exact p.h) (r.rn hb.2 hc E I hx h) (QM hb.1)⟩
instance (priority:=low) Rn.pure [p:nS os i ⟨some d,op,ty,ps,af,g⟩][pk:mN Q][e:Gd os l g true][s:Sx P [] l op dN v][q:gN l d l1][r:Rn k n C L0 L ((d,v)::l1) (fZ P os.toArray Q C2 bf od fuel (l3 m i)) b2 c2 l' Y][CC:qF dN c2 c] :
   Rn (k+1) n C L0 L l (fZ P os.toArray Q C2 bf (i::od) (fuel+1) m) (mJ os.toArray (lb os.toArray.size m) bf true i&&!bf.contains i&&okB d n l1&&b2) c l' Y:=⟨λhb hc a W w E I hx h=>by
 simp only[fC,Bool.not_eq_true']at hb;obtain⟨h1,h2⟩:=CC.h hc;exact HF (pW _ _ _) (by rw[getElem?_toArray];exact p.h) hb.1.1.1 hb.1.1.2 pk.h (E.del d) (e.h E) (λw=>s.ex h1 E (Lk.nil w)) hb.1.2 λa E=>r.rn hb.2 h2 E I hx h⟩
instance (priority:=low) Rn.ad7 {jb}[p:nS os i ⟨some d,op,ty,ps,af,some jb⟩][pk:mN Q][e:Gd os l (some jb) false][q:gN l d l1][r:Rn k n C L0 L ((d,undef)::l1) (fZ P os.toArray Q C2 bf od fuel (l3 m i)) b2 c l' Y] :
   Rn (k+1) n C L0 L l (fZ P os.toArray Q C2 bf (i::od) (fuel+1) m) (mJ os.toArray (lb os.toArray.size m) bf true i&&!bf.contains i&&okB d n l1&&b2) c l' Y:=⟨λhb hc a W w E I hx h=>by
 simp only[fC,Bool.not_eq_true']at hb;exact PN (pW _ _ _) (by rw[getElem?_toArray];exact p.h) hb.1.1.1 hb.1.1.2 pk.h (E.del d) (e.h E) hb.1.2 λa E=>r.rn hb.2 hc E I hx h⟩
instance (priority:=high) Rn.held [p:nS os i ⟨some d,op,ty,ps,af,g⟩][pk:mN Q][e:Gd os l g true][s:Sx P L0 l op dN v][q:gN l d l1][r:Rn k n C L0 L ((d,v)::l1) (fZ P os.toArray Q C bf od fuel (l3 m i)) b2 c2 l' Y][CC:qF dN c2 c] :
   Rn (k+1) n C L0 L l (fZ P os.toArray Q C bf ((i+3000)::od) (fuel+1) m) (mJ os.toArray (lb os.toArray.size m) bf false i&&okB d n l1&&b2) c l' Y:=⟨λhb hc a W w E I hx h=>by
 simp only[fC]at hb;obtain⟨h1,h2⟩:=CC.h hc;exact HG (pW _ _ _) (by rw[getElem?_toArray];exact p.h) hb.1.1 pk.h (E.del d) (e.h E) (λw hw=>s.ex h1 E (hx.1 w hw)) hx.2 hb.1.2 λa E=>r.rn hb.2 h2 E I hx h⟩
instance (priority:=high) Rn.ad8 {jb}[p:nS os i ⟨some d,op,ty,ps,af,some jb⟩][pk:mN Q][e:Gd os l (some jb) false][q:gN l d l1][r:Rn k n C L0 L ((d,undef)::l1) (fZ P os.toArray Q C bf od fuel (l3 m i)) b2 c l' Y] :
   Rn (k+1) n C L0 L l (fZ P os.toArray Q C bf ((i+3000)::od) (fuel+1) m) (mJ os.toArray (lb os.toArray.size m) bf false i&&okB d n l1&&b2) c l' Y:=⟨λhb hc a W w E I hx h=>by
 simp only[fC]at hb;exact PO (pW _ _ _) (by rw[getElem?_toArray];exact p.h) hb.1.1 pk.h (E.del d) (e.h E) hx.2 hb.1.2 λa E=>r.rn hb.2 hc E I hx h⟩
instance Rn.done [r:Rn k n C L0 L l (Q .normal) b c l' Y]:Rn k n C L0 L l (fZ P os.toArray Q C2 bf [] fuel m) (QN os m&&b) c l' Y:=⟨λhb hc _ _ _ E I hx h=>by
 rw[fC]at hb;exact Qh (r.rn hb.2 hc E I hx h) (List.isEmpty_iff.1 hb.1)⟩
class Zp (vs:List Value)(ks:List Nat)(l:outParam (List (Nat×Value))):Prop where h:ks.zip vs=l
instance Zp.nil {ks}:Zp [] ks []:=⟨by simp⟩
instance Zp.cons {v vs k ks l}[h:Zp vs ks l]:Zp (v::vs) (k::ks) ((k,v)::l):=⟨by rw[List.zip_cons_cons,h.h]⟩
class App (xs ys:List Value)(zs:outParam (List Value)):Prop where h:xs++ys=zs
instance App.nil {ys}:App [] ys ys:=⟨rfl⟩
instance App.cons {x xs ys zs}[h:App xs ys zs]:App (x::xs) ys (x::zs):=⟨by rw[cons_append,h.h]⟩
instance Zp.app {xs ys zs ks l}[q:App xs ys zs][h:Zp zs ks l]:Zp (xs++ys) ks l:=⟨by rw[q.h];exact h.h⟩
class rZ (n:Nat)(l:List (Nat×Value))(d:Option Tmp)(b:outParam Bool)(F:outParam (Value→List (Nat×Value))):Prop where h:b=true→∀ {a v},Fr a n l→Fr (a.put d v) n (F v)
instance rZ.some {n l d l1}[q:gN l d l1]:rZ n l (some d) (okB d n l1) (λv=>(d,v)::l1):=⟨λh _ v E=>(E.del d).put h v⟩
class nT (P:Program)(l:List (Nat×Value))(ce:Callee)(args:List Operand)(f:outParam Nat)(vs:outParam (List Value)):Prop where
 h:g4 P f=true→∀ {a n w},Fr a n l→∀ {dst oT ty ps af g},(execOp a.eval ⟨dst,.call ⟨ce,args.toArray,oT⟩,ty,ps,af,g⟩).run P w=.ok (.enter f vs.toArray) w
instance nT.fn {P l f args vs}[ev:nh l args vs]:nT P l (.value (.func f)) args f vs:=⟨λhb a n w E _ _ _ _ _ _=>by
 have h2:a.eval (.func f)=.func (.func f) #[] #[]:=rfl;simp[execOp,resolve,h2,Deferred.ofValue,invoke,ev.ev a n E,y4 hb]⟩
instance nT.kc {P l x f us args vs zs}[ex:Ev l (.tmp x) (.func (.func f) #[] (List.toArray us))][ev:nh l args vs][q:App vs us zs]:nT P l (.value (.tmp x)) args f zs:=⟨λhb a n w E _ _ _ _ _ _=>by
 rw[← q.h];simp[execOp,resolve,ex.ev a n E,Deferred.ofValue,invoke,ev.ev a n E,y4 hb]⟩
class r0 (vs:List Value):Prop where h:∀ v∈vs,v.oneCell'=true
instance r0.nil:r0 []:=⟨by simp⟩
instance r0.ints {k m g}:r0 (ints k m g):=⟨tv⟩
class One (v:Value):Prop where h:v.oneCell'=true
instance {k i}:One (.int k i):=⟨rfl⟩
instance {b}:One (.bool b):=⟨rfl⟩
instance {s}:One (.string s):=⟨rfl⟩
instance {p}:One (.pointer p):=⟨rfl⟩
instance {p n c}:One (.slice p n c):=⟨rfl⟩
instance {t v}:One (.iface t v):=⟨rfl⟩
instance r0.cons {v vs}[h:One v][k:r0 vs]:r0 (v::vs):=⟨λx hx=>by
 rcases List.mem_cons.1 hx with rfl | hx
 ·exact h.h
 ·exact k.h x hx⟩
variable {a:Act}{w W:World}{l2:List (Nat×Value)}{p q:Prop}{bp:Bool}{F:Value→List (Nat×Value)}{dst:Option Tmp}{ce:Callee}{args:List Operand}{f:Nat}{oT:Array TypeId}{xo ze:Operand}
abbrev jH:World→Prop:=λ_=>True
theorem kJ {w:World}:Hd jH []∧jH w:=⟨Hd.any _,trivial⟩
theorem EN {fn:Func}{HY:Code}{rs:List ResultVar}{X:Ending→World→Prop}(hf:P.funcs[f]?=some fn)(hn:fn.ntmps=m)(hb:fn.body=some HY)(hr:fn.results=rs.toArray)[z:Zp vs [0,1,2,3,4,5,6,7,8,9,10,11] l](h:∀ a,Fr a m l→HY.wp P (qH P rs X) a w)
   (hm:(Nat.ble vs.length m&&Nat.ble vs.length 12)=true:=by rfl):Calls P f vs.toArray w X:=by
 rw[fC]at hm;refine Po hf hb hn (Nat.le_of_ble_eq_true hm.1) λa E=>wp_mono (h a ?_) λ_ _ _ hq=>hq fn hr;have CD:=Nat.le_of_ble_eq_true hm.2;rw[← z.h];have e:((List.range vs.length).zip vs)=[0,1,2,3,4,5,6,7,8,9,10,11].zip vs:=by
  have h3:[0,1,2,3,4,5,6,7,8,9,10,11]=List.range (vs.length+(12-vs.length)):=by rw[show vs.length+(12-vs.length)=12 from by omega];rfl
  rw[h3,List.range_add];have h4:=List.zip_append (l₁:=List.range vs.length) (l₂:=vs) (r₁:=(List.range (12-vs.length)).map (vs.length+·)) (r₂:=[]) (by simp);rw[append_nil]at h4;rw[h4];simp
 rw[← e];exact E
theorem RN (k:Nat)(E:Fr a n l)(I:U W w L)[r:Rn k n jH [] L l X b c l' Y](h:∀ a,Fr a n l'→Y a w)(hb:b=true:=by kernel_rfl)(hc:c:=by (repeat' refine And.intro ?_ ?_) <;> first | exact True.intro | omega | exact (rfl:_=_) | decide):X a w:=r.rn hb hc E I kJ h
theorem RH (k:Nat)(E:Fr a n l)(I:U W w L)(hH:Hd C L0)(hC:C w)[r:Rn k n C L0 L l X b c l' Y](h:∀ a,Fr a n l'→Y a w)(hb:b=true:=by kernel_rfl)(hc:c:=by (repeat' refine And.intro ?_ ?_) <;> first | exact True.intro | omega | exact (rfl:_=_) | decide):X a w:=r.rn hb hc E I ⟨hH,hC⟩ h
theorem RT (k:Nat)(E:Fr a n l)(I:U W w L)[r:Rn k n jH [] L l X b c l' (rX R v)](h:R (.returned v) w)(hb:b=true:=by kernel_rfl)(hc:c:=by (repeat' refine And.intro ?_ ?_) <;> first | exact True.intro | omega | exact (rfl:_=_) | decide):X a w:=r.rn hb hc E I kJ λ_ _=>h
theorem IF (k:Nat)(E:Fr a n l)(I:U W w L)[r:Rn k n jH [] L l X b c l1 ((Code.cond (.tmp t) x y).wp P Q)][g1:fl l1 t (.bool b2)][kH:gN l1 t l2][nr:BP b2 p q]
   (ht:p→∀ a,Fr a n ((t,.bool true)::l2)→x.wp P Q a w) (hf:q→∀ a,Fr a n ((t,.bool false)::l2)→y.wp P Q a w) (hb:b=true:=by kernel_rfl) (hc:c:=by (repeat' refine And.intro ?_ ?_) <;> first | exact True.intro | omega | exact (rfl:_=_) | decide):X a w :=
 r.rn hb hc E I kJ λa E=>E.by (s:=t) (λh E=>Hn E (ht h _ E)) (λh E=>Ho E (hf h _ E))
theorem QO (k:Nat)(E:Fr a n l)(I:U W w L)[r:Rn k n jH [] L l X b c l1 ((Code.cond (.tmp t) x y).wp P Q)][g1:fl l1 t (.bool b2)][kH:gN l1 t l2]
   (ht:b2=true→∀ a,Fr a n ((t,.bool true)::l2)→x.wp P Q a w) (hf:b2=false→∀ a,Fr a n ((t,.bool false)::l2)→y.wp P Q a w) (hb:b=true:=by kernel_rfl) (hc:c:=by (repeat' refine And.intro ?_ ?_) <;> first | exact True.intro | omega | exact (rfl:_=_) | decide):X a w :=
 r.rn hb hc E I kJ λa E=>E.bool (s:=t) (λh E=>Hn E (ht h _ E)) (λh E=>Ho E (hf h _ E))
theorem BY (k:Nat)(E:Fr a n l)(I:U W w L)[r:Rn k n jH [] L l X b c l1 (cH P os.toArray Q ⟨dst,op,ty,ps,af,some (j,bp)⟩ K)][d1:tw os j t][g1:fl l1 t (.bool b2)][kH:gN l1 t l2][nr:BP b2 p q]
   (ht:p→∀ a,Fr a n ((t,.bool true)::l2)→cH P os.toArray Q ⟨dst,op,ty,ps,af,some (j,bp)⟩ K a w) (hf:q→∀ a,Fr a n ((t,.bool false)::l2)→cH P os.toArray Q ⟨dst,op,ty,ps,af,some (j,bp)⟩ K a w)
   (hb:b=true:=by kernel_rfl) (hc:c:=by (repeat' refine And.intro ?_ ?_) <;> first | exact True.intro | omega | exact (rfl:_=_) | decide):X a w :=
 r.rn hb hc E I kJ λa E=>E.by (s:=t) (λh E=>ht h _ E) (λh E=>hf h _ E)
theorem w7 (E:Fr a n l)[e:Gd os l g true][ev:nT P l ce args f vs][vg:rZ n l dst bp F]{X:Ending→World→Prop}(hc:Calls P f vs.toArray w X)(CE:bp=true)(hf:g4 P f=true)
   (h:∀ e V,X e V→∃ v,e=.returned v∧∀ a',Fr a' n (F v)→K a' V):cH P os.toArray Q ⟨dst,.call ⟨ce,args.toArray,oT⟩,ty,ps,af,g⟩ K a w :=
 Hi (e.h E) (ev.h hf E) hc λe V hx=>let ⟨v,he,hv⟩:=h e V hx;⟨v,he,hv _ (vg.h CE E)⟩
section
variable {α β γ:Type}{S0:World→Prop}{S1:α→World→Prop}{S2:α→β→World→Prop}{S3:α→β→γ→World→Prop}{v1:α→Value}{HZ:α→β→Value}{H0:α→β→γ→Value}
theorem CL (k:Nat)(E:Fr a n l)(I:U W w L)[r:Rn k n jH [] L l X b c l1 (cH P os.toArray Q ⟨dst,.call ⟨ce,args.toArray,oT⟩,ty,ps,af,g⟩ K)][e:Gd os l1 g true][ev:nT P l1 ce args f vs][vg:rZ n l1 dst bp F]
   (hq:Calls P f vs.toArray w λr V=>r=.returned v∧S0 V) (h:∀ a w,Fr a n (F v)→S0 w→K a w) (hb:(b&&bp)=true:=by kernel_rfl) (hf:g4 P f=true:=by kernel_rfl) (hc:c:=by (repeat' refine And.intro ?_ ?_) <;> first | exact True.intro | omega | exact (rfl:_=_) | decide):X a w:=by
 simp only[fC]at hb;exact r.rn hb.1 hc E I kJ λa E=>w7 E hq hb.2 hf λe V ⟨h1,h2⟩=>⟨_,h1,λa E=>h a V E h2⟩
theorem aR (k:Nat)(E:Fr a n l)(I:U W w L)[r:Rn k n jH [] L l X b c l1 (cH P os.toArray Q ⟨dst,.call ⟨ce,args.toArray,oT⟩,ty,ps,af,g⟩ K)][e:Gd os l1 g true][ev:nT P l1 ce args f vs][vg:rZ n l1 dst bp F]
   (hq:Calls P f vs.toArray w λr V=>∃ x,r=.returned (v1 x)∧S1 x V) (h:∀ x a w,Fr a n (F (v1 x))→S1 x w→K a w) (hb:(b&&bp)=true:=by kernel_rfl) (hf:g4 P f=true:=by kernel_rfl) (hc:c:=by (repeat' refine And.intro ?_ ?_) <;> first | exact True.intro | omega | exact (rfl:_=_) | decide):X a w:=by
 simp only[fC]at hb;exact r.rn hb.1 hc E I kJ λa E=>w7 E hq hb.2 hf λe V ⟨x,h1,h2⟩=>⟨_,h1,λa E=>h x a V E h2⟩
theorem a6 (k:Nat)(E:Fr a n l)(I:U W w L)[r:Rn k n jH [] L l X b c l1 (cH P os.toArray Q ⟨dst,.call ⟨ce,args.toArray,oT⟩,ty,ps,af,g⟩ K)][e:Gd os l1 g true][ev:nT P l1 ce args f vs][vg:rZ n l1 dst bp F]
   (hq:Calls P f vs.toArray w λr V=>∃ x y,r=.returned (HZ x y)∧S2 x y V) (h:∀ x y a w,Fr a n (F (HZ x y))→S2 x y w→K a w) (hb:(b&&bp)=true:=by kernel_rfl) (hf:g4 P f=true:=by kernel_rfl) (hc:c:=by (repeat' refine And.intro ?_ ?_) <;> first | exact True.intro | omega | exact (rfl:_=_) | decide):X a w:=by
 simp only[fC]at hb;exact r.rn hb.1 hc E I kJ λa E=>w7 E hq hb.2 hf λe V ⟨x,y,h1,h2⟩=>⟨_,h1,λa E=>h x y a V E h2⟩
theorem jI (k:Nat)(E:Fr a n l)(I:U W w L)[r:Rn k n jH [] L l X b c l1 (cH P os.toArray Q ⟨dst,.call ⟨ce,args.toArray,oT⟩,ty,ps,af,g⟩ K)][e:Gd os l1 g true][ev:nT P l1 ce args f vs][vg:rZ n l1 dst bp F]
   (hq:Calls P f vs.toArray w λr V=>∃ x y z,r=.returned (H0 x y z)∧S3 x y z V) (h:∀ x y z a w,Fr a n (F (H0 x y z))→S3 x y z w→K a w) (hb:(b&&bp)=true:=by kernel_rfl) (hf:g4 P f=true:=by kernel_rfl) (hc:c:=by (repeat' refine And.intro ?_ ?_) <;> first | exact True.intro | omega | exact (rfl:_=_) | decide):X a w:=by
 simp only[fC]at hb;exact r.rn hb.1 hc E I kJ λa E=>w7 E hq hb.2 hf λe V ⟨x,y,z,h1,h2⟩=>⟨_,h1,λa E=>h x y z a V E h2⟩
end
theorem jJ (k:Nat)(E:Fr a n l)(I:U W w L)[r:Rn k n jH [] L l X b c l1 (cH P os.toArray Q ⟨dst,.call ⟨ce,args.toArray,oT⟩,ty,ps,af,g⟩ K)][e:Gd os l1 g true][ev:nT P l1 ce args f vs][vg:rZ n l1 dst bp F]{Z:Ending→World→Prop}
   (hq:Calls P f vs.toArray w Z) (h:∀ e w,Z e w→∃ v,e=.returned v∧∀ a,Fr a n (F v)→K a w) (hb:(b&&bp)=true:=by kernel_rfl) (hf:g4 P f=true:=by kernel_rfl) (hc:c:=by (repeat' refine And.intro ?_ ?_) <;> first | exact True.intro | omega | exact (rfl:_=_) | decide):X a w:=by
 simp only[fC]at hb;exact r.rn hb.1 hc E I kJ λa E=>w7 E hq hb.2 hf h
variable {cs lU:List Value}{zf:TypeId}{S:List SP}
theorem ST (k:Nat)(E:Fr a n l)(I:U W w L)[r:Rn k n jH [] L l X b c l1 (cH P os.toArray Q ⟨none,.store t xo ze,ty,ps,af,g⟩ K)][qI:Gd os l1 g true][ev:Ev l1 xo (.pointer (some ⟨bb,off,none⟩))][tn:Ev l1 ze v][hi:TI P t zv 1 a2][pP:Cells v [v]][o1:One v]
   [Ck:fD L bb zf cs S] [sc:pN cs off v lU] (h:∀ a w,Fr a n l1→U W w (aa bb zf lU::S)→K a w) (hb:b=true:=by kernel_rfl) (hc:c:=by (repeat' refine And.intro ?_ ?_) <;> first | exact True.intro | omega | exact (rfl:_=_) | decide) (hlt:off<cs.length:=by first | exact Nat.ad9 rfl | omega | simp):X a w :=
 r.rn hb hc E I kJ λa E=>Hg E (qI.h E) I hi o1.h hlt h
theorem SA (k:Nat)(E:Fr a n l)(I:U W w L)[r:Rn k n jH [] L l X b c l1 (cH P os.toArray Q ⟨none,.store t xo ze,ty,ps,af,g⟩ K)][qI:Gd os l1 g true][ev:Ev l1 xo (.pointer (some ⟨bb,0,none⟩))][tn:Ev l1 ze v][hi:TI P t zv m a2][pP:Cells v vs][le:lZ vs m][o1:r0 vs]
   [Ck:fD L bb zf cs S] [QQ:lZ cs m] (h:∀ a w,Fr a n l1→U W w (aa bb zf vs::S)→K a w) (hb:b=true:=by kernel_rfl) (hc:c:=by (repeat' refine And.intro ?_ ?_) <;> first | exact True.intro | omega | exact (rfl:_=_) | decide):X a w :=
 r.rn hb hc E I kJ λa E=>Pb E (qI.h E) I (by rw[le.h];exact hi) o1.h (by rw[le.h,QQ.h]) h
theorem AL (k:Nat)(E:Fr a n l)(I:U W w L)[r:Rn k n jH [] L l X b c l1 (cH P os.toArray Q ⟨some d,.alloc t,ty,ps,af,g⟩ K)][qI:Gd os l1 g true][hi:TI P t zv m a2][pP:Cells zv vs][q:gN l1 d l2]
   (h:∀ b a V,Fr a n ((d,.pointer (some ⟨b,0,none⟩))::l2)→U W V (aa b t vs::L)→K a V) (hb:(b&&okB d n l2)=true:=by kernel_rfl) (hc:c:=by (repeat' refine And.intro ?_ ?_) <;> first | exact True.intro | omega | exact (rfl:_=_) | decide):X a w:=by
 rw[fC]at hb;exact r.rn hb.1 hc E I kJ λa E=>eW (E.del d) (qI.h E) I hi hb.2 λb a w E I _=>h b a w E I
theorem BX (k:Nat)(E:Fr a n l)(I:U W w L)[r:Rn k n jH [] L l X b c l1 (cH P os.toArray Q ⟨some d,.box t xo,ty,ps,af,g⟩ K)][qI:Gd os l1 g true][ev:Ev l1 xo v][pP:Cells v vs][q:gN l1 d l2]
   (h:∀ b a V,Fr a n ((d,.pointer (some ⟨b,0,none⟩))::l2)→U W V (aa b t vs::L)→K a V) (hb:(b&&okB d n l2)=true:=by kernel_rfl) (hc:c:=by (repeat' refine And.intro ?_ ?_) <;> first | exact True.intro | omega | exact (rfl:_=_) | decide):X a w:=by
 rw[fC]at hb;refine r.rn hb.1 hc E I kJ λa E=>?_;have:=ev.ev a n E;refine bC (v:=.pointer (some ⟨w.heap.size,0,none⟩)) (V:=w.alloc (.cells vs.toArray t)) (E.del d) (qI.h E) ?_ hb.2 (λa' di=>h _ _ _ di (I.alloc _));simp[execOp,Instr.box,this,newVar,newRow,newObj,Sem.run,pP.h,Sem.run_bind]
theorem SX (k:Nat)(E:Fr a n l)(I:U W w L)[r:Rn k n jH [] L l X b c l1 (cH P os.toArray Q ⟨some d,op,ty,ps,af,g⟩ K)][qI:Gd os l1 g true][s:Sx P L l1 op dN v][q:gN l1 d l2](h1:dN)
   (h:∀ a,Fr a n ((d,v)::l2)→K a w) (hb:(b&&okB d n l2)=true:=by kernel_rfl) (hc:c:=by (repeat' refine And.intro ?_ ?_) <;> first | exact True.intro | omega | exact (rfl:_=_) | decide):X a w:=by
 rw[fC]at hb;exact r.rn hb.1 hc E I kJ λa E=>bC (E.del d) (qI.h E) (s.ex h1 E (Lk.of I)) hb.2 h
theorem QP [p:nS os i ⟨some d,op,ty,ps,af,g⟩][pk:mN Q][e:Gd os l g true][q:gN l d l1](E:Fr a n l)(hr:∀ w,(execOp a.eval ⟨some d,op,ty,ps,af,g⟩).run P w=.ok (.value v) w)
   (h:∀ a,Fr a n ((d,v)::l1)→fZ P os.toArray Q C2 bf od fuel (l3 m i) a w) (hb:(mJ os.toArray (lb os.toArray.size m) bf true i&&!bf.contains i&&okB d n l1)=true:=by kernel_rfl):fZ P os.toArray Q C2 bf (i::od) (fuel+1) m a w:=by
 simp only[fC,Bool.not_eq_true']at hb;exact HF (pW _ _ _) (by rw[getElem?_toArray];exact p.h) hb.1.1 hb.1.2 pk.h (E.del d) (e.h E) hr hb.2 h
theorem QH [p:nS os i ⟨some d,op,ty,ps,af,g⟩][pk:mN Q][e:Gd os l g true][q:gN l d l1](E:Fr a n l)(hr:∀ w,C2 w→(execOp a.eval ⟨some d,op,ty,ps,af,g⟩).run P w=.ok (.value v) w)(hC:C2 w)
   (h:∀ a,Fr a n ((d,v)::l1)→fZ P os.toArray Q C2 bf od fuel (l3 m i) a w) (hb:(mJ os.toArray (lb os.toArray.size m) bf false i&&okB d n l1)=true:=by kernel_rfl):fZ P os.toArray Q C2 bf ((i+3000)::od) (fuel+1) m a w:=by
 simp only[fC]at hb;exact HG (pW _ _ _) (by rw[getElem?_toArray];exact p.h) hb.1 pk.h (E.del d) (e.h E) hr hC hb.2 h
theorem aY (k:Nat)(C:World→World→Prop)(bf od:List Nat)(E:Fr a n l)(I:U W w L)[r:Rn k n jH [] L l X b c l1 ((Code.region i os.toArray true).wp P Q)][pk:mN Q][w8:zd P]
   (h:∀ a w,Fr a n l1→U W w L→Hd (C w) []→fZ P os.toArray Q (C w) bf od os.length 0 a w) (hb:b=true:=by kernel_rfl) (hc:c:=by (repeat' refine And.intro ?_ ?_) <;> first | exact True.intro | omega | exact (rfl:_=_) | decide):X a w :=
 r.rn hb hc E I kJ λa E=>Go.Proofs.YteoldcfapaiobaaGreat.DW (C w.drew) bf od w8.h pk.h (λ_=>h a _ E I.drew (Hd.any _)) List.size_toArray
theorem qJ (k:Nat)(C:World→Prop)(bf od:List Nat)(E:Fr a n l)(I:U W w L)[r:Rn k n jH [] L l X b c l1 ((Code.region i os.toArray true).wp P Q)][pk:mN Q][w8:zd P]
   (h:∀ a,Fr a n l1→fZ P os.toArray Q C bf od os.length 0 a w.drew) (hb:b=true:=by kernel_rfl) (hc:c:=by (repeat' refine And.intro ?_ ?_) <;> first | exact True.intro | omega | exact (rfl:_=_) | decide):X a w :=
 r.rn hb hc E I kJ λa E=>Go.Proofs.YteoldcfapaiobaaGreat.DW C bf od w8.h pk.h (λ_=>h a E) List.size_toArray
theorem bS (k:Nat)(bf od:List Nat)(E:Fr a n l)(I:U W w L)[r:Rn k n jH [] L l X b c l1 ((Code.region i os.toArray true).wp P Q)][pk:mN Q][w8:zd P]
   (h:∀ a w,Fr a n l1→U W w L→Hd (Old w) L→Old w w→fZ P os.toArray Q (Old w) bf od os.length 0 a w) (hb:b=true:=by kernel_rfl) (hc:c:=by (repeat' refine And.intro ?_ ?_) <;> first | exact True.intro | omega | exact (rfl:_=_) | decide):X a w :=
 r.rn hb hc E I kJ λa E=>Go.Proofs.YteoldcfapaiobaaGreat.DW (Old w.drew) bf od w8.h pk.h (λ_=>h a _ E I.drew (Hd.gv I.drew) (Old.refl _)) List.size_toArray
end
section
variable {P:Program}{ops:Array Oper}{Q:Exit→Act→World→Prop}{C:World→Prop}{bf:List Nat}{fuel m:Nat}{a:Act}{w:World}
def w9 (P:Program)(ops:Array Oper)(Q:Exit→Act→World→Prop)(C:World→Prop)(bf:List Nat)(fuel m:Nat)(a:Act)(w:World):List (Nat×List Nat)→Prop
 | []=>True
 | (i,od)::r=>(∃ o,ops[i]?=some o∧cH P ops Q o (CN (bf.contains i) C (fZ P ops Q C bf od fuel (l3 m i))) a w)∧w9 P ops Q C bf fuel m a w r
theorem w9.get:∀ {l:List (Nat×List Nat)} {i:Nat},w9 P ops Q C bf fuel m a w l→i∈l.map (·.1)→∃ (o:Oper) (od:List Nat),ops[i]?=some o∧cH P ops Q o (CN (bf.contains i) C (fZ P ops Q C bf od fuel (l3 m i))) a w
 | [],_,_,h=>by simp at h
 | (j,od)::r,i,⟨⟨o,h1,h2⟩,h3⟩,h=>by
  rw[map_cons]at h;rcases List.mem_cons.1 h with rfl | h
  ·exact⟨o,od,h1,h2⟩
  ·exact w9.get h3 h
theorem DN {od:List Nat}(l:List (Nat×List Nat))(hr:Region.ready .any ops (lb ops.size m)=l.map (·.1))(bP:l.isEmpty=false)(h:w9 P ops Q C bf fuel m a w l):fZ P ops Q C bf od (fuel+1) m a w:=by
 refine⟨λh0=>?_,λj hj=>?_⟩
 ·rw[hr]at h0;cases l with
  | nil=>cases bP
  | cons x r=>cases h0
 ·rw[hr]at hj;obtain⟨o,od,h1,h2⟩:=h.get hj;simp only[wpOp,h1,pW];exact h2
end
end
section
abbrev pt (b:Nat):Value:=.pointer (some ⟨b,0,none⟩)
theorem Hd.at {C:World→Prop}{L:List SP}(_:Hd C L)(w:World)(h:C w):C w:=h
theorem ae {P:Program}{a:Act}{w:World}{n:Nat}{l:List (Nat × Value)}{x ad t v dst ty ps af g}(E:Fr a n l)(hc:w.cell? ad=some v)[u:Cn P t][ev:Ev l x (.pointer (some ad))]:(execOp a.eval ⟨dst,.load t x,ty,ps,af,g⟩).run P w=.ok (.value v) w:=by
 obtain ⟨ek,h1,h2⟩:=u.h;exact He E h1 h2 hc
theorem SS {P:Program}{ops:Array Oper}{Q:Exit→Act→World→Prop}{a:Act}{w:World}{K:Act→World→Prop}{n d:Nat}{l:List (Nat × Value)}{v:Value}{op ty ps af g}(E:Fr a n l)(hr:(execOp a.eval ⟨some d,op,ty,ps,af,g⟩).run P w=.ok (.value v) w)(h:∀ a',Fr a' n ((d,v)::l)→K a' w)(hw:Region.wanted ⟨some d,op,ty,ps,af,g⟩ (yielded ops a.tmps)=true:=by rfl)(hf:okB d n l=true:=by rfl):cH P ops Q ⟨some d,op,ty,ps,af,g⟩ K a w:=bC E hw hr hf h
end
section
instance Ty.t2:TI prog 2 (.int .i64 0) 1 8:=TI.of (by kernel_rfl)
instance Ty.t3:TI prog 3 (.int .i64 0) 1 8:=TI.of (by kernel_rfl)
instance Ty.t4:TI prog 4 (.bool false) 1 1:=TI.of (by kernel_rfl)
instance Ty.t5:TI prog 5 (.int .u8 0) 1 1:=TI.of (by kernel_rfl)
instance Ty.t9:TI prog 9 (.string ⟨#[]⟩) 1 16:=TI.of (by kernel_rfl)
instance Ty.t21:TI prog 21 (.int .i32 0) 1 4:=TI.of (by kernel_rfl)
instance Ty.t22:TI prog 22 (.slice none 0 0) 1 24:=TI.of (by kernel_rfl)
instance Ty.t28:TI prog 28 (.agg #[.int .i64 0,.int .i64 0,.int .i64 0,.int .i64 0,.int .i64 0,.int .i64 0,.int .i64 0,.int .i64 0,.int .i64 0,.int .i64 0]) 10 80:=TI.of (by kernel_rfl)
instance Ty.t34:TI prog 34 (.pointer none) 1 8:=TI.of (by kernel_rfl)
instance Ty.t35:TI prog 35 (.pointer none) 1 8:=TI.of (by kernel_rfl)
instance Ty.t36:TI prog 36 (.slice none 0 0) 1 24:=TI.of (by kernel_rfl)
instance Ty.t37:TI prog 37 (.slice none 0 0) 1 24:=TI.of (by kernel_rfl)
instance Ty.t38:TI prog 38 (.slice none 0 0) 1 24:=TI.of (by kernel_rfl)
instance Ty.t40:TI prog 40 (.agg #[.pointer none,.slice none 0 0,.slice none 0 0,.slice none 0 0]) 4 80:=TI.of (by kernel_rfl)
instance Ty.t42:TI prog 42 (.pointer none) 1 8:=TI.of (by kernel_rfl)
instance Ty.t43:TI prog 43 (.slice none 0 0) 1 24:=TI.of (by kernel_rfl)
instance Ty.t45:TI prog 45 (.agg #[.string ⟨#[]⟩,.slice none 0 0]) 2 40:=TI.of (by kernel_rfl)
instance Ty.t47:TI prog 47 (.agg #[.int .i64 0,.int .i64 0,.slice none 0 0]) 3 40:=TI.of (by kernel_rfl)
instance Ty.t49:TI prog 49 (.agg #[.int .i32 0,.int .i32 0,.int .i32 0,.int .i32 0,.int .i32 0,.int .i32 0,.int .i32 0,.int .i32 0,.int .i32 0,.int .i32 0,.int .i32 0,.int .i32 0,.int .i32 0,.int .i32 0,.int .i32 0,.int .i32 0,.int .i32 0,.int .i32 0,.int .i32 0,.int .i32 0,.int .i32 0,.int .i32 0,.int .i32 0,.int .i32 0,.int .i32 0,.int .i32 0,.int .i32 0,.int .i32 0,.int .i32 0,.int .i32 0,.int .i32 0,.int .i32 0]) 32 128:=TI.of (by kernel_rfl)
instance Ty.t51:TI prog 51 (.agg ((.pointer none::.string ⟨#[]⟩::.slice none 0 0::.int .i64 0::.int .i64 0::.slice none 0 0::.int .i32 0::.int .i32 0::.int .i32 0::.int .i32 0::.int .i32 0::.int .i32 0::.int .i32 0::.int .i32 0::.int .i32 0::.int .i32 0::.int .i32 0::.int .i32 0::.int .i32 0::.int .i32 0::.int .i32 0::.int .i32 0::.int .i32 0::.int .i32 0::.int .i32 0::.int .i32 0::.int .i32 0::.int .i32 0::.int .i32 0::.int .i32 0::.int .i32 0::.int .i32 0::.int .i32 0::.int .i32 0::.int .i32 0::.int .i32 0::.int .i32 0::.int .i32 0::[]):List Value).toArray) 38 216:=TI.of (by kernel_rfl)
instance Ty.t53:TI prog 53 (.slice none 0 0) 1 24:=TI.of (by kernel_rfl)
instance Ty.t58:TI prog 58 (.agg #[.int .i64 0,.int .i64 0,.int .i64 0,.int .i64 0]) 4 32:=TI.of (by kernel_rfl)
instance Ty.t60:TI prog 60 (.agg #[.int .i64 0,.int .i64 0,.slice none 0 0]) 3 40:=TI.of (by kernel_rfl)
instance Ty.t62:TI prog 62 (.pointer none) 1 8:=TI.of (by kernel_rfl)
instance Ty.t65:TI prog 65 (.agg #[.slice none 0 0]) 1 24:=TI.of (by kernel_rfl)
instance Ty.t66:TI prog 66 (.slice none 0 0) 1 24:=TI.of (by kernel_rfl)
instance Ty.t67:TI prog 67 (.slice none 0 0) 1 24:=TI.of (by kernel_rfl)
instance Ty.t68:TI prog 68 (.slice none 0 0) 1 24:=TI.of (by kernel_rfl)
instance Ty.t69:TI prog 69 (.slice none 0 0) 1 24:=TI.of (by kernel_rfl)
instance Ty.t70:TI prog 70 (.slice none 0 0) 1 24:=TI.of (by kernel_rfl)
instance Ty.t72:TI prog 72 (.agg #[.int .i64 0,.int .i64 0,.int .i64 0,.int .i64 0,.int .i64 0,.int .i64 0,.int .i64 0,.int .i64 0,.int .i64 0,.int .i64 0,.slice none 0 0,.int .i64 0,.slice none 0 0,.slice none 0 0,.slice none 0 0,.slice none 0 0,.slice none 0 0,.slice none 0 0,.bool false]) 19 264:=TI.of (by kernel_rfl)
instance Ty.t81:TI prog 81 (.nilIface) 1 16:=TI.of (by kernel_rfl)
instance Ty.t90:TI prog 90 (.slice none 0 0) 1 24:=TI.of (by kernel_rfl)
instance Ty.t100:TI prog 100 (.int .u32 0) 1 4:=TI.of (by kernel_rfl)
instance Ty.t102:TI prog 102 (.agg #[.int .i64 0,.int .i64 0,.int .i64 0]) 3 24:=TI.of (by kernel_rfl)
instance Ty.t104:TI prog 104 (.slice none 0 0) 1 24:=TI.of (by kernel_rfl)
instance Ty.t105:TI prog 105 (.slice none 0 0) 1 24:=TI.of (by kernel_rfl)
instance Ty.t107:TI prog 107 (.agg #[.slice none 0 0,.pointer none,.slice none 0 0]) 3 56:=TI.of (by kernel_rfl)
instance Ty.t108:TI prog 108 (.slice none 0 0) 1 24:=TI.of (by kernel_rfl)
instance Ty.t110:TI prog 110 (.agg #[.slice none 0 0]) 1 24:=TI.of (by kernel_rfl)
instance Ty.t114:TI prog 114 (.agg #[.int .i64 0,.int .i64 0,.int .i64 0,.int .i64 0]) 4 32:=TI.of (by kernel_rfl)
instance Ty.t124:TI prog 124 (.agg #[.int .i64 0,.int .i64 0,.slice none 0 0]) 3 40:=TI.of (by kernel_rfl)
instance Ty.t133:TI prog 133 (.nilIface) 1 16:=TI.of (by kernel_rfl)
instance Ty.t135:TI prog 135 (.agg #[.nilIface]) 1 16:=TI.of (by kernel_rfl)
instance Ty.t139:TI prog 139 (.pointer none) 1 8:=TI.of (by kernel_rfl)
instance Ty.t158:TI prog 158 (.pointer none) 1 8:=TI.of (by kernel_rfl)
instance Ty.t162:TI prog 162 (.pointer none) 1 8:=TI.of (by kernel_rfl)
instance Ty.t164:TI prog 164 (.agg (List.replicate 201 (.int .i64 0)).toArray) 201 1608:=TI.of (by kernel_rfl)
instance Ty.t166:TI prog 166 (.int .i64 0) 1 8:=TI.of (by kernel_rfl)
instance Ty.t168:TI prog 168 (.slice none 0 0) 1 24:=TI.of (by kernel_rfl)
instance Ty.t169:TI prog 169 (.pointer none) 1 8:=TI.of (by kernel_rfl)
instance Ty.t173:TI prog 173 (.pointer none) 1 8:=TI.of (by kernel_rfl)
instance Ty.t175:TI prog 175 (.slice none 0 0) 1 24:=TI.of (by kernel_rfl)
instance Ty.t177:TI prog 177 (.agg #[.pointer none,.string ⟨#[]⟩,.slice none 0 0,.pointer none,.pointer none,.pointer none,.slice none 0 0,.int .i64 0,.int .i64 0]) 9 112:=TI.of (by kernel_rfl)
instance Ty.t179:TI prog 179 (.pointer none) 1 8:=TI.of (by kernel_rfl)
instance Ty.t183:TI prog 183 (.agg #[.int .i32 0,.int .i32 0,.int .i32 0,.int .i32 0,.int .i32 0,.int .i32 0,.int .i32 0,.int .i32 0,.int .i32 0,.int .i32 0,.int .i32 0,.int .i32 0,.int .i32 0,.int .i32 0,.int .i32 0,.int .i32 0,.int .i32 0,.int .i32 0,.int .i32 0,.int .i32 0,.int .i32 0,.int .i32 0,.int .i32 0,.int .i32 0,.int .i32 0,.int .i32 0,.int .i32 0,.int .i32 0,.int .i32 0,.int .i32 0,.int .i32 0,.int .i32 0]) 32 128:=TI.of (by kernel_rfl)
instance Ty.t186:TI prog 186 (.agg #[.int .i64 0,.int .i64 0,.slice none 0 0]) 3 40:=TI.of (by kernel_rfl)
instance Ty.t187:TI prog 187 (.pointer none) 1 8:=TI.of (by kernel_rfl)
instance Ty.t192:TI prog 192 (.agg ((.pointer none::.string ⟨#[]⟩::.slice none 0 0::.int .i64 0::.int .i64 0::.slice none 0 0::.int .i32 0::.int .i32 0::.int .i32 0::.int .i32 0::.int .i32 0::.int .i32 0::.int .i32 0::.int .i32 0::.int .i32 0::.int .i32 0::.int .i32 0::.int .i32 0::.int .i32 0::.int .i32 0::.int .i32 0::.int .i32 0::.int .i32 0::.int .i32 0::.int .i32 0::.int .i32 0::.int .i32 0::.int .i32 0::.int .i32 0::.int .i32 0::.int .i32 0::.int .i32 0::.int .i32 0::.int .i32 0::.int .i32 0::.int .i32 0::.int .i32 0::.int .i32 0::[]):List Value).toArray) 38 216:=TI.of (by kernel_rfl)
instance Ty.t203:TI prog 203 (.agg #[.int .i64 0,.int .i64 0,.int .i64 0,.int .i64 0,.int .i64 0,.slice none 0 0,.int .i64 0,.int .i64 0,.int .u32 0]) 9 88:=TI.of (by kernel_rfl)
instance Ty.t207:TI prog 207 (.slice none 0 0) 1 24:=TI.of (by kernel_rfl)
instance Ty.t210:TI prog 210 (.agg #[.int .i64 0]) 1 8:=TI.of (by kernel_rfl)
instance Ty.t211:TI prog 211 (.agg #[.int .i64 0]) 1 8:=TI.of (by kernel_rfl)
instance Ty.t213:TI prog 213 (.agg #[.int .i64 0,.int .i64 0]) 2 16:=TI.of (by kernel_rfl)
instance Ty.t218:TI prog 218 (.map none) 1 8:=TI.of (by kernel_rfl)
instance Ty.t219:TI prog 219 (.pointer none) 1 8:=TI.of (by kernel_rfl)
instance Ty.t221:TI prog 221 (.agg #[.pointer none,.map none,.int .i64 0]) 3 24:=TI.of (by kernel_rfl)
instance Ty.t222:TI prog 222 (.slice none 0 0) 1 24:=TI.of (by kernel_rfl)
instance Ty.t224:TI prog 224 (.agg #[.slice none 0 0]) 1 24:=TI.of (by kernel_rfl)
instance Ty.t225:TI prog 225 (.agg #[.int .i32 0,.int .i32 0,.int .i32 0,.int .i32 0,.int .i32 0,.int .i32 0,.int .i32 0,.int .i32 0]) 8 32:=TI.of (by kernel_rfl)
instance Ty.t227:TI prog 227 (.agg #[.int .i32 0,.int .i32 0,.int .i32 0,.int .i32 0,.int .i32 0,.int .i32 0,.int .i32 0,.int .i32 0,.int .i64 0]) 9 40:=TI.of (by kernel_rfl)
instance Ty.t230:TI prog 230 (.agg #[.int .i64 0,.int .i64 0,.int .i64 0,.int .i64 0]) 4 32:=TI.of (by kernel_rfl)
instance Ty.t232:TI prog 232 (.agg #[.int .i64 0,.int .i64 0,.int .i64 0,.int .i64 0,.int .i64 0]) 5 40:=TI.of (by kernel_rfl)
instance Ty.t236:TI prog 236 (.agg #[.pointer none,.int .i64 0,.slice none 0 0,.int .i64 0,.int .i64 0]) 5 56:=TI.of (by kernel_rfl)
instance Ty.t238:TI prog 238 (.agg #[.int .i64 0,.int .i64 0,.slice none 0 0,.int .i64 0,.int .i64 0]) 5 56:=TI.of (by kernel_rfl)
instance Ty.t241:TI prog 241 (.slice none 0 0) 1 24:=TI.of (by kernel_rfl)
instance Ty.t243:TI prog 243 (.agg #[.slice none 0 0]) 1 24:=TI.of (by kernel_rfl)
instance Ty.t245:TI prog 245 (.agg #[.int .i64 0,.int .i64 0]) 2 16:=TI.of (by kernel_rfl)
instance Ty.t247:TI prog 247 (.agg #[.string ⟨#[]⟩,.slice none 0 0,.pointer none,.pointer none,.pointer none,.bool false,.int .i64 0,.int .i64 0,.int .i64 0,.int .i64 0,.bool false]) 11 112:=TI.of (by kernel_rfl)
instance Ty.t253:TI prog 253 (.pointer none) 1 8:=TI.of (by kernel_rfl)
instance Ty.t255:TI prog 255 (.slice none 0 0) 1 24:=TI.of (by kernel_rfl)
instance Ty.t257:TI prog 257 (.agg #[.int .i64 0,.int .i64 0,.int .i64 0,.int .i64 0,.int .i64 0,.int .i64 0,.int .i64 0,.int .i64 0,.int .i64 0,.int .i64 0,.pointer none,.slice none 0 0,.slice none 0 0,.slice none 0 0,.int .i64 0,.bool false]) 16 176:=TI.of (by kernel_rfl)
instance Ty.t259:TI prog 259 (.agg #[.int .i64 0,.int .i64 0,.int .i64 0,.int .u32 0,.bool false]) 5 32:=TI.of (by kernel_rfl)
instance Ty.t286:TI prog 286 (.slice none 0 0) 1 24:=TI.of (by kernel_rfl)
instance Ty.t288:TI prog 288 (.agg #[.slice none 0 0]) 1 24:=TI.of (by kernel_rfl)
instance Ty.t289:TI prog 289 (.pointer none) 1 8:=TI.of (by kernel_rfl)
instance Ty.t296:TI prog 296 (.agg ((.int .i32 0::.int .i32 0::.int .i32 0::.int .i32 0::.int .i32 0::.int .i32 0::.int .i32 0::.int .i32 0::.int .i32 0::.int .i32 0::.int .i32 0::.int .i32 0::.int .i32 0::.int .i32 0::.int .i32 0::.int .i32 0::.int .i32 0::.int .i32 0::.int .i32 0::.int .i32 0::.int .i32 0::.int .i32 0::.int .i32 0::.int .i32 0::.int .i32 0::.int .i32 0::.int .i32 0::.int .i32 0::.int .i32 0::.int .i32 0::.int .i32 0::.int .i32 0::[]):List Value).toArray) 32 128:=TI.of (by kernel_rfl)
instance Ty.t307:TI prog 307 (.agg #[.pointer none,.int .i64 0,.bool false]) 3 24:=TI.of (by kernel_rfl)
instance Ty.t313:TI prog 313 (.agg #[.int .i64 0,.int .u32 0]) 2 16:=TI.of (by kernel_rfl)
instance Ty.t320:TI prog 320 (.agg (List.replicate 256 (.int .i64 0)).toArray) 256 2048:=TI.of (by kernel_rfl)
instance Ty.t322:TI prog 322 (.agg (List.replicate 256 (.bool false)).toArray) 256 256:=TI.of (by kernel_rfl)
instance Ty.t328:TI prog 328 (.agg #[.slice none 0 0]) 1 24:=TI.of (by kernel_rfl)
instance Ty.t333:TI prog 333 (.nilIface) 1 16:=TI.of (by kernel_rfl)
instance Ty.t336:TI prog 336 (.agg #[.string ⟨#[]⟩,.slice none 0 0,.nilIface,.int .i64 0,.slice none 0 0,.int .i64 0]) 6 96:=TI.of (by kernel_rfl)
instance Ty.t345:TI prog 345 (.agg #[.int .i64 0,.int .i64 0,.int .i64 0,.int .i64 0]) 4 32:=TI.of (by kernel_rfl)
instance Ty.t423:TI prog 423 (.agg #[.int .u8 0,.int .u8 0]) 2 2:=TI.of (by kernel_rfl)
instance Ty.t427:TI prog 427 (.agg #[.slice none 0 0,.bool false]) 2 32:=TI.of (by kernel_rfl)
instance Ty.t429:TI prog 429 (.agg #[.int .i64 0,.int .i64 0,.int .i64 0]) 3 24:=TI.of (by kernel_rfl)
instance Ty.H2:ew prog 28 [(0,1),(1,1),(2,1),(3,1),(4,1),(5,1),(6,1),(7,1),(8,1),(9,1)]:=⟨_,underlying28,λw=>by kernel_rfl⟩
instance Ty.H3:ew prog 40 [(0,1),(1,1),(2,1),(3,1)]:=⟨_,underlying40,λw=>by kernel_rfl⟩
instance Ty.b45:ew prog 45 [(0,1),(1,1)]:=⟨_,underlying45,λw=>by kernel_rfl⟩
instance Ty.b47:ew prog 47 [(0,1),(1,1),(2,1)]:=⟨_,underlying47,λw=>by kernel_rfl⟩
instance Ty.QR:ew prog 51 [(0,1),(1,2),(3,3),(6,32)]:=⟨_,underlying51,λw=>by kernel_rfl⟩
instance Ty.b58:ew prog 58 [(0,1),(1,1),(2,1),(3,1)]:=⟨_,underlying58,λw=>by kernel_rfl⟩
instance Ty.QS:ew prog 60 [(0,1),(1,1),(2,1)]:=⟨_,underlying60,λw=>by kernel_rfl⟩
instance Ty.QT:ew prog 65 [(0,1)]:=⟨_,underlying65,λw=>by kernel_rfl⟩
instance Ty.b72:ew prog 72 [(0,10),(10,1),(11,1),(12,1),(13,1),(14,1),(15,1),(16,1),(17,1),(18,1)]:=⟨_,underlying72,λw=>by kernel_rfl⟩
instance Ty.aea:ew prog 102 [(0,1),(1,1),(2,1)]:=⟨_,underlying102,λw=>by kernel_rfl⟩
instance Ty.aeb:ew prog 107 [(0,1),(1,1),(2,1)]:=⟨_,underlying107,λw=>by kernel_rfl⟩
instance Ty.QU:ew prog 110 [(0,1)]:=⟨_,underlying110,λw=>by kernel_rfl⟩
instance Ty.QV:ew prog 114 [(0,1),(1,1),(2,1),(3,1)]:=⟨_,underlying114,λw=>by kernel_rfl⟩
instance Ty.aec:ew prog 124 [(0,1),(1,1),(2,1)]:=⟨_,underlying124,λw=>by kernel_rfl⟩
instance Ty.aed:ew prog 135 [(0,1)]:=⟨_,underlying135,λw=>by kernel_rfl⟩
instance Ty.aee:ew prog 177 [(0,1),(1,2),(3,1),(4,1),(5,1),(6,1),(7,1),(8,1)]:=⟨_,underlying177,λw=>by kernel_rfl⟩
instance Ty.aef:ew prog 186 [(0,1),(1,1),(2,1)]:=⟨_,underlying186,λw=>by kernel_rfl⟩
instance Ty.aeg:ew prog 192 [(0,1),(1,2),(3,3),(6,32)]:=⟨_,underlying192,λw=>by kernel_rfl⟩
instance Ty.aeh:ew prog 203 [(0,1),(1,1),(2,1),(3,1),(4,1),(5,1),(6,1),(7,1),(8,1)]:=⟨_,underlying203,λw=>by kernel_rfl⟩
instance Ty.aei:ew prog 210 [(0,1)]:=⟨_,underlying210,λw=>by kernel_rfl⟩
instance Ty.aej:ew prog 211 [(0,1)]:=⟨_,underlying211,λw=>by kernel_rfl⟩
instance Ty.aek:ew prog 213 [(0,1),(1,1)]:=⟨_,underlying213,λw=>by kernel_rfl⟩
instance Ty.ael:ew prog 221 [(0,1),(1,1),(2,1)]:=⟨_,underlying221,λw=>by kernel_rfl⟩
instance Ty.aem:ew prog 224 [(0,1)]:=⟨_,underlying224,λw=>by kernel_rfl⟩
instance Ty.aen:ew prog 227 [(0,8),(8,1)]:=⟨_,underlying227,λw=>by kernel_rfl⟩
instance Ty.aeo:ew prog 236 [(0,1),(1,1),(2,1),(3,1),(4,1)]:=⟨_,underlying236,λw=>by kernel_rfl⟩
instance Ty.aep:ew prog 238 [(0,1),(1,1),(2,1),(3,1),(4,1)]:=⟨_,underlying238,λw=>by kernel_rfl⟩
instance Ty.aeq:ew prog 243 [(0,1)]:=⟨_,underlying243,λw=>by kernel_rfl⟩
instance Ty.aer:ew prog 245 [(0,1),(1,1)]:=⟨_,underlying245,λw=>by kernel_rfl⟩
instance Ty.aes:ew prog 247 [(0,2),(2,1),(3,1),(4,1),(5,1),(6,2),(8,1),(9,1),(10,1)]:=⟨_,underlying247,λw=>by kernel_rfl⟩
instance Ty.aet:ew prog 257 [(0,10),(10,1),(11,1),(12,1),(13,1),(14,1),(15,1)]:=⟨_,underlying257,λw=>by kernel_rfl⟩
instance Ty.aeu:ew prog 259 [(0,1),(1,1),(2,1),(3,1),(4,1)]:=⟨_,underlying259,λw=>by kernel_rfl⟩
instance Ty.aev:ew prog 288 [(0,1)]:=⟨_,underlying288,λw=>by kernel_rfl⟩
instance Ty.QW:ew prog 296 [(0,32)]:=⟨_,underlying296,λw=>by kernel_rfl⟩
instance Ty.aew:ew prog 307 [(0,1),(1,1),(2,1)]:=⟨_,underlying307,λw=>by kernel_rfl⟩
instance Ty.aex:ew prog 313 [(0,1),(1,1)]:=⟨_,underlying313,λw=>by kernel_rfl⟩
instance Ty.aey:ew prog 328 [(0,1)]:=⟨_,underlying328,λw=>by kernel_rfl⟩
instance Ty.aez:ew prog 336 [(0,2),(2,1),(3,1),(4,1),(5,1)]:=⟨_,underlying336,λw=>by kernel_rfl⟩
instance Ty.aeA:ew prog 427 [(0,1),(1,1)]:=⟨_,underlying427,λw=>by kernel_rfl⟩
abbrev U2:=aJ.of underlying2
abbrev U3:=aJ.of underlying3
abbrev U4:=aJ.of underlying4
abbrev U5:=aJ.of underlying5
abbrev U9:=aJ.of underlying9
abbrev QX:=aJ.of underlying21
abbrev QY:=aJ.of underlying22
abbrev QZ:=aJ.of underlying28
abbrev Q0:=aJ.of underlying31
abbrev Q1:=aJ.of underlying33
abbrev Q2:=aJ.of underlying34
abbrev Q3:=aJ.of underlying35
abbrev Q4:=aJ.of underlying36
abbrev Q5:=aJ.of underlying37
abbrev Q6:=aJ.of underlying38
abbrev Q7:=aJ.of underlying40
abbrev Q8:=aJ.of underlying42
abbrev Q9:=aJ.of underlying43
abbrev Ra:=aJ.of underlying45
abbrev Rb:=aJ.of underlying47
abbrev Rc:=aJ.of underlying49
abbrev Re:=aJ.of underlying51
abbrev Rf:=aJ.of underlying53
abbrev Rg:=aJ.of underlying54
abbrev Rh:=aJ.of underlying55
abbrev Ri:=aJ.of underlying58
abbrev Rj:=aJ.of underlying60
abbrev Rk:=aJ.of underlying62
abbrev Rl:=aJ.of underlying65
abbrev Rm:=aJ.of underlying66
abbrev Rp:=aJ.of underlying67
abbrev Rq:=aJ.of underlying68
abbrev Rr:=aJ.of underlying69
abbrev Rs:=aJ.of underlying70
abbrev Rt:=aJ.of underlying72
abbrev Ru:=aJ.of underlying74
abbrev Rv:=aJ.of underlying78
abbrev Rw:=aJ.of underlying81
abbrev Rx:=aJ.of underlying84
abbrev Ry:=aJ.of underlying90
abbrev Rz:=aJ.of underlying100
abbrev RA:=aJ.of underlying102
abbrev RB:=aJ.of underlying104
abbrev RC:=aJ.of underlying105
abbrev RD:=aJ.of underlying107
abbrev RE:=aJ.of underlying108
abbrev RF:=aJ.of underlying110
abbrev RG:=aJ.of underlying114
abbrev RJ:=aJ.of underlying124
abbrev RK:=aJ.of underlying133
abbrev RL:=aJ.of underlying135
abbrev RM:=aJ.of underlying139
abbrev RO:=aJ.of underlying158
abbrev RP:=aJ.of underlying160
abbrev RQ:=aJ.of underlying162
abbrev RS:=aJ.of underlying164
abbrev RU:=aJ.of underlying166
abbrev RV:=aJ.of underlying168
abbrev RW:=aJ.of underlying169
abbrev RX:=aJ.of underlying173
abbrev RY:=aJ.of underlying175
abbrev RZ:=aJ.of underlying177
abbrev R0:=aJ.of underlying179
abbrev R4:=aJ.of underlying183
abbrev R5:=aJ.of underlying186
abbrev R6:=aJ.of underlying187
abbrev R8:=aJ.of underlying192
abbrev R9:=aJ.of underlying203
abbrev Sa:=aJ.of underlying207
abbrev Sb:=aJ.of underlying210
abbrev Sc:=aJ.of underlying211
abbrev Sd:=aJ.of underlying213
abbrev Se:=aJ.of underlying218
abbrev Sf:=aJ.of underlying219
abbrev Sg:=aJ.of underlying221
abbrev Sh:=aJ.of underlying222
abbrev Si:=aJ.of underlying224
abbrev Sj:=aJ.of underlying225
abbrev Sk:=aJ.of underlying227
abbrev Sm:=aJ.of underlying230
abbrev Sp:=aJ.of underlying232
abbrev Sq:=aJ.of underlying233
abbrev Sr:=aJ.of underlying236
abbrev Ss:=aJ.of underlying238
abbrev St:=aJ.of underlying241
abbrev Su:=aJ.of underlying243
abbrev Sv:=aJ.of underlying245
abbrev Sw:=aJ.of underlying247
abbrev Sy:=aJ.of underlying253
abbrev Sz:=aJ.of underlying255
abbrev SB:=aJ.of underlying257
abbrev SC:=aJ.of underlying259
abbrev SD:=aJ.of underlying270
abbrev SE:=aJ.of underlying286
abbrev SF:=aJ.of underlying288
abbrev SG:=aJ.of underlying289
abbrev SH:=aJ.of underlying294
abbrev SI:=aJ.of underlying296
abbrev SJ:=aJ.of underlying305
abbrev SL:=aJ.of underlying307
abbrev SM:=aJ.of underlying313
abbrev SN:=aJ.of underlying314
abbrev SO:=aJ.of underlying319
abbrev SQ:=aJ.of underlying320
abbrev SR:=aJ.of underlying322
abbrev SU:=aJ.of underlying328
abbrev SV:=aJ.of underlying333
abbrev SW:=aJ.of underlying336
abbrev SY:=aJ.of underlying343
abbrev SZ:=aJ.of underlying345
abbrev S4:=aJ.of underlying351
abbrev S5:=aJ.of underlying366
abbrev S6:=aJ.of underlying423
abbrev S7:=aJ.of underlying427
abbrev S8:=aJ.of underlying429
attribute [instance] U2 U3 U4 U5 U9 QX QY QZ Q0 Q1 Q2 Q3 Q4 Q5 Q6 Q7 Q8 Q9 Ra Rb Rc Re Rf Rg Rh Ri Rj Rk Rl Rm Rp Rq Rr Rs Rt Ru Rv Rw Rx Ry Rz RA RB RC RD RE RF RG RJ RK RL RM RO RP RQ RS RU RV RW RX RY RZ R0 R4 R5 R6 R8 R9 Sa Sb Sc Sd Se Sf Sg Sh Si Sj Sk Sm Sp Sq Sr Ss St Su Sv Sw Sy Sz SB SC SD SE SF SG SH SI SJ SL SM SN SO SQ SR SU SV SW SY SZ S4 S5 S6 S7 S8
theorem Ty.mixed:prog.follows .mixedOrders=true:=by kernel_rfl
instance:zd prog:=⟨Ty.mixed⟩
end
section
theorem U.cu {W w:World}{L R:List SP}{n c e:Nat}{cs:List Value}(I:U W w L)(ad:Option Addr)(bs:List UInt8)[k:fL L ad n c e 1 cs R](h:cs=bc bs)(hn:bs.length=n):aQ w ad n bs:=by
 subst h;refine⟨hn,λe=>?_,λx hx hp=>?_⟩
 ·rcases Nat.eq_zero_or_pos n with h0 | h0
  ·exact h0
  ·obtain⟨b,off,e2,_⟩:=I.bW ad h0;rw[e]at e2;cases e2
 ·obtain⟨b,off,e2,hr⟩:=I.bW ad hp;exact⟨b,off,by rw[hx]at e2;cases e2;rfl,hr⟩
theorem aQ.nil {w:World}{ad:Option Addr}:aQ w ad 0 []:=⟨rfl,λ_=>rfl,λ_ _ h=>absurd h (by decide)⟩
theorem aQ.gv {W w:World}{L:List SP}{ad:Option Addr}{m:Nat}{bs:List UInt8}(h:aQ W ad m bs)(I:U W w L):aQ w ad m bs:=by
 refine⟨h.1,h.2.1,λx hx h0=>?_⟩;obtain⟨b,off,rfl,hr⟩:=h.2.2 x hx h0;refine⟨b,off,rfl,λj v hj=>?_⟩;have h1:=hr j v hj;rw[I.gv (a:=⟨b,off+j,none⟩) (World.block_lt_of_cell? _ _ h1)];exact h1
theorem qK (ad:Option Addr)(c sz:Nat):fm ad 0 c sz=ad:=by
 unfold fm;split
 ·rfl
 ·cases ad with
  | none=>rfl
  | some a=>simp[Addr.add]
def kK (w:World)(ad:Option Addr)(m:Nat)(p:List (List UInt8)):Prop :=
 p.length=m∧(0<m→∃ b off,ad=some ⟨b,off,none⟩∧∀ j bs,p[j]?=some bs→∃ av c',w.cell? ⟨b,off+j,none⟩=some (.slice av bs.length c')∧aQ w av bs.length bs)
theorem kK.take {w:World}{ad:Option Addr}{m n:Nat}{p:List (List UInt8)}(h:kK w ad m p)(hn:n≤m):kK w ad n (p.take n):=by
 refine⟨by rw[ez,h.1];omega,λh0=>?_⟩;obtain⟨b,off,h1,h2⟩:=h.2 (by omega);refine⟨b,off,h1,λj bs hj=>?_⟩;rw[getElem?_take]at hj;by_cases pZ:j<n
 ·rw[al pZ]at hj;exact h2 j bs hj
 ·rw[ag pZ]at hj;cases hj
abbrev ed:=Option Addr×Nat×List UInt8
def aL (x:ed):Value:=.slice x.1 x.2.2.length x.2.1
def ba (x:ed):SP:=Sl 5 1 x.1 x.2.2.length x.2.1 (bc x.2.2)
def cd (ad:Option Addr)(n c:Nat)(p:List (List UInt8)):SP:=λh=>∃ xs:List ed,(xs.map (·.2.2)=p∧p.length=n)∧cn [Sl 22 1 ad n c (xs.map aL),ah ba xs] h
section
variable {W w:World}{L L' R:List SP}{ad:Option Addr}{n c:Nat}{p:List (List UInt8)}{xs:List ed}
theorem cd.open (I:U W w (cd ad n c p::L)):∃ xs:List ed,xs.map (·.2.2)=p∧p.length=n∧U W w (Sl 22 1 ad n c (xs.map aL)::ah ba xs::L):=by
 obtain⟨xs,⟨h1,h2⟩,h3⟩:=I.jt (ι:=List ed) (p:=λxs=>xs.map (·.2.2)=p∧p.length=n) (B:=λxs h=>cn [Sl 22 1 ad n c (xs.map aL),ah ba xs] h) (λh ⟨xs,h1,h2⟩=>⟨xs,h1,h2⟩);exact⟨xs,h1,h2,h3.open λ_ h=>h⟩
theorem cd.close (I:U W w L)[k:fE L (Sl 22 1 ad n c (xs.map aL)::ah ba xs::L') R](h1:xs.map (·.2.2)=p)(h2:p.length=n):U W w (cd ad n c p::L') :=
 U.shut (M:=[_,_]) (I.sub (M:=Sl 22 1 ad n c (xs.map aL)::ah ba xs::L')) (λ_ x=>⟨xs,⟨h1,h2⟩,x⟩)
theorem cd.le (I:U W w (cd ad n c p::L)):p.length=n∧n≤c:=by
 obtain⟨xs,h1,h2,h3⟩:=cd.open I;exact⟨h2,(h3.sl ad).2⟩
theorem cd.nil (I:U W w L):U W w (cd none 0 0 []::L):=by
 have h:U W w (Sl 22 1 none 0 0 (([]:List ed).map aL)::ah ba []::L):=(I.iM (f:=ba)).bO 22 1 none;exact cd.close (xs:=[]) h rfl rfl
theorem cd.rd (I:U W w (cd ad n c p::L)):kK w ad n p:=by
 obtain⟨xs,h1,h2,h3⟩:=cd.open I;refine⟨h2,λh0=>?_⟩;obtain⟨b,off,rfl,hr⟩:=h3.bW ad h0;refine⟨b,off,rfl,λj bs hj=>?_⟩;rw[← h1,bn]at hj;obtain⟨x,hx,rfl⟩:=Option.map_eq_some_iff.1 hj;obtain⟨b0,gQ⟩:=a8.1 hx;refine⟨x.1,x.2.1,hr j _ (by rw[bn,hx];rfl),?_⟩;have h4:=(h3.perm (List.Perm.swap _ _ _)).fv b0;rw[gQ]at h4;have h5:U W w (Sl 5 1 x.1 x.2.2.length x.2.1 (bc x.2.2)::_):=h4;exact h5.cu x.1 x.2.2 rfl rfl
theorem r4 {bs:List UInt8}{m:Nat}(I:U W w L)(hr:∀ V,U W V L→aQ V ad m bs)(hb:m≤1099511627776) :
   Calls prog 95 #[.slice ad m c] w λe V=>∃ av c',e=.returned (.slice av m c')∧U W V (Sl 5 1 av m c' (bc bs)::L):=by
 obtain⟨h1,h2,h3⟩:=hr _ I;cases ad with
 | none =>
  obtain rfl:=h2 rfl;obtain rfl:bs=[]:=g5 h1;refine EN func95 ntmps95 rfl rfl λa E=>?_;refine RN 6 E I λa E=>?_;replace E:=E.dX 4;refine RT 3 E I ?_;exact⟨_,_,rfl,I.bO _ _ _⟩
 | some a =>
  rcases Nat.eq_zero_or_pos m with h0 | h0
  ·subst h0;obtain rfl:bs=[]:=g5 h1;refine EN func95 ntmps95 rfl rfl λa E=>?_;refine RN 6 E I λa E=>?_;replace E:=E.aK 4;refine RN 2 E I λa E=>?_;refine tu E rfl I underlying22 Ty.t5 rfl λb5 a w E I ho=>?_;clear ho;refine RN 1 E I λa E=>?_;refine Cl E rfl underlying22 Ty.t5 rfl (bk _) λa E=>?_;refine RT 1 E I ?_;exact⟨_,_,rfl,I⟩
  ·obtain⟨b,off,rfl,_⟩:=h3 a rfl h0;refine EN func95 ntmps95 rfl rfl λa E=>?_;refine RN 6 E I λa E=>?_;replace E:=E.aK 4;refine RN 2 E I λa E=>?_;refine tu E rfl I underlying22 Ty.t5 rfl λb5 a w E I ho=>?_;clear ho;refine RN 1 E I λa E=>?_;obtain⟨b',dG,hx,dk⟩:=(hr _ I.tail).2.2 _ rfl h0;cases hx;refine cQ E rfl I underlying22 Ty.t5 rfl rfl dk (by rw[dB,h1,Nat.mul_one]) (ey bs) h0 (by decide) (by omega) λr5 l5 a w E I=>?_;rw[Nat.zero_add]at E I;refine RT 1 E I ?_;exact⟨_,_,rfl,I⟩
theorem p0 (a b:List UInt8):((⟨a.toArray⟩:ByteArray).data.toList==(⟨b.toArray⟩:ByteArray).data.toList)=(a==b):=rfl
theorem H4 {a b:List UInt8}{ad2:Option Addr}{m n c2:Nat}(di:aQ w ad m a)(lf:aQ w ad2 n b) :
   Calls prog 313 #[.slice ad m c,.slice ad2 n c2] w λe V=>e=.returned (.bool (a==b))∧V=w:=by
 have I:=U.start w;refine EN func313 ntmps313 rfl rfl λa E=>?_;refine RN 4 E I λa E=>?_;refine SS E (lg E underlying22 underlying5 underlying9 (di)) λa E=>?_;refine RN 1 E I λa E=>?_;refine SS E (lg E underlying22 underlying5 underlying9 (lf)) λa E=>?_;refine RN 0 E I λa E=>?_;refine SS E (rS E) λa E=>?_;refine RT 1 E I ?_;exact⟨by rw[p0],rfl⟩
theorem S9 {p q:List (List UInt8)}{k:Nat}{x y:List UInt8}(h:p.take k=q.take k)(hx:p[k]?=some x)(hy:q[k]?=some y):(p.take (k+1)=q.take (k+1))↔x=y:=by
 obtain⟨h1,rfl⟩:=a8.1 hx;obtain⟨h2,rfl⟩:=a8.1 hy;rw[iZ h1,iZ h2,h];exact⟨λe=>by have:=List.append_cancel_left e;simpa using this,λe=>by rw[e]⟩
theorem Ta {p q:List (List UInt8)}{ad2:Option Addr}{m c2:Nat}(hp:kK w ad m p)(hq:kK w ad2 m q)(hb:m≤1099511627776) :
   Calls prog 312 #[.slice ad m c,.slice ad2 m c2,.func (.func 313) #[] #[]] w λe V=>e=.returned (.bool (p==q))∧V=w:=by
 have eF:=hp.1;have Tb:=hq.1;obtain⟨W,xc⟩:∃ W,w=W:=⟨w,rfl⟩;have I:U W w []:=xc ▸ U.start w;refine EN func312 ntmps312 rfl rfl λa E=>?_;refine RN 9 E I λa E=>?_;rw[Qi]at E;replace E:=E.aK 14;refine RN 6 E I λa E=>?_;refine aP (λμ a w=>∃ k:Nat,(μ=m-k∧k≤m∧p.take k=q.take k∧w=W)∧Fr a 32 [(1,.slice ad2 m c2),(2,.func (.func 313) #[] #[]),(15,.slice ad m c),(16,.int .i64 m),(17,.int .i64 k)]∧U W w []) (m) (⟨0,⟨by simp,by simp,by simp,xc⟩,E.ab [1,2,15,16,17],I⟩) ?_;clear E I;rintro μ a w ⟨k,⟨rfl,hk,CF,zg⟩,E,I⟩;subst zg xc;refine IF 3 E I (λao a E=>?_) λao a E=>?_
 ·
  refine RN 2 E I λa E=>?_;obtain⟨b1,o1,rfl,h1⟩:=hp.2 (by omega);obtain⟨b2,p1,rfl,h2⟩:=hq.2 (by omega);have eL:p[k]?=some p[k]:=aF (by omega);have dp:q[k]?=some q[k]:=aF (by omega);obtain⟨dj,c1',Tc,ep⟩:=h1 k _ eL;obtain⟨dW,c2',Td,ee⟩:=h2 k _ dp;have H5:=S9 CF eL dp;refine RN 2 E I λa E=>?_;refine SS E (ae E (Tc)) λa E=>?_;refine RN 6 E I λa E=>?_;refine SS E (ae E (Td)) λa E=>?_;refine CL 5 E I (H4 ep ee) λa w E hx=>?_;obtain rfl:=hx;refine IF 1 E (U.start _) (λaz a E=>?_) λaz a E=>?_
  ·
   have bP:¬ p[k]=q[k]:=by simpa using az
   refine RT 2 E (U.start _) ?_;refine⟨?_,rfl⟩;have:(p==q)=false:=by
    rw[lD];intro e;exact bP (H5.1 (by rw[e]))
   rw[this]
  have heq:p[k]=q[k]:=by simpa using az
  refine RN 2 E (U.start _) λa E=>?_;exact⟨m-(k+1),by omega,k+1,⟨rfl,by omega,H5.2 heq,rfl⟩,E.ab [1,2,15,16,17],U.start _⟩
 refine RT 2 E I ?_;obtain rfl:k=m:=by omega
 rw[fY (by omega),fY (by omega)]at CF;subst CF;exact⟨by rw[beq_self_eq_true],rfl⟩
def ix (w:World)(ad:Option Addr)(xs:List ed):Prop:=(0<xs.length→∃ b off,ad=some ⟨b,off,none⟩∧Rd w b off (xs.map aL))∧∀ x∈xs,aQ w x.1 x.2.2.length x.2.2
theorem ix.bb (h:ix w ad xs):kK w ad xs.length (xs.map (·.2.2)):=by
 refine⟨by simp,λh0=>?_⟩;obtain⟨b,off,h1,h2⟩:=h.1 h0;refine⟨b,off,h1,λj bs hj=>?_⟩;rw[bn]at hj;obtain⟨x,hx,rfl⟩:=Option.map_eq_some_iff.1 hj;exact⟨x.1,x.2.1,h2 j _ (by rw[bn,hx];rfl),h.2 x (bJ hx)⟩
theorem U.l6 {m:Nat}(I:U W w (Sl 22 1 ad m c (xs.map aL)::ah ba xs::L)):ix w ad xs:=by
 have hm:xs.length=m:=by have:=(I.sl ad).1;simpa using this
 refine⟨λh0=>I.bW ad (by omega),λx hx=>?_⟩;obtain⟨i,hi,rfl⟩:=List.mem_iff_getElem.1 hx;have h4:=(I.perm (List.Perm.swap _ _ _)).fv hi;have h5:U W w (Sl 5 1 xs[i].1 xs[i].2.2.length xs[i].2.1 (bc xs[i].2.2)::_):=h4;exact h5.cu xs[i].1 xs[i].2.2 rfl rfl
end
end
end Go.Proofs.YteoldcfapaiobaaGreat
