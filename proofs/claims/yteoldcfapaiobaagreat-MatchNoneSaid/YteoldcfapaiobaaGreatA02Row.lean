/- Rows of structs: a list laid out flat, so many cells each. -/
import Derived.Test.YteoldcfapaiobaaGreatA01Slice
import Derived.Laws.RangeAny
import Derived.Laws.Strings
import Derived.Laws.MakeOwn
namespace Go.Proofs.YteoldcfapaiobaaGreat
open Go.RowKit
set_option linter.unusedVariables false
set_option linter.unusedSimpArgs false
set_option maxRecDepth 10000
set_option synthInstance.maxSize 4000
set_option synthInstance.maxHeartbeats 400000
section
theorem dneI {x:Int}:decide (x≠x)=false:=by simp
def rows {α:Type}(f:α→List Value)(l:List α):List Value:=l.flatMap f
section
variable {α:Type}{f:α→List Value}{sz:Nat}
theorem rows_cons (x:α)(l:List α):rows f (x::l)=f x++rows f l:=rfl
theorem rows_app (l m:List α):rows f (l++m)=rows f l++rows f m:=by simp[rows]
theorem rows_one (h1:∀ x,∀ v∈f x,v.oneCell'=true)(l:List α):∀ v∈rows f l,v.oneCell'=true:=by
 intro v hv
 simp only[rows,List.mem_flatMap]at hv
 obtain⟨x,_,hx⟩:=hv
 exact h1 x v hx
theorem rows_len (hf:∀ x,(f x).length=sz)(l:List α):(rows f l).length=l.length*sz:=by
 induction l with
 | nil=>simp[rows]
 | cons x l ih=>rw[rows_cons,List.length_append,hf,ih,List.length_cons,Nat.succ_mul,Nat.add_comm]
theorem rows_drop (hf:∀ x,(f x).length=sz)(l:List α)(i:Nat):(rows f l).drop (i*sz)=rows f (l.drop i):=by
 induction i generalizing l with
 | zero=>simp
 | succ i ih =>
   cases l with
   | nil=>simp[rows]
   | cons x l=>rw[rows_cons,Nat.succ_mul,Nat.add_comm,← List.drop_drop,List.drop_left' (hf x),ih,List.drop_succ_cons]
theorem rows_take (hf:∀ x,(f x).length=sz)(l:List α)(i:Nat):(rows f l).take (i*sz)=rows f (l.take i):=by
 induction i generalizing l with
 | zero=>simp[rows]
 | succ i ih =>
   cases l with
   | nil=>simp[rows]
   | cons x l =>
     rw[rows_cons,Nat.succ_mul,Nat.add_comm,List.take_append,hf,List.take_of_length_le (by rw[hf];omega),show sz+i*sz-sz=i*sz from by omega,ih,List.take_succ_cons,rows_cons]
theorem rows_at (hf:∀ x,(f x).length=sz)(l:List α)(i:Nat)(h:i<l.length):((rows f l).drop (i*sz)).take sz=f l[i]:=by
 rw[rows_drop hf,List.drop_eq_getElem_cons h,rows_cons,List.take_left' (hf _)]
theorem rows_get (hf:∀ x,(f x).length=sz)(l:List α){i k:Nat}{v:Value}(h:i<l.length)(hv:(f l[i])[k]?=some v):(rows f l)[i*sz+k]?=some v:=by
 have hk:k<sz:=by rw[← hf l[i]];exact (List.getElem?_eq_some_iff.1 hv).1
 have:=rows_at hf l i h
 rw[← this,List.getElem?_take,if_pos hk,List.getElem?_drop]at hv
 exact hv
theorem rows_set (hf:∀ x,(f x).length=sz)(l:List α){i:Nat}(x:α)(h:i<l.length):splice (rows f l) (i*sz) (f x)=rows f (l.set i x):=by
 rw[List.set_eq_take_append_cons_drop,if_pos h,rows_app,rows_cons,splice,rows_take hf,hf,show i*sz+sz=(i+1)*sz from by rw[Nat.succ_mul],rows_drop hf,List.append_assoc]
theorem rows_set1 (hf:∀ x,(f x).length=sz)(l:List α){i k:Nat}{v:Value}(x:α)(h:i<l.length)(hk:k<sz)(hx:(f l[i]).set k v=f x):(rows f l).set (i*sz+k) v=rows f (l.set i x):=by
 have h0:l=l.take i++l[i]::l.drop (i+1):=by rw[← List.drop_eq_getElem_cons h,List.take_append_drop]
 have hse:l.set i x=l.take i++x::l.drop (i+1):=by rw[List.set_eq_take_append_cons_drop,if_pos h]
 rw[hse,rows_app,rows_cons]
 conv=>lhs;rw[h0,rows_app,rows_cons]
 have hl:(rows f (l.take i)).length=i*sz:=by rw[rows_len hf];simp;rw[Nat.min_eq_left (by omega)]
 rw[List.set_append_right _ _ (by omega),hl,show i*sz+k-i*sz=k from by omega,List.set_append_left _ _ (by rw[hf];exact hk),hx]
theorem splice_mid (A B C vs:List Value)(k:Nat)(hk:k+vs.length≤B.length):splice (A++(B++C)) (A.length+k) vs=A++(splice B k vs++C):=by
 have e1:(A++(B++C)).take (A.length+k)=A++B.take k:=by
   rw[List.take_append,List.take_of_length_le (by omega),show A.length+k-A.length=k from by omega,List.take_append_of_le_length (by omega)]
 have e2:(A++(B++C)).drop (A.length+k+vs.length)=B.drop (k+vs.length)++C:=by
   rw[List.drop_append,List.drop_eq_nil_of_le (by omega),show A.length+k+vs.length-A.length=k+vs.length from by omega,List.drop_append_of_le_length (by omega),List.nil_append]
 rw[splice,e1,e2,splice]
 simp only[List.append_assoc]
theorem splice_at (hf:∀ x,(f x).length=sz)(l:List α){i k:Nat}{vs:List Value}(x:α)(h:i<l.length)(hk:k+vs.length≤sz)(hx:splice (f l[i]) k vs=f x):splice (rows f l) (i*sz+k) vs=rows f (l.set i x):=by
 have h0:rows f l=rows f (l.take i)++(f l[i]++rows f (l.drop (i+1))):=by
   rw[← rows_cons,← rows_app,← List.drop_eq_getElem_cons h,List.take_append_drop]
 have hse:l.set i x=l.take i++x::l.drop (i+1):=by rw[List.set_eq_take_append_cons_drop,if_pos h]
 have hl:(rows f (l.take i)).length=i*sz:=by rw[rows_len hf];simp;rw[Nat.min_eq_left (by omega)]
 rw[hse,rows_app,rows_cons,h0,← hl,splice_mid _ _ _ _ _ (by rw[hf];exact hk),hx]
theorem rows_sub (hf:∀ x,(f x).length=sz)(l:List α){i k m:Nat}(h:i<l.length)(hk:k+m≤sz):((rows f l).drop (i*sz+k)).take m=((f l[i]).drop k).take m:=by
 have:=rows_at hf l i h
 rw[← this,List.drop_take,List.take_take,List.drop_drop,Nat.min_eq_left (by omega)]
end
def fn (m:Nat)(g:Nat→Value):List Value:=(List.range m).map g
theorem fn_len (m:Nat)(g:Nat→Value):(fn m g).length=m:=by simp[fn]
theorem fn_get {m k:Nat}(g:Nat→Value)(h:k<m):(fn m g)[k]?=some (g k):=by simp[fn,h]
theorem fn_congr {m:Nat}{g g':Nat→Value}(h:∀ k,k<m→g k=g' k):fn m g=fn m g':=by
 simp only[fn];exact List.map_congr_left λk hk=>h k (List.mem_range.1 hk)
theorem fn_set {m k:Nat}(g:Nat→Value)(v:Value):(fn m g).set k v=fn m (λj=>if j=k then v else g j):=by
 apply List.ext_getElem (by simp[fn])
 intro i h1 h2
 simp only[fn,List.getElem_set,List.getElem_map,List.getElem_range]
 by_cases h:k=i
 · simp[h]
 · rw[if_neg h,if_neg (λe=>h e.symm)]
theorem fn_one {m:Nat}{g:Nat→Value}(h:∀ k,(g k).oneCell'=true):∀ v∈fn m g,v.oneCell'=true:=by
 intro v hv
 simp only[fn,List.mem_map]at hv
 obtain⟨k,_,rfl⟩:=hv
 exact h k
theorem fn_sub {m k n:Nat}(g:Nat→Value)(h:k+n≤m):((fn m g).drop k).take n=fn n (λj=>g (k+j)):=by
 apply List.ext_getElem (by simp[fn];omega)
 intro i h1 h2
 simp[fn]
def upd (g:Nat→Int)(c:Nat)(v:Int):Nat→Int:=λj=>if j=c then v else g j
def ints (k:IntKind)(m:Nat)(g:Nat→Int):List Value:=fn m (λj=>.int k (g j))
theorem ints_len (k:IntKind)(m:Nat)(g:Nat→Int):(ints k m g).length=m:=fn_len _ _
theorem ints_get {k:IntKind}{m j:Nat}(g:Nat→Int)(h:j<m):(ints k m g)[j]?=some (.int k (g j)):=fn_get _ h
theorem ints_one {k:IntKind}{m:Nat}{g:Nat→Int}:∀ v∈ints k m g,v.oneCell'=true:=fn_one λ_=>rfl
theorem ints_set {k:IntKind}{m j:Nat}(g:Nat→Int)(v:Int):(ints k m g).set j (.int k v)=ints k m (λi=>if i=j then v else g i):=by
 rw[ints,fn_set];exact fn_congr λi _=>by by_cases h:i=j <;> simp[h]
theorem ints_sub {k:IntKind}{m j n:Nat}(g:Nat→Int)(h:j+n≤m):((ints k m g).drop j).take n=ints k n (λi=>g (j+i)):=fn_sub _ h
theorem ints_congr {k:IntKind}{m:Nat}{g g':Nat→Int}(h:∀ j,j<m→g j=g' j):ints k m g=ints k m g':=fn_congr λj hj=>by rw[h j hj]
class FlatC (css:List (List Value))(out:outParam (List Value)):Prop where h:css.flatten=out
instance FlatC.nil:FlatC [] []:=⟨rfl⟩
instance FlatC.one {x css out}[k:FlatC css out]:FlatC ([x]::css) (x::out):=⟨by rw[List.flatten_cons,k.h];rfl⟩
instance LenEq.ints {k m g}:LenEq (ints k m g) m:=⟨ints_len k m g⟩
section
variable {P:Program}{ops:Array Oper}{Q:Exit→Act→World→Prop}{a:Act}{w w' W:World}{K:Act→World→Prop}{n d:Nat}{l:List (Nat×Value)}{v:Value}{L R:List SP}
theorem ex_quo {x y k i j t u dst ty ps af g}(ha:Fr a n l)(h:j≠0)(hi:k.wrap (i.tdiv j)=i.tdiv j)[e:Ev l x (.int k i)][f:Ev l y (.int k j)] :
   (execOp a.eval ⟨dst,.binOp .quo t x y u,ty,ps,af,g⟩).run P w=.ok (.value (.int k (i.tdiv j))) w:=by
 have:k.wrap (i.tdiv j)=i.tdiv j:=hi
 simp[execOp,e.ev a n ha,f.ev a n ha,eqGuard,binOp,Op.intDiv,h,this]
theorem ex_rem {x y k i j t u dst ty ps af g}(ha:Fr a n l)(h:j≠0)[e:Ev l x (.int k i)][f:Ev l y (.int k j)] :
   (execOp a.eval ⟨dst,.binOp .rem t x y u,ty,ps,af,g⟩).run P w=.ok (.value (.int k (i.tmod j))) w:=by
 simp[execOp,e.ev a n ha,f.ev a n ha,eqGuard,binOp,Op.intDiv,h]
theorem quoN (i:Nat)(j:Nat):(i:Int).tdiv (j:Int)=((i/j:Nat):Int):=by rw[Int.natCast_ediv,Int.tdiv_eq_ediv_of_nonneg (by omega)]
theorem remN (i:Nat)(j:Nat):(i:Int).tmod (j:Int)=((i%j:Nat):Int):=by rw[Int.natCast_emod,Int.tmod_eq_emod_of_nonneg (by omega)]
theorem ex_index1 {x y k i j vs t el m dd z by' dst ty ps af g}(ha:Fr a n l)(hu:P.underlying t=some (.array m el))(hd:P.underlying el=some dd)(h1:isOne dd=true)(hi:TI P el z 1 by')
   [ev:Ev l x (.agg (List.toArray vs))] [ey:Ev l y (.int k i)] [nj:NatOf i j] (hlt:j<m) (hv:vs[j]?=some v) :
   (execOp a.eval ⟨dst,.index t x y,ty,ps,af,g⟩).run P w=.ok (.value v) w:=by
 have:=nj.h;subst this
 have hpa:(part el vs.toArray j).run P w=.ok v w:=by
   have hagg:(isAgg el).run P w=.ok false w:=by
     simp only[isAgg,Sem.run_bind,run_underlying hd,Result.andThen_ok]
     cases dd <;> first | rfl | (simp[isOne]at h1)
   simp[part,hagg,hv]
 simp[execOp,ev.ev a n ha,ey.ev a n ha,Instr.index,asIntOf,run_underlying hu,run_size hi,hlt,hpa]
theorem ex_slicePA {x b off m t el z sz by' dst ty ps af g}(ha:Fr a n l)[ev:Ev l x (.pointer (some ⟨b,off,none⟩))](ht:P.underlying t=some (.array m el))(hi:TI P el z sz by') :
   (execOp a.eval ⟨dst,.slice t x none none none,ty,ps,af,g⟩).run P w=.ok (.value (.slice (some ⟨b,off,none⟩) m m)) w:=by
 simp[execOp,ev.ev a n ha,Instr.sliceAt,Instr.sliceBounds,run_underlying ht,run_size hi,Instr.sureAddr,add_off]
theorem ex_convII {x k k' i s t dst ty ps af g}(ha:Fr a n l)(hs:P.underlying s=some (.int k))(ht:P.underlying t=some (.int k'))[ev:Ev l x (.int k i)] :
   (execOp a.eval ⟨dst,.convert s t x,ty,ps,af,g⟩).run P w=.ok (.value (.int k' (k'.wrap i))) w:=by
 simp[execOp,ev.ev a n ha,convert,run_underlying hs,run_underlying ht,Conv.intToInt]
theorem ex_convIIs {x k k' i s t dst ty ps af g}(ha:Fr a n l)(hs:P.underlying s=some (.int k))(ht:P.underlying t=some (.int k'))(hw:k'.wrap i=i)[ev:Ev l x (.int k i)] :
   (execOp a.eval ⟨dst,.convert s t x,ty,ps,af,g⟩).run P w=.ok (.value (.int k' i)) w:=by
 rw[ex_convII ha hs ht,hw]
theorem ex_buildA {t el m z zs sz by' ze se be parts css out dst ty ps af g}(ha:Fr a n l)(hu:P.underlying t=some (.array m el))(hi:TI P t z sz by')[kz:Cells z zs](he:TI P el ze se be)
   [ep:EvP l parts 0 css] (hc:(css.all λc=>c.length==se)=true) (hz:zs.length=css.length*se) [fl:FlatC css out] :
   (execOp a.eval ⟨dst,.build t (List.toArray parts),ty,ps,af,g⟩).run P w=.ok (.value (.agg out.toArray)) w:=by
 obtain⟨vs,e1,e2⟩:=ep.h a n ha
 have hf:=fill_row (sz:=se) css vs 0 [] zs e2 (λc hc'=>by simpa using List.all_eq_true.1 hc c hc') (by simp) hz
 simp only[List.nil_append]at hf
 rw[fl.h]at hf
 simp only[execOp,Sem.run_bind,Instr.build,run_zero hi,Result.andThen_ok,run_underlying hu,run_size he,kz.h,List.map_toArray,e1]
 simp[hf]
theorem ex_sliceLPA {x y b off m t el z sz by' k i j dst ty ps af g}(ha:Fr a n l)[ev:Ev l x (.pointer (some ⟨b,off,none⟩))](ht:P.underlying t=some (.array m el))(hi:TI P el z sz by')[ey:Ev l y (.int k i)][nj:NatOf i j](h:j<m) :
   (execOp a.eval ⟨dst,.slice t x (some y) none none,ty,ps,af,g⟩).run P w=.ok (.value (.slice (some ⟨b,off+j*sz,none⟩) (m-j) (m-j))) w:=by
 have:=nj.h;subst this
 have h2:¬ (m=j):=by omega
 simp[execOp,ev.ev a n ha,ey.ev a n ha,Instr.sliceAt,Instr.sliceBounds,Instr.sliceBound,asIntOf,run_underlying ht,run_size hi,Instr.sureAddr,add_off,Nat.le_of_lt h,h2]
theorem st_copy {x y t t2 el z sz by' b off m c b2 off2 m2 c2 k vs e cs ty ps af g}(ha:Fr a n l)(hw:Region.wanted ⟨some d,.call ⟨.builtin .copy,#[x,y],#[t,t2]⟩,ty,ps,af,g⟩ (yielded ops a.tmps)=true)(hs:St W w L)
   (ht:P.underlying t=some (.slice el)) (hi:TI P el z sz by') (hf:okB d n l=true) [ev:Ev l x (.slice (some ⟨b,off,none⟩) m c)] [ey:Ev l y (.slice (some ⟨b2,off2,none⟩) m2 c2)] [kb:Blk L b e cs R]
   (hk:min m2 m=k) (hr:Rd w b2 off2 vs) (hl:vs.length=k*sz) (h1:∀ v∈vs,v.oneCell'=true) (hle:off+vs.length≤cs.length)
   (h:∀ a' w',Fr a' n ((d,.int .i64 k)::l)→St W w' (blk b e (splice cs off vs)::R)→K a' w'):StepK P ops Q ⟨some d,.call ⟨.builtin .copy,#[x,y],#[t,t2]⟩,ty,ps,af,g⟩ K a w:=by
 obtain⟨i,hi1,hi2,hi3,hi4⟩:=info_parts hi.h
 have hs':=hs.bring b
 have hnews:∀ j v,vs[j]?=some v→w.cell? ((⟨b2,off2,none⟩:Addr).add j)=some v:=λj v hj=>by rw[add_off];exact hr j v hj
 have hf1:=run_firstCells_some (P:=P) w sz k ⟨b2,off2,none⟩ m2 c2 vs hl hnews
 have hst:=run_storeCells_at (P:=P) b off e vs 0 cs.toArray w hs'.has.2 (by simpa using hle) h1
 have hst2:(storeCells ⟨b,off,none⟩ vs).run P w=.ok () (w.setRow b (splice cs off vs).toArray):=by simpa [splice] using hst
 refine st_set (v:=.int .i64 k) (w':=w.setRow b (splice cs off vs).toArray) ha hw ?_ hf (λa' ha'=>h a' _ ha' hs'.setRow)
 simp[execOp,resolve,ev.ev a n ha,ey.ev a n ha,invoke,builtin,Builtin.copy_,run_underlying ht,sizeOf,typeInfo,hi1,hi3,Builtin.lenOf,hk,hf1,hst2,goInt]
end
def All {α:Type}(f:α→SP)(l:List α):SP:=λh=>sepL (l.map f) h
section
variable {α:Type}{f:α→SP}{W w:World}{L:List SP}
theorem erase_perm {β:Type}(l:List β){i:Nat}(h:i<l.length):l.Perm (l[i]::l.eraseIdx i):=by
 conv=>lhs;rw[← List.take_append_drop i l,List.drop_eq_getElem_cons h]
 rw[List.eraseIdx_eq_take_drop_succ]
 exact List.perm_middle
theorem St.allNil (hs:St W w L):St W w (All f []::L) :=
 ⟨hs.below,let ⟨h,p,q⟩:=hs.sat;⟨h,p,λ_=>none,h,λ_=>.inl rfl,λ_ _ e=>(by cases e),Hp.Sub.refl _,trivial,q⟩⟩
theorem St.allOut {l:List α}(hs:St W w (All f l::L)){i:Nat}(h:i<l.length):St W w (f l[i]::All f (l.eraseIdx i)::L):=by
 have h1:=hs.open (M:=l.map f) (λ_ x=>x)
 have hp:=((erase_perm l h).map f).append_right L
 have h2:=h1.perm hp
 simp only[List.map_cons,List.cons_append]at h2
 refine St.perm (L:=All f (l.eraseIdx i)::f l[i]::L) ?_ (List.Perm.swap _ _ _)
 exact St.shut (M:=(l.eraseIdx i).map f) (h2.perm List.perm_middle.symm) (λ_ x=>x)
theorem St.allIn {l:List α}{x:α}(hs:St W w (f x::All f l::L)):St W w (All f (x::l)::L):=by
 have h1:=(hs.perm (List.Perm.swap _ _ _)).open (M:=l.map f) (λ_ x=>x)
 exact St.shut (M:=(x::l).map f) (h1.perm List.perm_middle) (λ_ x=>x)
theorem St.allPerm {l l':List α}(hs:St W w (All f l::L))(hp:l.Perm l'):St W w (All f l'::L):=by
 have h1:=hs.open (M:=l.map f) (λ_ x=>x)
 exact St.shut (M:=l'.map f) (h1.perm ((hp.map f).append_right L)) (λ_ x=>x)
theorem St.allPut {l:List α}{x:α}{i:Nat}(h:i<l.length)(hs:St W w (f x::All f (l.eraseIdx i)::L)):St W w (All f (l.set i x)::L):=by
 refine hs.allIn.allPerm ?_
 have hi:i<(l.set i x).length:=by simpa using h
 have:=erase_perm (l.set i x) hi
 rw[List.getElem_set_self,List.eraseIdx_set_eq]at this
 exact this.symm
theorem St.allPush {l:List α}{x:α}(hs:St W w (f x::All f l::L)):St W w (All f (l++[x])::L) :=
 hs.allIn.allPerm (List.perm_append_comm (l₁:=[x]))
end
end
section
def nx (s:ByteArray)(pos:Nat):List Value:=if pos<s.size then [.bool true,.int .i64 pos,.int .i32 (Utf8.decode s pos).1] else [.bool false]
def adv (s:ByteArray)(pos:Nat):Nat:=if pos<s.size then pos+(Utf8.decode s pos).2 else pos
theorem nx0 (s:ByteArray)(pos:Nat):(nx s pos)[0]?=some (.bool (decide (pos<s.size))):=by
 by_cases h:pos<s.size <;> simp[nx,h]
theorem nx1 {s:ByteArray}{pos:Nat}(h:pos<s.size):(nx s pos)[1]?=some (.int .i64 pos):=by simp[nx,h]
theorem nx2 {s:ByteArray}{pos:Nat}(h:pos<s.size):(nx s pos)[2]?=some (.int .i32 (Utf8.decode s pos).1):=by simp[nx,h]
section
variable {P:Program}{ops:Array Oper}{Q:Exit→Act→World→Prop}{a:Act}{w w' W:World}{K:Act→World→Prop}{o:Oper}{n d:Nat}{l:List (Nat×Value)}{v:Value}{L R:List SP}
theorem st_range {t x s ty ps af g}(ha:Fr a n l)(hw:Region.wanted ⟨some d,.range t x,ty,ps,af,g⟩ (yielded ops a.tmps)=true)(hs:St W w L)(ht:P.underlying t=some .string)[ev:Ev l x (.string s)]
   (hf:okB d n l=true) (h:∀ b a' w',Fr a' n ((d,.pointer (some ⟨b,0,none⟩))::l)→St W w' (pts b (.stringIter s 0)::L)→Old w w'→K a' w'):StepK P ops Q ⟨some d,.range t x,ty,ps,af,g⟩ K a w:=by
 refine st_set (v:=.pointer (some ⟨w.heap.size,0,none⟩)) (w':=w.alloc (.stringIter s 0)) ha hw ?_ hf (λa' ha'=>h _ _ _ ha' (hs.alloc _) (Old.alloc _ _))
 have:=run_range_string (P:=P) w t s ht
 simp[execOp,ev.ev a n ha,this,World.iter]
class PickP (L:List SP)(b:Nat)(o:outParam Obj)(R:outParam (List SP)):Prop where perm:L.Perm (pts b o::R)
instance PickP.head {L b o}:PickP (pts b o::L) b o L:=⟨List.Perm.refl _⟩
theorem st_next {x s pos b ty ps af g}(ha:Fr a n l)(hw:Region.wanted ⟨some d,.next x true,ty,ps,af,g⟩ (yielded ops a.tmps)=true)(hs:St W w L)[ev:Ev l x (.pointer (some ⟨b,0,none⟩))][k:PickP L b (.stringIter s pos) R]
   (hf:okB d n l=true) (h:∀ a' w',Fr a' n ((d,.tuple (List.toArray (nx s pos)))::l)→St W w' (pts b (.stringIter s (adv s pos))::R)→K a' w'):StepK P ops Q ⟨some d,.next x true,ty,ps,af,g⟩ K a w:=by
 have hs1:=hs.perm k.perm
 have hb:=hs1.has.2
 by_cases hp:pos<s.size
 · have hs2:=hs1.upd (o':=.stringIter s (adv s pos)) (w':={ w with heap:=w.heap.setIfInBounds b (.stringIter s (adv s pos)) }) rfl rfl rfl rfl
   refine st_set (v:=.tuple (List.toArray (nx s pos))) (w':={ w with heap:=w.heap.setIfInBounds b (.stringIter s (adv s pos)) }) ha hw ?_ hf (λa' ha'=>h a' _ ha' hs2)
   simp[execOp,ev.ev a n ha,Instr.next,getObj,setObj,Sem.run,hb,hp,goInt,nx,adv,Sem.run_bind]
 · have e:adv s pos=pos:=by simp[adv,hp]
   refine st_set (v:=.tuple (List.toArray (nx s pos))) (w':=w) ha hw ?_ hf (λa' ha'=>h a' _ ha' (by rw[e];exact hs1))
   simp[execOp,ev.ev a n ha,Instr.next,getObj,Sem.run,hb,hp,nx,Sem.run_bind]
theorem ex_lenS {x s t dst ty ps af g}(ha:Fr a n l)[ev:Ev l x (.string s)](hu:P.underlying t=some .string) :
   (execOp a.eval ⟨dst,.call ⟨.builtin .len,#[x],#[t]⟩,ty,ps,af,g⟩).run P w=.ok (.value (.int .i64 s.size)) w:=by
 simp[execOp,resolve,ev.ev a n ha,invoke,builtin,Builtin.len_,run_underlying hu,goInt]
theorem ex_shl {x y k i k' j jn t u dst ty ps af g}(ha:Fr a n l)[e:Ev l x (.int k i)][f:Ev l y (.int k' j)][nj:NatOf j jn](h:jn≤k.bits) :
   (execOp a.eval ⟨dst,.binOp .shl t x y u,ty,ps,af,g⟩).run P w=.ok (.value (.int k (k.wrap (i*2 ^ jn)))) w:=by
 have:=nj.h;subst this
 have h2:min jn k.bits=jn:=Nat.min_eq_left h
 have h3:¬ ((jn:Int)<0):=by omega
 simp[execOp,e.ev a n ha,f.ev a n ha,eqGuard,binOp,Op.shift,h2,h3]
theorem ex_shr {x y k i k' j jn t u dst ty ps af g}(ha:Fr a n l)[e:Ev l x (.int k i)][f:Ev l y (.int k' j)][nj:NatOf j jn](h:jn≤k.bits) :
   (execOp a.eval ⟨dst,.binOp .shr t x y u,ty,ps,af,g⟩).run P w=.ok (.value (.int k (i.fdiv (2 ^ jn)))) w:=by
 have:=nj.h;subst this
 have h2:min jn k.bits=jn:=Nat.min_eq_left h
 have h3:¬ ((jn:Int)<0):=by omega
 simp[execOp,e.ev a n ha,f.ev a n ha,eqGuard,binOp,Op.shift,h2,h3]
theorem ex_or {x y k i j t u dst ty ps af g}(ha:Fr a n l)[e:Ev l x (.int k i)][f:Ev l y (.int k j)] :
   (execOp a.eval ⟨dst,.binOp .or t x y u,ty,ps,af,g⟩).run P w=.ok (.value (.int k (k.wrap ((BitVec.ofInt k.bits i ||| BitVec.ofInt k.bits j).toNat)))) w:=by
 simp[execOp,e.ev a n ha,f.ev a n ha,eqGuard,binOp,Op.intBits]
theorem ex_and {x y k i j t u dst ty ps af g}(ha:Fr a n l)[e:Ev l x (.int k i)][f:Ev l y (.int k j)] :
   (execOp a.eval ⟨dst,.binOp .and t x y u,ty,ps,af,g⟩).run P w=.ok (.value (.int k (k.wrap ((BitVec.ofInt k.bits i &&& BitVec.ofInt k.bits j).toNat)))) w:=by
 simp[execOp,e.ev a n ha,f.ev a n ha,eqGuard,binOp,Op.intBits]
theorem ex_xor {x y k i j t u dst ty ps af g}(ha:Fr a n l)[e:Ev l x (.int k i)][f:Ev l y (.int k j)] :
   (execOp a.eval ⟨dst,.binOp .xor t x y u,ty,ps,af,g⟩).run P w=.ok (.value (.int k (k.wrap ((BitVec.ofInt k.bits i ^^^ BitVec.ofInt k.bits j).toNat)))) w:=by
 simp[execOp,e.ev a n ha,f.ev a n ha,eqGuard,binOp,Op.intBits]
theorem ex_com {x k i t dst ty ps af g}(ha:Fr a n l)[e:Ev l x (.int k i)] :
   (execOp a.eval ⟨dst,.unOp .xor t x,ty,ps,af,g⟩).run P w=.ok (.value (.int k (k.wrap ((BitVec.ofInt k.bits (if k.signed then -1 else k.max) ^^^ BitVec.ofInt k.bits i).toNat)))) w:=by
 simp[execOp,e.ev a n ha,Op.unary,Op.intBits]
theorem ex_neg {x k i t dst ty ps af g}(ha:Fr a n l)[e:Ev l x (.int k i)] :
   (execOp a.eval ⟨dst,.unOp .neg t x,ty,ps,af,g⟩).run P w=.ok (.value (.int k (k.wrap (0-i)))) w:=by
 simp[execOp,e.ev a n ha,Op.unary,Op.intArith]
theorem ex_quoW {x y k i j t u dst ty ps af g}(ha:Fr a n l)(h:j≠0)[e:Ev l x (.int k i)][f:Ev l y (.int k j)] :
   (execOp a.eval ⟨dst,.binOp .quo t x y u,ty,ps,af,g⟩).run P w=.ok (.value (.int k (k.wrap (i.tdiv j)))) w:=by
 simp[execOp,e.ev a n ha,f.ev a n ha,eqGuard,binOp,Op.intDiv,h]
theorem run_equalIn_I {t t':TypeId} {ms}(ht:P.underlying t=some (.interface ms))(v:Value)(k:Nat):(Op.equalIn (k+1) t (.iface t' v) .nilIface).run P w=.ok false w:=by
 simp[Op.equalIn,run_underlying ht]
theorem ex_eqnilI {x t v t' ms u dst ty ps af g}(ha:Fr a n l)(ht:P.underlying t=some (.interface ms))[e:Ev l x (.iface t' v)] :
   (execOp a.eval ⟨dst,.binOp .eql t x (.const .nilIface) u,ty,ps,af,g⟩).run P w=.ok (.value (.bool false)) w:=by
 have hc:a.eval (.const .nilIface)=.nilIface:=rfl
 have h2:(Op.equal t (.iface t' v) .nilIface).run P w=.ok false w:=run_equalIn_I ht v 9999
 simp only[execOp,e.ev a n ha,hc,Sem.run_bind]
 simp[eqGuard,binOp,h2]
theorem ex_makeI {x t dd dst ty ps af g}(ha:Fr a n l)(ht:P.underlying t=some dd)(hd:(match dd with | .interface _=>false | _=>true)=true)[e:Ev l x v] :
   (execOp a.eval ⟨dst,.makeInterface t x,ty,ps,af,g⟩).run P w=.ok (.value (.iface t v)) w:=by
 cases dd <;> first | (simp at hd) | skip
 all_goals simp[execOp,e.ev a n ha,Instr.makeInterface,run_underlying ht]
def MethodT (P:Program)(t:TypeId)(name:String)(f:FuncId):Prop:=∀ (ad:Option Addr) (w:World),(method (P.types.size+Made.depth) t (.pointer ad) name).run P w=.ok (f,.pointer ad) w
theorem st_callI {x t ad name f args tys ty ps af g vs all}{X:Ending→World→Prop}(ha:Fr a n l)(hw:Region.wanted ⟨some d,.call ⟨.invoke x name,List.toArray args,tys⟩,ty,ps,af,g⟩ (yielded ops a.tmps)=true)
   [ex:Ev l x (.iface t (.pointer ad))] (hm:MethodT P t name f) (hb:callable P f=true) (hf:okB d n l=true) [ev:EvL l args vs] (hc:Calls P f (List.toArray all) w X) (hall:.pointer ad::vs=all)
   (h:∀ e w',X e w'→∃ v,e=.returned v∧∀ a',Fr a' n ((d,v)::l)→K a' w') :
   StepK P ops Q ⟨some d,.call ⟨.invoke x name,List.toArray args,tys⟩,ty,ps,af,g⟩ K a w:=by
 subst hall
 refine st_enter hw ?_ hc λe w' hx=>let ⟨v,he,hv⟩:=h e w' hx;⟨v,he,hv _ (ha.put hf v)⟩
 have h3:=hm ad w
 simp[execOp,resolve,ex.ev a n ha,invoke,callMethod,ev.ev a n ha,h3,run_callFunc hb,program,Sem.run]
end
end
section
section
variable {P:Program}{a:Act}{w:World}{n:Nat}{l:List (Nat×Value)}{v:Value}
theorem ex_field1 {x vs t f fs fl dd dst ty ps af g}(ha:Fr a n l)(hu:P.underlying t=some (.struct fs))(hf:fs[f]?=some fl)(hd:P.underlying fl.type=some dd)(h1:isOne dd=true)
   [ev:Ev l x (.agg (List.toArray vs))] (hv:vs[fl.offset]?=some v) :
   (execOp a.eval ⟨dst,.field t x f,ty,ps,af,g⟩).run P w=.ok (.value v) w:=by
 have hpa:(part fl.type vs.toArray fl.offset).run P w=.ok v w:=by
   have hagg:(isAgg fl.type).run P w=.ok false w:=by
     simp only[isAgg,Sem.run_bind,run_underlying hd,Result.andThen_ok]
     cases dd <;> first | rfl | (simp[isOne]at h1)
   simp[part,hagg,hv]
 simp[execOp,ev.ev a n ha,Instr.field,run_underlying hu,hf,asAgg,hpa]
end
end
section
section
variable {P:Program}{a:Act}{w W:World}{n:Nat}{l:List (Nat×Value)}{L R:List SP}
theorem ex_sliceHM {x u z3 k' k'' i' i'' j' j'' ad m c t el z sz by' dst ty ps af g}(ha:Fr a n l)(ht:P.underlying t=some (.slice el))(hi:TI P el z sz by')[ev:Ev l x (.slice ad m c)][eu:Ev l u (.int k' i')][ez:Ev l z3 (.int k'' i'')]
   [nj':NatOf i' j'] [nj'':NatOf i'' j''] (h':j'≤j'') (h'':j''≤c) :
   (execOp a.eval ⟨dst,.slice t x none (some u) (some z3),ty,ps,af,g⟩).run P w=.ok (.value (.slice (cutAd ad 0 j'' sz) j' j'')) w:=by
 have hj':=nj'.h
 subst hj'
 have hj'':=nj''.h
 subst hj''
 have e1:=(elem_of ht).1
 have e2:=(elem_of ht).2
 have:=run_slice_hm (P:=P) (w:=w) t ad m c e1 k' k'' (j':Int) (j'':Int) (by omega) (by omega) (by omega)
 rw[e2,run_size hi]at this
 simp only[Result.andThen_ok,Int.toNat_natCast]at this
 simp[execOp,ev.ev a n ha,eu.ev a n ha,ez.ev a n ha,run_sliceAt_slice (P:=P) (w:=w) t _ _ _ _ e1,this,sliced,cutAd]
theorem St.cutSlM {e sz k c:Nat}{cs:List Value}(hs:St W w L)(ad:Option Addr)(m:Nat)[pk:PickSl L ad k c e sz cs R](hm:m≤k):St W w (Sl e sz (cutAd ad 0 m sz) m m (cs.take (m*sz))::R):=by
 have h1:=hs.perm pk.perm
 rcases Nat.eq_zero_or_pos m with h0 | h0
 · subst h0
   simpa using h1.tail.sl0 e sz (cutAd ad 0 0 sz)
 · have hc:=(hs.sl ad)
   obtain⟨b,pre,post,⟨g1,g2,g3,g4⟩,h2⟩:=h1.slOpen (by omega)
   subst g3
   rw[cutAd_some (by omega),Nat.zero_mul,Nat.add_zero]
   have hml:m*sz≤cs.length:=by rw[g1];exact Nat.mul_le_mul_right _ hm
   rw[show pre++cs++post=pre++cs.take (m*sz)++(cs.drop (m*sz)++post) from by
     conv=>lhs;rw[← List.take_append_drop (m*sz) cs]
     simp only[List.append_assoc]]at h2
   exact St.slShut h2 (by rw[List.length_take];omega) (Nat.le_refl _) (by simp)
end
end
section
section
variable {P:Program}{ops:Array Oper}{Q:Exit→Act→World→Prop}{a:Act}{w w' W:World}{K:Act→World→Prop}{n d:Nat}{l:List (Nat×Value)}{L:List SP}
theorem st_makeSlice {t el z sz by' x y k k' i j ty ps af g}(ha:Fr a n l)(hw:Region.wanted ⟨some d,.makeSlice t x y,ty,ps,af,g⟩ (yielded ops a.tmps)=true)(hs:St W w L)(ht:P.underlying t=some (.slice el))
   (hi:TI P el z sz by') (hf:okB d n l=true) (hb:by'*j≤281474976710656) (hj:j≤9223372036854775807) [e:Ev l x (.int k i)] [e2:Ev l y (.int k' i)] [nj:NatOf i j]
   (h:∀ b a' w',Fr a' n ((d,.slice (some ⟨b,0,none⟩) j j)::l)→St W w' (blk b el (madeCells z.cells (j*sz)).toList::L)→Old w w'→K a' w') :
   StepK P ops Q ⟨some d,.makeSlice t x y,ty,ps,af,g⟩ K a w:=by
 have hnj:=nj.h
 subst hnj
 obtain⟨ti,hi1,hi2,hi3,hi4⟩:=info_parts hi.h
 have hbi:(ti.bytes:Int)*(j:Int)≤281474976710656:=by
   rw[hi4]
   have:((by'*j:Nat):Int)≤281474976710656:=by omega
   rwa [Int.natCast_mul]at this
 have hr:=run_make (P:=P) w t el ti z ht hi1 hi2 k k' (j:Int) (j:Int) (by omega) (Int.le_refl _) hbi (by omega)
 rw[Int.toNat_natCast,hi3]at hr
 refine st_set (v:=.slice (some ⟨w.heap.size,0,none⟩) j j) (w':=w.alloc (.cells (madeCells z.cells (j*sz)) el)) ha hw ?_ hf (λa' ha'=>h _ _ _ ha' (by
   have:=hs.alloc (.cells (madeCells z.cells (j*sz)) el)
   simpa [blk] using this) (Old.alloc _ _))
 simp[execOp,e.ev a n ha,e2.ev a n ha,hr]
end
end
end Go.Proofs.YteoldcfapaiobaaGreat
