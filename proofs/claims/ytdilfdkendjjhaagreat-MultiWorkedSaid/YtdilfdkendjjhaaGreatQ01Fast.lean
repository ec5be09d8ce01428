/- Short names for the steps of a walk. -/
import Derived.Test.YtdilfdkendjjhaaGreatQ00Sl
import Derived.Laws.RangeAny
import Derived.Laws.Strings
import Derived.Laws.MakeOwn
import Derived.KernelRfl
namespace Go.Proofs.YtdilfdkendjjhaaGreat
open Go.RowKit
set_option linter.unusedVariables false
set_option linter.unusedSimpArgs false
set_option maxRecDepth 10000
set_option synthInstance.maxSize 4000
set_option synthInstance.maxHeartbeats 400000
section
class UPtr (P:Program)(t:TypeId):Prop where h:∃ el,P.underlying t=some (.pointer el)
class USl (P:Program)(t:TypeId):Prop where h:∃ el,P.underlying t=some (.slice el)
class UOne (P:Program)(t:TypeId):Prop where h:∃ dd,P.underlying t=some dd∧isOne dd=true
class UFld (P:Program)(t:TypeId)(f:Nat)(k:outParam Nat):Prop where h:∃ fs fl z sz by',P.underlying t=some (.struct fs)∧fs[f]?=some fl∧TI P fl.type z (sz+1) by'∧fl.offset=k
class Ex (P:Program)(l:List (Nat×Value))(op:Go.Op)(v:outParam Value):Prop where
 ex:∀ (a:Act) (n:Nat),Fr a n l→∀ (w:World) (dst ty ps af g),(execOp a.eval ⟨dst,op,ty,ps,af,g⟩).run P w=.ok (.value v) w
section
variable {P:Program}{l:List (Nat×Value)}{v v1 v2:Value}{x y c:Operand}{t u:TypeId}{k:IntKind}{i j:Int}{b:Bool}
instance Ex.move [Ev l x v]:Ex P l (.move x) v:=⟨λ_ _ ha _ _ _ _ _ _=>ex_move ha⟩
instance Ex.assign [Ev l x v]:Ex P l (.assign x) v:=⟨λ_ _ ha _ _ _ _ _ _=>ex_assign ha⟩
instance Ex.nilCheck [Ev l x v] [NotNil v]:Ex P l (.nilCheck x) v:=⟨λ_ _ ha _ _ _ _ _ _=>ex_nilCheck ha⟩
instance Ex.not [Ev l x (.bool b)]:Ex P l (.unOp .not t x) (.bool (!b)):=⟨λ_ _ ha _ _ _ _ _ _=>ex_not ha⟩
instance Ex.lss [Ev l x (.int k i)] [Ev l y (.int k j)]:Ex P l (.binOp .lss t x y u) (.bool (decide (i<j))):=⟨λ_ _ ha _ _ _ _ _ _=>ex_lss ha⟩
instance Ex.leq [Ev l x (.int k i)] [Ev l y (.int k j)]:Ex P l (.binOp .leq t x y u) (.bool (decide (i≤j))):=⟨λ_ _ ha _ _ _ _ _ _=>ex_leq ha⟩
instance Ex.gtr [Ev l x (.int k i)] [Ev l y (.int k j)]:Ex P l (.binOp .gtr t x y u) (.bool (decide (j<i))):=⟨λ_ _ ha _ _ _ _ _ _=>ex_gtr ha⟩
instance Ex.geq [Ev l x (.int k i)] [Ev l y (.int k j)]:Ex P l (.binOp .geq t x y u) (.bool (decide (j≤i))):=⟨λ_ _ ha _ _ _ _ _ _=>ex_geq ha⟩
instance Ex.eql [Ev l x (.int k i)] [Ev l y (.int k j)]:Ex P l (.binOp .eql t x y u) (.bool (decide (i=j))):=⟨λ_ _ ha _ _ _ _ _ _=>ex_eql ha⟩
instance Ex.neq [Ev l x (.int k i)] [Ev l y (.int k j)]:Ex P l (.binOp .neq t x y u) (.bool (decide (i≠j))):=⟨λ_ _ ha _ _ _ _ _ _=>ex_neq ha⟩
instance Ex.eqnil [UPtr P t] [Ev l x v] [IsNil v b]:Ex P l (.binOp .eql t x (.const (.pointer none)) u) (.bool b):=⟨λ_ _ ha _ _ _ _ _ _=>(UPtr.h (P:=P) (t:=t)).elim λ_ h=>ex_eqnil ha h⟩
instance Ex.neqnil [UPtr P t] [Ev l x v] [IsNil v b]:Ex P l (.binOp .neq t x (.const (.pointer none)) u) (.bool (!b)):=⟨λ_ _ ha _ _ _ _ _ _=>(UPtr.h (P:=P) (t:=t)).elim λ_ h=>ex_neqnil ha h⟩
instance Ex.extr0 [Ev l x (.tuple #[v1,v2])]:Ex P l (.extract x 0) v1:=⟨λ_ _ ha _ _ _ _ _ _=>ex_extract ha rfl⟩
instance Ex.extr1 [Ev l x (.tuple #[v1,v2])]:Ex P l (.extract x 1) v2:=⟨λ_ _ ha _ _ _ _ _ _=>ex_extract ha rfl⟩
instance Ex.len {ad:Option Addr}{m c:Nat} [USl P t] [Ev l x (.slice ad m c)]:Ex P l (.call ⟨.builtin .len,#[x],#[t]⟩) (.int .i64 m):=⟨λ_ _ ha _ _ _ _ _ _=>(USl.h (P:=P) (t:=t)).elim λ_ h=>ex_len ha h⟩
instance Ex.field {bb off f kk r:Nat} [Ev l x (.pointer (some ⟨bb,off,none⟩))] [UFld P t f kk] [AddOff off kk r]:Ex P l (.fieldAddr t x f) (.pointer (some ⟨bb,r,none⟩)):=⟨λ_ _ ha _ _ _ _ _ _=>by
 obtain⟨fs,fl,z,sz,by',h1,h2,h3,h4⟩:=UFld.h (P:=P) (t:=t) (f:=f) (k:=kk)
 exact ex_fieldAddr ha h1 h2 h3 h4⟩
end
class BP (b:Bool)(p q:outParam Prop):Prop where
 t:b=true→p
 f:b=false→q
instance BP.lt {i j:Int}:BP (decide (i<j)) (i<j) (j≤i):=⟨of_decide_eq_true,λh=>Int.not_lt.1 (of_decide_eq_false h)⟩
instance BP.le {i j:Int}:BP (decide (i≤j)) (i≤j) (j<i):=⟨of_decide_eq_true,λh=>Int.not_le.1 (of_decide_eq_false h)⟩
instance BP.eq {i j:Int}:BP (decide (i=j)) (i=j) (¬ i=j):=⟨of_decide_eq_true,of_decide_eq_false⟩
instance BP.ne {i j:Int}:BP (decide (i≠j)) (¬ i=j) (i=j):=⟨of_decide_eq_true,λh=>Decidable.of_not_not (of_decide_eq_false h)⟩
instance BP.not {b:Bool}{p q:Prop}[h:BP b p q]:BP (!b) q p:=⟨λe=>h.f (by simpa using e),λe=>h.t (by simpa using e)⟩
instance (priority:=low) BP.dec {p:Prop} [Decidable p]:BP (decide p) p (¬ p):=⟨of_decide_eq_true,of_decide_eq_false⟩
instance (priority:=10) BP.any {b:Bool}:BP b (b=true) (b=false):=⟨id,id⟩
section
variable {P:Program}{ops:Array Oper}{Q:Exit→Act→World→Prop}{a:Act}{w w':World}{K:Act→World→Prop}{o:Oper}{n d:Nat}{l l':List (Nat×Value)}{v:Value}{op:Go.Op}{ty:TypeId}{ps:String}{af:Array Edge}{rest:List Oper}
theorem S1 (ha:Fr a n l)[e:Ex P l op v](h:∀ a',Fr a' n ((d,v)::l)→wpList P ops Q rest a' w)(hf:okB d n l=true:=by rfl):wpList P ops Q (⟨some d,op,ty,ps,af,none⟩::rest) a w :=
 wpList_k (st_set ha rfl (e.ex a n ha w _ _ _ _ _) hf h)
theorem SK (h:StepK P ops Q o (wpList P ops Q rest) a w):wpList P ops Q (o::rest) a w:=h
theorem LN (h:Q .normal a w):wpList P ops Q [] a w:=h
theorem TN {K:Act→World→Prop}(h:K a w):Exit.then K Q .normal a w:=h
theorem TR {K:Act→World→Prop}(h:Q .ret a w):Exit.then K Q .ret a w:=h
theorem TE {K:Act→World→Prop}{i:Nat}(h:Q (.exit i) a w):Exit.then K Q (.exit i) a w:=h
theorem BN {i:Nat}(h:Q .normal a w):Exit.inBlock i Q .normal a w:=h
theorem BR {i:Nat}(h:Q .ret a w):Exit.inBlock i Q .ret a w:=h
theorem Fr.by {s:Nat}{c:Bool} {l'}{p q:Prop}(ha:Fr a n l)[k:Get l s (.bool c)][e:Del l s l'][B:BP c p q]{G:Prop}
   (ht:p→Fr a n ((s,.bool true)::l')→G) (hf:q→Fr a n ((s,.bool false)::l')→G):G :=
 ha.bool (s:=s) (λh=>ht (B.t h)) (λh=>hf (B.f h))
variable {C:World→Prop}{need:List Nat}{i fuel m:Nat}{od:List Nat}
def wpO (P:Program)(ops:Array Oper)(Q:Exit→Act→World→Prop)(C:World→Prop)(need:List Nat)(_od:List Nat)(fuel m:Nat)(a:Act)(w:World):Prop:=wpN P ops Q C need fuel (lb ops.size m) a w
def bitOn (m i:Nat):Nat:=m ||| 2 ^ i
theorem lb_on (k m i:Nat):(lb k m).setIfInBounds i true=lb k (bitOn m i):=by
 apply Array.ext_getElem?
 intro j
 simp only[lb,List.setIfInBounds_toArray,List.getElem?_toArray,List.getElem?_set,List.getElem?_map,List.length_map,List.length_range]
 by_cases hj:i=j
 · subst hj
   rw[if_pos rfl]
   by_cases hi:i<k
   · rw[if_pos hi,List.getElem?_range hi];simp[bitOn]
   · rw[if_neg hi,List.getElem?_eq_none (by simpa using hi)];rfl
 · rw[if_neg hj]
   by_cases hk:j<k
   · rw[List.getElem?_range hk]
     simp[bitOn,Nat.testBit_two_pow,hj]
   · rw[List.getElem?_eq_none (by simpa using hk)];rfl
theorem DW {id m:Nat}(C:World→Prop)(need od:List Nat)(hm:P.follows .mixedOrders=true)(hQ:PanOk Q)(h:PanOk Q→wpO P ops Q C need od m 0 a w.drew)(hn:ops.size=m:=by kernel_rfl):(Code.region id ops true).wp P Q a w:=by
 subst hn
 refine wp_draw (m:=ops.size) (l0:=lb ops.size 0) C need hm rfl ?_ hQ h
 apply Array.ext_getElem?
 intro j
 simp only[lb,Nat.zero_testBit,List.getElem?_toArray,List.getElem?_map,Array.getElem?_replicate]
 by_cases hj:j<ops.size
 · rw[if_pos hj,List.getElem?_range hj];simp
 · rw[if_neg hj,List.getElem?_eq_none (by simpa using hj)];rfl
theorem D1 (hi:ops[i]?=some o)(h:StepK P ops Q o (λa' w'=>(need.contains i=true→C w')∧wpO P ops Q C need od fuel (bitOn m i) a' w') a w)(hr:Region.ready .any ops (lb ops.size m)=[i]:=by kernel_rfl):wpO P ops Q C need (i::od) (fuel+1) m a w :=
 nt_one (lb_on _ _ _) hr hi h
theorem DD (h:Q .normal a w)(hr:Region.ready .any ops (lb ops.size m)=[]:=by kernel_rfl):wpO P ops Q C need [] fuel m a w:=nt_done hr h fuel
end
end
section
theorem dneI {x:Int}:decide (x≠x)=false:=by simp
def rows {α:Type}(f:α→List Value)(l:List α):List Value:=l.flatMap f
section
variable {α:Type}{f:α→List Value}{sz:Nat}
theorem rows_cons (x:α)(l:List α):rows f (x::l)=f x++rows f l:=rfl
theorem rows_app (l m:List α):rows f (l++m)=rows f l++rows f m:=by simp[rows]
theorem rows_one (h1:∀ x,∀ v∈f x,v.oneCell'=true)(l:List α):∀ v∈rows f l,v.oneCell'=true:=by
 intro v hv
 simp only[rows,List.mem_flatMap]at hv
 obtain⟨x,_,hx⟩:=hv
 exact h1 x v hx
theorem rows_len (hf:∀ x,(f x).length=sz)(l:List α):(rows f l).length=l.length*sz:=by
 induction l with
 | nil=>simp[rows]
 | cons x l ih=>rw[rows_cons,List.length_append,hf,ih,List.length_cons,Nat.succ_mul,Nat.add_comm]
theorem rows_drop (hf:∀ x,(f x).length=sz)(l:List α)(i:Nat):(rows f l).drop (i*sz)=rows f (l.drop i):=by
 induction i generalizing l with
 | zero=>simp
 | succ i ih =>
   cases l with
   | nil=>simp[rows]
   | cons x l=>rw[rows_cons,Nat.succ_mul,Nat.add_comm,← List.drop_drop,List.drop_left' (hf x),ih,List.drop_succ_cons]
theorem rows_take (hf:∀ x,(f x).length=sz)(l:List α)(i:Nat):(rows f l).take (i*sz)=rows f (l.take i):=by
 induction i generalizing l with
 | zero=>simp[rows]
 | succ i ih =>
   cases l with
   | nil=>simp[rows]
   | cons x l =>
     rw[rows_cons,Nat.succ_mul,Nat.add_comm,List.take_append,hf,List.take_of_length_le (by rw[hf];omega),show sz+i*sz-sz=i*sz from by omega,ih,List.take_succ_cons,rows_cons]
theorem rows_at (hf:∀ x,(f x).length=sz)(l:List α)(i:Nat)(h:i<l.length):((rows f l).drop (i*sz)).take sz=f l[i]:=by
 rw[rows_drop hf,List.drop_eq_getElem_cons h,rows_cons,List.take_left' (hf _)]
theorem rows_get (hf:∀ x,(f x).length=sz)(l:List α){i k:Nat}{v:Value}(h:i<l.length)(hv:(f l[i])[k]?=some v):(rows f l)[i*sz+k]?=some v:=by
 have hk:k<sz:=by rw[← hf l[i]];exact (List.getElem?_eq_some_iff.1 hv).1
 have:=rows_at hf l i h
 rw[← this,List.getElem?_take,if_pos hk,List.getElem?_drop]at hv
 exact hv
theorem rows_set (hf:∀ x,(f x).length=sz)(l:List α){i:Nat}(x:α)(h:i<l.length):splice (rows f l) (i*sz) (f x)=rows f (l.set i x):=by
 rw[List.set_eq_take_append_cons_drop,if_pos h,rows_app,rows_cons,splice,rows_take hf,hf,show i*sz+sz=(i+1)*sz from by rw[Nat.succ_mul],rows_drop hf,List.append_assoc]
theorem rows_set1 (hf:∀ x,(f x).length=sz)(l:List α){i k:Nat}{v:Value}(x:α)(h:i<l.length)(hk:k<sz)(hx:(f l[i]).set k v=f x):(rows f l).set (i*sz+k) v=rows f (l.set i x):=by
 have h0:l=l.take i++l[i]::l.drop (i+1):=by rw[← List.drop_eq_getElem_cons h,List.take_append_drop]
 have hse:l.set i x=l.take i++x::l.drop (i+1):=by rw[List.set_eq_take_append_cons_drop,if_pos h]
 rw[hse,rows_app,rows_cons]
 conv=>lhs;rw[h0,rows_app,rows_cons]
 have hl:(rows f (l.take i)).length=i*sz:=by rw[rows_len hf];simp;rw[Nat.min_eq_left (by omega)]
 rw[List.set_append_right _ _ (by omega),hl,show i*sz+k-i*sz=k from by omega,List.set_append_left _ _ (by rw[hf];exact hk),hx]
theorem splice_mid (A B C vs:List Value)(k:Nat)(hk:k+vs.length≤B.length):splice (A++(B++C)) (A.length+k) vs=A++(splice B k vs++C):=by
 have e1:(A++(B++C)).take (A.length+k)=A++B.take k:=by
   rw[List.take_append,List.take_of_length_le (by omega),show A.length+k-A.length=k from by omega,List.take_append_of_le_length (by omega)]
 have e2:(A++(B++C)).drop (A.length+k+vs.length)=B.drop (k+vs.length)++C:=by
   rw[List.drop_append,List.drop_eq_nil_of_le (by omega),show A.length+k+vs.length-A.length=k+vs.length from by omega,List.drop_append_of_le_length (by omega),List.nil_append]
 rw[splice,e1,e2,splice]
 simp only[List.append_assoc]
theorem splice_at (hf:∀ x,(f x).length=sz)(l:List α){i k:Nat}{vs:List Value}(x:α)(h:i<l.length)(hk:k+vs.length≤sz)(hx:splice (f l[i]) k vs=f x):splice (rows f l) (i*sz+k) vs=rows f (l.set i x):=by
 have h0:rows f l=rows f (l.take i)++(f l[i]++rows f (l.drop (i+1))):=by
   rw[← rows_cons,← rows_app,← List.drop_eq_getElem_cons h,List.take_append_drop]
 have hse:l.set i x=l.take i++x::l.drop (i+1):=by rw[List.set_eq_take_append_cons_drop,if_pos h]
 have hl:(rows f (l.take i)).length=i*sz:=by rw[rows_len hf];simp;rw[Nat.min_eq_left (by omega)]
 rw[hse,rows_app,rows_cons,h0,← hl,splice_mid _ _ _ _ _ (by rw[hf];exact hk),hx]
theorem rows_sub (hf:∀ x,(f x).length=sz)(l:List α){i k m:Nat}(h:i<l.length)(hk:k+m≤sz):((rows f l).drop (i*sz+k)).take m=((f l[i]).drop k).take m:=by
 have:=rows_at hf l i h
 rw[← this,List.drop_take,List.take_take,List.drop_drop,Nat.min_eq_left (by omega)]
end
def fn (m:Nat)(g:Nat→Value):List Value:=(List.range m).map g
theorem fn_len (m:Nat)(g:Nat→Value):(fn m g).length=m:=by simp[fn]
theorem fn_get {m k:Nat}(g:Nat→Value)(h:k<m):(fn m g)[k]?=some (g k):=by simp[fn,h]
theorem fn_congr {m:Nat}{g g':Nat→Value}(h:∀ k,k<m→g k=g' k):fn m g=fn m g':=by
 simp only[fn];exact List.map_congr_left λk hk=>h k (List.mem_range.1 hk)
theorem fn_set {m k:Nat}(g:Nat→Value)(v:Value):(fn m g).set k v=fn m (λj=>if j=k then v else g j):=by
 apply List.ext_getElem (by simp[fn])
 intro i h1 h2
 simp only[fn,List.getElem_set,List.getElem_map,List.getElem_range]
 by_cases h:k=i
 · simp[h]
 · rw[if_neg h,if_neg (λe=>h e.symm)]
theorem fn_one {m:Nat}{g:Nat→Value}(h:∀ k,(g k).oneCell'=true):∀ v∈fn m g,v.oneCell'=true:=by
 intro v hv
 simp only[fn,List.mem_map]at hv
 obtain⟨k,_,rfl⟩:=hv
 exact h k
theorem fn_sub {m k n:Nat}(g:Nat→Value)(h:k+n≤m):((fn m g).drop k).take n=fn n (λj=>g (k+j)):=by
 apply List.ext_getElem (by simp[fn];omega)
 intro i h1 h2
 simp[fn]
def upd (g:Nat→Int)(c:Nat)(v:Int):Nat→Int:=λj=>if j=c then v else g j
def ints (k:IntKind)(m:Nat)(g:Nat→Int):List Value:=fn m (λj=>.int k (g j))
theorem ints_len (k:IntKind)(m:Nat)(g:Nat→Int):(ints k m g).length=m:=fn_len _ _
theorem ints_get {k:IntKind}{m j:Nat}(g:Nat→Int)(h:j<m):(ints k m g)[j]?=some (.int k (g j)):=fn_get _ h
theorem ints_one {k:IntKind}{m:Nat}{g:Nat→Int}:∀ v∈ints k m g,v.oneCell'=true:=fn_one λ_=>rfl
theorem ints_set {k:IntKind}{m j:Nat}(g:Nat→Int)(v:Int):(ints k m g).set j (.int k v)=ints k m (λi=>if i=j then v else g i):=by
 rw[ints,fn_set];exact fn_congr λi _=>by by_cases h:i=j <;> simp[h]
theorem ints_sub {k:IntKind}{m j n:Nat}(g:Nat→Int)(h:j+n≤m):((ints k m g).drop j).take n=ints k n (λi=>g (j+i)):=fn_sub _ h
theorem ints_congr {k:IntKind}{m:Nat}{g g':Nat→Int}(h:∀ j,j<m→g j=g' j):ints k m g=ints k m g':=fn_congr λj hj=>by rw[h j hj]
class FlatC (css:List (List Value))(out:outParam (List Value)):Prop where h:css.flatten=out
instance FlatC.nil:FlatC [] []:=⟨rfl⟩
instance FlatC.one {x css out}[k:FlatC css out]:FlatC ([x]::css) (x::out):=⟨by rw[List.flatten_cons,k.h];rfl⟩
instance LenEq.ints {k m g}:LenEq (ints k m g) m:=⟨ints_len k m g⟩
section
variable {P:Program}{ops:Array Oper}{Q:Exit→Act→World→Prop}{a:Act}{w w' W:World}{K:Act→World→Prop}{n d:Nat}{l:List (Nat×Value)}{v:Value}{L R:List SP}
theorem ex_quo {x y k i j t u dst ty ps af g}(ha:Fr a n l)(h:j≠0)(hi:k.wrap (i.tdiv j)=i.tdiv j)[e:Ev l x (.int k i)][f:Ev l y (.int k j)] :
   (execOp a.eval ⟨dst,.binOp .quo t x y u,ty,ps,af,g⟩).run P w=.ok (.value (.int k (i.tdiv j))) w:=by
 have:k.wrap (i.tdiv j)=i.tdiv j:=hi
 simp[execOp,e.ev a n ha,f.ev a n ha,eqGuard,binOp,Op.intDiv,h,this]
theorem ex_rem {x y k i j t u dst ty ps af g}(ha:Fr a n l)(h:j≠0)[e:Ev l x (.int k i)][f:Ev l y (.int k j)] :
   (execOp a.eval ⟨dst,.binOp .rem t x y u,ty,ps,af,g⟩).run P w=.ok (.value (.int k (i.tmod j))) w:=by
 simp[execOp,e.ev a n ha,f.ev a n ha,eqGuard,binOp,Op.intDiv,h]
theorem quoN (i:Nat)(j:Nat):(i:Int).tdiv (j:Int)=((i/j:Nat):Int):=by rw[Int.natCast_ediv,Int.tdiv_eq_ediv_of_nonneg (by omega)]
theorem remN (i:Nat)(j:Nat):(i:Int).tmod (j:Int)=((i%j:Nat):Int):=by rw[Int.natCast_emod,Int.tmod_eq_emod_of_nonneg (by omega)]
theorem ex_index1 {x y k i j vs t el m dd z by' dst ty ps af g}(ha:Fr a n l)(hu:P.underlying t=some (.array m el))(hd:P.underlying el=some dd)(h1:isOne dd=true)(hi:TI P el z 1 by')
   [ev:Ev l x (.agg (List.toArray vs))] [ey:Ev l y (.int k i)] [nj:NatOf i j] (hlt:j<m) (hv:vs[j]?=some v) :
   (execOp a.eval ⟨dst,.index t x y,ty,ps,af,g⟩).run P w=.ok (.value v) w:=by
 have:=nj.h;subst this
 have hpa:(part el vs.toArray j).run P w=.ok v w:=by
   have hagg:(isAgg el).run P w=.ok false w:=by
     simp only[isAgg,Sem.run_bind,run_underlying hd,Result.andThen_ok]
     cases dd <;> first | rfl | (simp[isOne]at h1)
   simp[part,hagg,hv]
 simp[execOp,ev.ev a n ha,ey.ev a n ha,Instr.index,asIntOf,run_underlying hu,run_size hi,hlt,hpa]
theorem ex_slicePA {x b off m t el z sz by' dst ty ps af g}(ha:Fr a n l)[ev:Ev l x (.pointer (some ⟨b,off,none⟩))](ht:P.underlying t=some (.array m el))(hi:TI P el z sz by') :
   (execOp a.eval ⟨dst,.slice t x none none none,ty,ps,af,g⟩).run P w=.ok (.value (.slice (some ⟨b,off,none⟩) m m)) w:=by
 simp[execOp,ev.ev a n ha,Instr.sliceAt,Instr.sliceBounds,run_underlying ht,run_size hi,Instr.sureAddr,add_off]
theorem ex_convII {x k k' i s t dst ty ps af g}(ha:Fr a n l)(hs:P.underlying s=some (.int k))(ht:P.underlying t=some (.int k'))[ev:Ev l x (.int k i)] :
   (execOp a.eval ⟨dst,.convert s t x,ty,ps,af,g⟩).run P w=.ok (.value (.int k' (k'.wrap i))) w:=by
 simp[execOp,ev.ev a n ha,convert,run_underlying hs,run_underlying ht,Conv.intToInt]
theorem ex_convIIs {x k k' i s t dst ty ps af g}(ha:Fr a n l)(hs:P.underlying s=some (.int k))(ht:P.underlying t=some (.int k'))(hw:k'.wrap i=i)[ev:Ev l x (.int k i)] :
   (execOp a.eval ⟨dst,.convert s t x,ty,ps,af,g⟩).run P w=.ok (.value (.int k' i)) w:=by
 rw[ex_convII ha hs ht,hw]
theorem ex_buildA {t el m z zs sz by' ze se be parts css out dst ty ps af g}(ha:Fr a n l)(hu:P.underlying t=some (.array m el))(hi:TI P t z sz by')[kz:Cells z zs](he:TI P el ze se be)
   [ep:EvP l parts 0 css] (hc:(css.all λc=>c.length==se)=true) (hz:zs.length=css.length*se) [fl:FlatC css out] :
   (execOp a.eval ⟨dst,.build t (List.toArray parts),ty,ps,af,g⟩).run P w=.ok (.value (.agg out.toArray)) w:=by
 obtain⟨vs,e1,e2⟩:=ep.h a n ha
 have hf:=fill_row (sz:=se) css vs 0 [] zs e2 (λc hc'=>by simpa using List.all_eq_true.1 hc c hc') (by simp) hz
 simp only[List.nil_append]at hf
 rw[fl.h]at hf
 simp only[execOp,Sem.run_bind,Instr.build,run_zero hi,Result.andThen_ok,run_underlying hu,run_size he,kz.h,List.map_toArray,e1]
 simp[hf]
theorem ex_sliceLPA {x y b off m t el z sz by' k i j dst ty ps af g}(ha:Fr a n l)[ev:Ev l x (.pointer (some ⟨b,off,none⟩))](ht:P.underlying t=some (.array m el))(hi:TI P el z sz by')[ey:Ev l y (.int k i)][nj:NatOf i j](h:j<m) :
   (execOp a.eval ⟨dst,.slice t x (some y) none none,ty,ps,af,g⟩).run P w=.ok (.value (.slice (some ⟨b,off+j*sz,none⟩) (m-j) (m-j))) w:=by
 have:=nj.h;subst this
 have h2:¬ (m=j):=by omega
 simp[execOp,ev.ev a n ha,ey.ev a n ha,Instr.sliceAt,Instr.sliceBounds,Instr.sliceBound,asIntOf,run_underlying ht,run_size hi,Instr.sureAddr,add_off,Nat.le_of_lt h,h2]
theorem st_copy {x y t t2 el z sz by' b off m c b2 off2 m2 c2 k vs e cs ty ps af g}(ha:Fr a n l)(hw:Region.wanted ⟨some d,.call ⟨.builtin .copy,#[x,y],#[t,t2]⟩,ty,ps,af,g⟩ (yielded ops a.tmps)=true)(hs:St W w L)
   (ht:P.underlying t=some (.slice el)) (hi:TI P el z sz by') (hf:okB d n l=true) [ev:Ev l x (.slice (some ⟨b,off,none⟩) m c)] [ey:Ev l y (.slice (some ⟨b2,off2,none⟩) m2 c2)] [kb:Blk L b e cs R]
   (hk:min m2 m=k) (hr:Rd w b2 off2 vs) (hl:vs.length=k*sz) (h1:∀ v∈vs,v.oneCell'=true) (hle:off+vs.length≤cs.length)
   (h:∀ a' w',Fr a' n ((d,.int .i64 k)::l)→St W w' (blk b e (splice cs off vs)::R)→K a' w'):StepK P ops Q ⟨some d,.call ⟨.builtin .copy,#[x,y],#[t,t2]⟩,ty,ps,af,g⟩ K a w:=by
 obtain⟨i,hi1,hi2,hi3,hi4⟩:=info_parts hi.h
 have hs':=hs.bring b
 have hnews:∀ j v,vs[j]?=some v→w.cell? ((⟨b2,off2,none⟩:Addr).add j)=some v:=λj v hj=>by rw[add_off];exact hr j v hj
 have hf1:=run_firstCells_some (P:=P) w sz k ⟨b2,off2,none⟩ m2 c2 vs hl hnews
 have hst:=run_storeCells_at (P:=P) b off e vs 0 cs.toArray w hs'.has.2 (by simpa using hle) h1
 have hst2:(storeCells ⟨b,off,none⟩ vs).run P w=.ok () (w.setRow b (splice cs off vs).toArray):=by simpa [splice] using hst
 refine st_set (v:=.int .i64 k) (w':=w.setRow b (splice cs off vs).toArray) ha hw ?_ hf (λa' ha'=>h a' _ ha' hs'.setRow)
 simp[execOp,resolve,ev.ev a n ha,ey.ev a n ha,invoke,builtin,Builtin.copy_,run_underlying ht,sizeOf,typeInfo,hi1,hi3,Builtin.lenOf,hk,hf1,hst2,goInt]
end
def All {α:Type}(f:α→SP)(l:List α):SP:=λh=>sepL (l.map f) h
section
variable {α:Type}{f:α→SP}{W w:World}{L:List SP}
theorem erase_perm {β:Type}(l:List β){i:Nat}(h:i<l.length):l.Perm (l[i]::l.eraseIdx i):=by
 conv=>lhs;rw[← List.take_append_drop i l,List.drop_eq_getElem_cons h]
 rw[List.eraseIdx_eq_take_drop_succ]
 exact List.perm_middle
theorem St.allNil (hs:St W w L):St W w (All f []::L) :=
 ⟨hs.below,let ⟨h,p,q⟩:=hs.sat;⟨h,p,λ_=>none,h,λ_=>.inl rfl,λ_ _ e=>(by cases e),Hp.Sub.refl _,trivial,q⟩⟩
theorem St.allOut {l:List α}(hs:St W w (All f l::L)){i:Nat}(h:i<l.length):St W w (f l[i]::All f (l.eraseIdx i)::L):=by
 have h1:=hs.open (M:=l.map f) (λ_ x=>x)
 have hp:=((erase_perm l h).map f).append_right L
 have h2:=h1.perm hp
 simp only[List.map_cons,List.cons_append]at h2
 refine St.perm (L:=All f (l.eraseIdx i)::f l[i]::L) ?_ (List.Perm.swap _ _ _)
 exact St.shut (M:=(l.eraseIdx i).map f) (h2.perm List.perm_middle.symm) (λ_ x=>x)
theorem St.allIn {l:List α}{x:α}(hs:St W w (f x::All f l::L)):St W w (All f (x::l)::L):=by
 have h1:=(hs.perm (List.Perm.swap _ _ _)).open (M:=l.map f) (λ_ x=>x)
 exact St.shut (M:=(x::l).map f) (h1.perm List.perm_middle) (λ_ x=>x)
theorem St.allPerm {l l':List α}(hs:St W w (All f l::L))(hp:l.Perm l'):St W w (All f l'::L):=by
 have h1:=hs.open (M:=l.map f) (λ_ x=>x)
 exact St.shut (M:=l'.map f) (h1.perm ((hp.map f).append_right L)) (λ_ x=>x)
theorem St.allPut {l:List α}{x:α}{i:Nat}(h:i<l.length)(hs:St W w (f x::All f (l.eraseIdx i)::L)):St W w (All f (l.set i x)::L):=by
 refine hs.allIn.allPerm ?_
 have hi:i<(l.set i x).length:=by simpa using h
 have:=erase_perm (l.set i x) hi
 rw[List.getElem_set_self,List.eraseIdx_set_eq]at this
 exact this.symm
theorem St.allPush {l:List α}{x:α}(hs:St W w (f x::All f l::L)):St W w (All f (l++[x])::L) :=
 hs.allIn.allPerm (List.perm_append_comm (l₁:=[x]))
end
end
section
def nx (s:ByteArray)(pos:Nat):List Value:=if pos<s.size then [.bool true,.int .i64 pos,.int .i32 (Utf8.decode s pos).1] else [.bool false]
def adv (s:ByteArray)(pos:Nat):Nat:=if pos<s.size then pos+(Utf8.decode s pos).2 else pos
theorem nx0 (s:ByteArray)(pos:Nat):(nx s pos)[0]?=some (.bool (decide (pos<s.size))):=by
 by_cases h:pos<s.size <;> simp[nx,h]
theorem nx1 {s:ByteArray}{pos:Nat}(h:pos<s.size):(nx s pos)[1]?=some (.int .i64 pos):=by simp[nx,h]
theorem nx2 {s:ByteArray}{pos:Nat}(h:pos<s.size):(nx s pos)[2]?=some (.int .i32 (Utf8.decode s pos).1):=by simp[nx,h]
section
variable {P:Program}{ops:Array Oper}{Q:Exit→Act→World→Prop}{a:Act}{w w' W:World}{K:Act→World→Prop}{o:Oper}{n d:Nat}{l:List (Nat×Value)}{v:Value}{L R:List SP}
theorem st_range {t x s ty ps af g}(ha:Fr a n l)(hw:Region.wanted ⟨some d,.range t x,ty,ps,af,g⟩ (yielded ops a.tmps)=true)(hs:St W w L)(ht:P.underlying t=some .string)[ev:Ev l x (.string s)]
   (hf:okB d n l=true) (h:∀ b a' w',Fr a' n ((d,.pointer (some ⟨b,0,none⟩))::l)→St W w' (pts b (.stringIter s 0)::L)→Old w w'→K a' w'):StepK P ops Q ⟨some d,.range t x,ty,ps,af,g⟩ K a w:=by
 refine st_set (v:=.pointer (some ⟨w.heap.size,0,none⟩)) (w':=w.alloc (.stringIter s 0)) ha hw ?_ hf (λa' ha'=>h _ _ _ ha' (hs.alloc _) (Old.alloc _ _))
 have:=run_range_string (P:=P) w t s ht
 simp[execOp,ev.ev a n ha,this,World.iter]
class PickP (L:List SP)(b:Nat)(o:outParam Obj)(R:outParam (List SP)):Prop where perm:L.Perm (pts b o::R)
instance PickP.head {L b o}:PickP (pts b o::L) b o L:=⟨List.Perm.refl _⟩
theorem st_next {x s pos b ty ps af g}(ha:Fr a n l)(hw:Region.wanted ⟨some d,.next x true,ty,ps,af,g⟩ (yielded ops a.tmps)=true)(hs:St W w L)[ev:Ev l x (.pointer (some ⟨b,0,none⟩))][k:PickP L b (.stringIter s pos) R]
   (hf:okB d n l=true) (h:∀ a' w',Fr a' n ((d,.tuple (List.toArray (nx s pos)))::l)→St W w' (pts b (.stringIter s (adv s pos))::R)→K a' w'):StepK P ops Q ⟨some d,.next x true,ty,ps,af,g⟩ K a w:=by
 have hs1:=hs.perm k.perm
 have hb:=hs1.has.2
 by_cases hp:pos<s.size
 · have hs2:=hs1.upd (o':=.stringIter s (adv s pos)) (w':={ w with heap:=w.heap.setIfInBounds b (.stringIter s (adv s pos)) }) rfl rfl rfl rfl
   refine st_set (v:=.tuple (List.toArray (nx s pos))) (w':={ w with heap:=w.heap.setIfInBounds b (.stringIter s (adv s pos)) }) ha hw ?_ hf (λa' ha'=>h a' _ ha' hs2)
   simp[execOp,ev.ev a n ha,Instr.next,getObj,setObj,Sem.run,hb,hp,goInt,nx,adv,Sem.run_bind]
 · have e:adv s pos=pos:=by simp[adv,hp]
   refine st_set (v:=.tuple (List.toArray (nx s pos))) (w':=w) ha hw ?_ hf (λa' ha'=>h a' _ ha' (by rw[e];exact hs1))
   simp[execOp,ev.ev a n ha,Instr.next,getObj,Sem.run,hb,hp,nx,Sem.run_bind]
theorem ex_lenS {x s t dst ty ps af g}(ha:Fr a n l)[ev:Ev l x (.string s)](hu:P.underlying t=some .string) :
   (execOp a.eval ⟨dst,.call ⟨.builtin .len,#[x],#[t]⟩,ty,ps,af,g⟩).run P w=.ok (.value (.int .i64 s.size)) w:=by
 simp[execOp,resolve,ev.ev a n ha,invoke,builtin,Builtin.len_,run_underlying hu,goInt]
theorem ex_indexS {x y s k i j t dst ty ps af g}(ha:Fr a n l)(hu:P.underlying t=some .string)[ev:Ev l x (.string s)][ey:Ev l y (.int k i)][nj:NatOf i j](h:j<s.size) :
   (execOp a.eval ⟨dst,.index t x y,ty,ps,af,g⟩).run P w=.ok (.value (.int .u8 (s[j]'h).toNat)) w:=by
 have:=nj.h;subst this
 have h2:=run_index_string (P:=P) w t s k (j:Int) hu
 have h3:0≤(j:Int)∧(j:Int)<s.size:=by omega
 rw[dif_pos h3]at h2
 simp[execOp,ev.ev a n ha,ey.ev a n ha,h2]
theorem ex_sliceSL {x y s k i j t dst ty ps af g}(ha:Fr a n l)(hu:P.underlying t=some .string)[ev:Ev l x (.string s)][ey:Ev l y (.int k i)][nj:NatOf i j](h:j≤s.size) :
   (execOp a.eval ⟨dst,.slice t x (some y) none none,ty,ps,af,g⟩).run P w=.ok (.value (.string (s.extract j s.size))) w:=by
 have:=nj.h;subst this
 have h2:=run_slice_string_l (P:=P) w t s hu k (j:Int) (by omega) (by omega)
 simp only[Int.toNat_natCast]at h2
 simp[execOp,ev.ev a n ha,ey.ev a n ha,run_sliceAt_string (P:=P) (w:=w) t _ _ _ _ hu,h2]
theorem ex_shl {x y k i k' j jn t u dst ty ps af g}(ha:Fr a n l)[e:Ev l x (.int k i)][f:Ev l y (.int k' j)][nj:NatOf j jn](h:jn≤k.bits) :
   (execOp a.eval ⟨dst,.binOp .shl t x y u,ty,ps,af,g⟩).run P w=.ok (.value (.int k (k.wrap (i*2 ^ jn)))) w:=by
 have:=nj.h;subst this
 have h2:min jn k.bits=jn:=Nat.min_eq_left h
 have h3:¬ ((jn:Int)<0):=by omega
 simp[execOp,e.ev a n ha,f.ev a n ha,eqGuard,binOp,Op.shift,h2,h3]
theorem ex_shr {x y k i k' j jn t u dst ty ps af g}(ha:Fr a n l)[e:Ev l x (.int k i)][f:Ev l y (.int k' j)][nj:NatOf j jn](h:jn≤k.bits) :
   (execOp a.eval ⟨dst,.binOp .shr t x y u,ty,ps,af,g⟩).run P w=.ok (.value (.int k (i.fdiv (2 ^ jn)))) w:=by
 have:=nj.h;subst this
 have h2:min jn k.bits=jn:=Nat.min_eq_left h
 have h3:¬ ((jn:Int)<0):=by omega
 simp[execOp,e.ev a n ha,f.ev a n ha,eqGuard,binOp,Op.shift,h2,h3]
theorem ex_or {x y k i j t u dst ty ps af g}(ha:Fr a n l)[e:Ev l x (.int k i)][f:Ev l y (.int k j)] :
   (execOp a.eval ⟨dst,.binOp .or t x y u,ty,ps,af,g⟩).run P w=.ok (.value (.int k (k.wrap ((BitVec.ofInt k.bits i ||| BitVec.ofInt k.bits j).toNat)))) w:=by
 simp[execOp,e.ev a n ha,f.ev a n ha,eqGuard,binOp,Op.intBits]
theorem ex_and {x y k i j t u dst ty ps af g}(ha:Fr a n l)[e:Ev l x (.int k i)][f:Ev l y (.int k j)] :
   (execOp a.eval ⟨dst,.binOp .and t x y u,ty,ps,af,g⟩).run P w=.ok (.value (.int k (k.wrap ((BitVec.ofInt k.bits i &&& BitVec.ofInt k.bits j).toNat)))) w:=by
 simp[execOp,e.ev a n ha,f.ev a n ha,eqGuard,binOp,Op.intBits]
theorem ex_xor {x y k i j t u dst ty ps af g}(ha:Fr a n l)[e:Ev l x (.int k i)][f:Ev l y (.int k j)] :
   (execOp a.eval ⟨dst,.binOp .xor t x y u,ty,ps,af,g⟩).run P w=.ok (.value (.int k (k.wrap ((BitVec.ofInt k.bits i ^^^ BitVec.ofInt k.bits j).toNat)))) w:=by
 simp[execOp,e.ev a n ha,f.ev a n ha,eqGuard,binOp,Op.intBits]
theorem ex_com {x k i t dst ty ps af g}(ha:Fr a n l)[e:Ev l x (.int k i)] :
   (execOp a.eval ⟨dst,.unOp .xor t x,ty,ps,af,g⟩).run P w=.ok (.value (.int k (k.wrap ((BitVec.ofInt k.bits (if k.signed then -1 else k.max) ^^^ BitVec.ofInt k.bits i).toNat)))) w:=by
 simp[execOp,e.ev a n ha,Op.unary,Op.intBits]
theorem ex_neg {x k i t dst ty ps af g}(ha:Fr a n l)[e:Ev l x (.int k i)] :
   (execOp a.eval ⟨dst,.unOp .neg t x,ty,ps,af,g⟩).run P w=.ok (.value (.int k (k.wrap (0-i)))) w:=by
 simp[execOp,e.ev a n ha,Op.unary,Op.intArith]
theorem ex_quoW {x y k i j t u dst ty ps af g}(ha:Fr a n l)(h:j≠0)[e:Ev l x (.int k i)][f:Ev l y (.int k j)] :
   (execOp a.eval ⟨dst,.binOp .quo t x y u,ty,ps,af,g⟩).run P w=.ok (.value (.int k (k.wrap (i.tdiv j)))) w:=by
 simp[execOp,e.ev a n ha,f.ev a n ha,eqGuard,binOp,Op.intDiv,h]
theorem run_equalIn_I {t t':TypeId} {ms}(ht:P.underlying t=some (.interface ms))(v:Value)(k:Nat):(Op.equalIn (k+1) t (.iface t' v) .nilIface).run P w=.ok false w:=by
 simp[Op.equalIn,run_underlying ht]
theorem ex_eqnilI {x t v t' ms u dst ty ps af g}(ha:Fr a n l)(ht:P.underlying t=some (.interface ms))[e:Ev l x (.iface t' v)] :
   (execOp a.eval ⟨dst,.binOp .eql t x (.const .nilIface) u,ty,ps,af,g⟩).run P w=.ok (.value (.bool false)) w:=by
 have hc:a.eval (.const .nilIface)=.nilIface:=rfl
 have h2:(Op.equal t (.iface t' v) .nilIface).run P w=.ok false w:=run_equalIn_I ht v 9999
 simp only[execOp,e.ev a n ha,hc,Sem.run_bind]
 simp[eqGuard,binOp,h2]
theorem ex_makeI {x t dd dst ty ps af g}(ha:Fr a n l)(ht:P.underlying t=some dd)(hd:(match dd with | .interface _=>false | _=>true)=true)[e:Ev l x v] :
   (execOp a.eval ⟨dst,.makeInterface t x,ty,ps,af,g⟩).run P w=.ok (.value (.iface t v)) w:=by
 cases dd <;> first | (simp at hd) | skip
 all_goals simp[execOp,e.ev a n ha,Instr.makeInterface,run_underlying ht]
def MethodT (P:Program)(t:TypeId)(name:String)(f:FuncId):Prop:=∀ (ad:Option Addr) (w:World),(method (P.types.size+Made.depth) t (.pointer ad) name).run P w=.ok (f,.pointer ad) w
theorem st_callI {x t ad name f args tys ty ps af g vs all}{X:Ending→World→Prop}(ha:Fr a n l)(hw:Region.wanted ⟨some d,.call ⟨.invoke x name,List.toArray args,tys⟩,ty,ps,af,g⟩ (yielded ops a.tmps)=true)
   [ex:Ev l x (.iface t (.pointer ad))] (hm:MethodT P t name f) (hb:callable P f=true) (hf:okB d n l=true) [ev:EvL l args vs] (hc:Calls P f (List.toArray all) w X) (hall:.pointer ad::vs=all)
   (h:∀ e w',X e w'→∃ v,e=.returned v∧∀ a',Fr a' n ((d,v)::l)→K a' w') :
   StepK P ops Q ⟨some d,.call ⟨.invoke x name,List.toArray args,tys⟩,ty,ps,af,g⟩ K a w:=by
 subst hall
 refine st_enter hw ?_ hc λe w' hx=>let ⟨v,he,hv⟩:=h e w' hx;⟨v,he,hv _ (ha.put hf v)⟩
 have h3:=hm ad w
 simp[execOp,resolve,ex.ev a n ha,invoke,callMethod,ev.ev a n ha,h3,run_callFunc hb,program,Sem.run]
end
end
section
section
variable {P:Program}{a:Act}{w:World}{n:Nat}{l:List (Nat×Value)}{v:Value}
theorem ex_field1 {x vs t f fs fl dd dst ty ps af g}(ha:Fr a n l)(hu:P.underlying t=some (.struct fs))(hf:fs[f]?=some fl)(hd:P.underlying fl.type=some dd)(h1:isOne dd=true)
   [ev:Ev l x (.agg (List.toArray vs))] (hv:vs[fl.offset]?=some v) :
   (execOp a.eval ⟨dst,.field t x f,ty,ps,af,g⟩).run P w=.ok (.value v) w:=by
 have hpa:(part fl.type vs.toArray fl.offset).run P w=.ok v w:=by
   have hagg:(isAgg fl.type).run P w=.ok false w:=by
     simp only[isAgg,Sem.run_bind,run_underlying hd,Result.andThen_ok]
     cases dd <;> first | rfl | (simp[isOne]at h1)
   simp[part,hagg,hv]
 simp[execOp,ev.ev a n ha,Instr.field,run_underlying hu,hf,asAgg,hpa]
end
end
section
section
variable {P:Program}{a:Act}{w W:World}{n:Nat}{l:List (Nat×Value)}{L R:List SP}
theorem ex_sliceHM {x u z3 k' k'' i' i'' j' j'' ad m c t el z sz by' dst ty ps af g}(ha:Fr a n l)(ht:P.underlying t=some (.slice el))(hi:TI P el z sz by')[ev:Ev l x (.slice ad m c)][eu:Ev l u (.int k' i')][ez:Ev l z3 (.int k'' i'')]
   [nj':NatOf i' j'] [nj'':NatOf i'' j''] (h':j'≤j'') (h'':j''≤c) :
   (execOp a.eval ⟨dst,.slice t x none (some u) (some z3),ty,ps,af,g⟩).run P w=.ok (.value (.slice (cutAd ad 0 j'' sz) j' j'')) w:=by
 have hj':=nj'.h
 subst hj'
 have hj'':=nj''.h
 subst hj''
 have e1:=(elem_of ht).1
 have e2:=(elem_of ht).2
 have:=run_slice_hm (P:=P) (w:=w) t ad m c e1 k' k'' (j':Int) (j'':Int) (by omega) (by omega) (by omega)
 rw[e2,run_size hi]at this
 simp only[Result.andThen_ok,Int.toNat_natCast]at this
 simp[execOp,ev.ev a n ha,eu.ev a n ha,ez.ev a n ha,run_sliceAt_slice (P:=P) (w:=w) t _ _ _ _ e1,this,sliced,cutAd]
theorem St.cutSlM {e sz k c:Nat}{cs:List Value}(hs:St W w L)(ad:Option Addr)(m:Nat)[pk:PickSl L ad k c e sz cs R](hm:m≤k):St W w (Sl e sz (cutAd ad 0 m sz) m m (cs.take (m*sz))::R):=by
 have h1:=hs.perm pk.perm
 rcases Nat.eq_zero_or_pos m with h0 | h0
 · subst h0
   simpa using h1.tail.sl0 e sz (cutAd ad 0 0 sz)
 · have hc:=(hs.sl ad)
   obtain⟨b,pre,post,⟨g1,g2,g3,g4⟩,h2⟩:=h1.slOpen (by omega)
   subst g3
   rw[cutAd_some (by omega),Nat.zero_mul,Nat.add_zero]
   have hml:m*sz≤cs.length:=by rw[g1];exact Nat.mul_le_mul_right _ hm
   rw[show pre++cs++post=pre++cs.take (m*sz)++(cs.drop (m*sz)++post) from by
     conv=>lhs;rw[← List.take_append_drop (m*sz) cs]
     simp only[List.append_assoc]]at h2
   exact St.slShut h2 (by rw[List.length_take];omega) (Nat.le_refl _) (by simp)
end
end
section
section
variable {P:Program}{ops:Array Oper}{Q:Exit→Act→World→Prop}{a:Act}{w w' W:World}{K:Act→World→Prop}{n d:Nat}{l:List (Nat×Value)}{L:List SP}
theorem st_makeSlice {t el z sz by' x y k k' i j ty ps af g}(ha:Fr a n l)(hw:Region.wanted ⟨some d,.makeSlice t x y,ty,ps,af,g⟩ (yielded ops a.tmps)=true)(hs:St W w L)(ht:P.underlying t=some (.slice el))
   (hi:TI P el z sz by') (hf:okB d n l=true) (hb:by'*j≤281474976710656) (hj:j≤9223372036854775807) [e:Ev l x (.int k i)] [e2:Ev l y (.int k' i)] [nj:NatOf i j]
   (h:∀ b a' w',Fr a' n ((d,.slice (some ⟨b,0,none⟩) j j)::l)→St W w' (blk b el (madeCells z.cells (j*sz)).toList::L)→Old w w'→K a' w') :
   StepK P ops Q ⟨some d,.makeSlice t x y,ty,ps,af,g⟩ K a w:=by
 have hnj:=nj.h
 subst hnj
 obtain⟨ti,hi1,hi2,hi3,hi4⟩:=info_parts hi.h
 have hbi:(ti.bytes:Int)*(j:Int)≤281474976710656:=by
   rw[hi4]
   have:((by'*j:Nat):Int)≤281474976710656:=by omega
   rwa [Int.natCast_mul]at this
 have hr:=run_make (P:=P) w t el ti z ht hi1 hi2 k k' (j:Int) (j:Int) (by omega) (Int.le_refl _) hbi (by omega)
 rw[Int.toNat_natCast,hi3]at hr
 refine st_set (v:=.slice (some ⟨w.heap.size,0,none⟩) j j) (w':=w.alloc (.cells (madeCells z.cells (j*sz)) el)) ha hw ?_ hf (λa' ha'=>h _ _ _ ha' (by
   have:=hs.alloc (.cells (madeCells z.cells (j*sz)) el)
   simpa [blk] using this) (Old.alloc _ _))
 simp[execOp,e.ev a n ha,e2.ev a n ha,hr]
end
end
section
class Dst (os:List Oper)(j:Nat)(s:outParam Nat):Prop where h:(os[j]?).bind (·.dst)=some s
instance Dst.zero {s op ty ps af g r}:Dst (⟨some s,op,ty,ps,af,g⟩::r) 0 s:=⟨rfl⟩
instance Dst.succ {o r j s}[h:Dst r j s]:Dst (o::r) (j+1) s:=⟨by rw[List.getElem?_cons_succ];exact h.h⟩
class OpAt (os:List Oper)(j:Nat)(o:outParam Oper):Prop where h:os[j]?=some o
instance OpAt.zero {o r}:OpAt (o::r) 0 o:=⟨rfl⟩
instance OpAt.succ {x r j o}[h:OpAt r j o]:OpAt (x::r) (j+1) o:=⟨by rw[List.getElem?_cons_succ];exact h.h⟩
class GB (v:Value)(b:Bool)(r:outParam Bool):Prop where h:((match v with | .bool c=>Option.some c | _=>none)==Option.some b)=r
instance GB.tt:GB (.bool true) true true:=⟨rfl⟩
instance GB.tf:GB (.bool true) false false:=⟨rfl⟩
instance GB.ft:GB (.bool false) true false:=⟨rfl⟩
instance GB.ff:GB (.bool false) false true:=⟨rfl⟩
instance GB.u {b}:GB undef b false:=⟨rfl⟩
class Gd (os:List Oper)(l:List (Nat×Value))(g:Option (Nat×Bool))(r:outParam Bool):Prop where
 h:∀ {a n},Fr a n l→∀ {dst op ty ps af},Region.wanted ⟨dst,op,ty,ps,af,g⟩ (yielded os.toArray a.tmps)=r
instance Gd.none {os l}:Gd os l none true:=⟨λ_=>rfl⟩
instance Gd.some {os l j b s v r}[d:Dst os j s][k:Get l s v][x:GB v b r]:Gd os l (some (j,b)) r:=⟨λ{a n} ha dst op ty ps af=>by
 have h1:=ha.has _ k.mem
 have h2:(os.toArray[j]?).bind (·.dst)=Option.some s:=by rw[List.getElem?_toArray];exact d.h
 rw[← x.h]
 simp only[Region.wanted,yielded,h2,Option.bind_some,h1]
 cases v <;> rfl⟩
class AndC (p q:Prop)(r:outParam Prop):Prop where h:r→p∧q
instance AndC.l {q}:AndC True q q:=⟨λh=>⟨trivial,h⟩⟩
instance AndC.r {p}:AndC p True p:=⟨λh=>⟨h,trivial⟩⟩
instance (priority:=low) AndC.b {p q}:AndC p q (p∧q):=⟨id⟩
class Nth (cs:List Value)(i:Nat)(v:outParam Value):Prop where h:cs[i]?=some v
instance Nth.zero {v cs}:Nth (v::cs) 0 v:=⟨rfl⟩
instance Nth.succ {c cs i v}[h:Nth cs i v]:Nth (c::cs) (i+1) v:=⟨by rw[List.getElem?_cons_succ];exact h.h⟩
instance Nth.apZ {v xs ys}:Nth ((v::xs)++ys) 0 v:=⟨rfl⟩
class IxOff (o j sz:Nat)(r:outParam Nat):Prop where h:o+j*sz=r
instance (priority:=10) IxOff.any {o j sz}:IxOff o j sz (o+j*sz):=⟨rfl⟩
instance (priority:=20) IxOff.one {o j}:IxOff o j 1 (o+j):=⟨by rw[Nat.mul_one]⟩
instance (priority:=25) IxOff.at0 {o sz}:IxOff o 0 sz (o+0):=⟨by rw[Nat.zero_mul]⟩
instance (priority:=30) IxOff.zero {j sz}:IxOff 0 j sz (j*sz):=⟨Nat.zero_add _⟩
instance (priority:=40) IxOff.both {j}:IxOff 0 j 1 j:=⟨by omega⟩
class Und (P:Program)(t:TypeId)(d:outParam TypeDesc):Prop where h:P.underlying t=some d
theorem Und.of {P:Program}{t:TypeId}{d:TypeDesc}(h:P.underlying t=some d):Und P t d:=⟨h⟩
class OneD (d:TypeDesc)(r:outParam Bool):Prop where h:isOne d=r
instance Ex.ext30 {P:Program} {l x v1 v2 v3} [Ev l x (.tuple #[v1,v2,v3])]:Ex P l (.extract x 0) v1:=⟨λ_ _ ha _ _ _ _ _ _=>ex_extract ha rfl⟩
instance Ex.ext31 {P:Program} {l x v1 v2 v3} [Ev l x (.tuple #[v1,v2,v3])]:Ex P l (.extract x 1) v2:=⟨λ_ _ ha _ _ _ _ _ _=>ex_extract ha rfl⟩
instance Ex.ext32 {P:Program} {l x v1 v2 v3} [Ev l x (.tuple #[v1,v2,v3])]:Ex P l (.extract x 2) v3:=⟨λ_ _ ha _ _ _ _ _ _=>ex_extract ha rfl⟩
instance:OneD .bool true:=⟨rfl⟩
instance:OneD .string true:=⟨rfl⟩
instance {k}:OneD (.int k) true:=⟨rfl⟩
instance {t}:OneD (.pointer t) true:=⟨rfl⟩
instance {t}:OneD (.slice t) true:=⟨rfl⟩
instance {t u}:OneD (.map t u) true:=⟨rfl⟩
instance {p r b}:OneD (.func p r b) true:=⟨rfl⟩
instance {m}:OneD (.interface m) true:=⟨rfl⟩
instance {f}:OneD (.struct f) false:=⟨rfl⟩
instance {m t}:OneD (.array m t) false:=⟨rfl⟩
class NotI (d:TypeDesc):Prop where h:(match d with | .interface _=>false | _=>true)=true
instance {t}:NotI (.pointer t):=⟨rfl⟩
instance {f}:NotI (.struct f):=⟨rfl⟩
class Suc (m:Nat)(k:outParam Nat):Prop where h:m=k+1
instance {k}:Suc (k+1) k:=⟨rfl⟩
class NthF (fs:List Field)(f:Nat)(t k:outParam Nat):Prop where h:∃ fl,fs[f]?=some fl∧fl.type=t∧fl.offset=k
instance NthF.zero {nm t k e tg pp bo r}:NthF (⟨nm,t,k,e,tg,pp,bo⟩::r) 0 t k:=⟨_,rfl,rfl,rfl⟩
instance NthF.succ {x r f t k}[h:NthF r f t k]:NthF (x::r) (f+1) t k:=⟨by rw[List.getElem?_cons_succ];exact h.h⟩
section
variable {P:Program}{t u el k sz by' f:Nat}{d:TypeDesc}{z:Value}{fs:List Field}
instance [h:Und P t (.pointer el)]:UPtr P t:=⟨_,h.h⟩
instance [h:Und P t (.slice el)]:USl P t:=⟨_,h.h⟩
instance [h:Und P t d][g:OneD d true]:UOne P t:=⟨_,h.h,g.h⟩
instance {m:Nat}[h:Und P t (.struct fs.toArray)][g:NthF fs f u k][hi:TI P u z m by'][q:Suc m sz]:UFld P t f k:=by
 obtain⟨fl,h1,h2,h3⟩:=g.h
 rw[q.h]at hi
 exact⟨_,fl,z,sz,by',h.h,by rw[List.getElem?_toArray];exact h1,by rw[h2];exact hi,h3⟩
end
def Lk (L:List SP)(w:World):Prop:=∃ W w0,St W w0 L∧Old w0 w
theorem Lk.of {W w:World}{L:List SP}(hs:St W w L):Lk L w:=⟨W,w,hs,Old.refl _⟩
theorem Lk.nil (w:World):Lk [] w:=⟨w,w,St.start _,Old.refl _⟩
theorem Lk.rd1 {w:World}{L R:List SP}{b e off:Nat}{cs:List Value}{v:Value}(h:Lk L w)[k:Blk L b e cs R](hv:cs[off]?=some v):w.cell? ⟨b,off,none⟩=some v:=by
 obtain⟨W,w0,hs,ho⟩:=h;exact ho.cell (hs.rd1 hv)
theorem Lk.rdN {w:World}{L R:List SP}{b e off:Nat}{cs:List Value}(h:Lk L w)[k:Blk L b e cs R](m:Nat){vs:List Value}[sc:SubC cs off m vs]:Rd w b off vs:=by
 obtain⟨W,w0,hs,ho⟩:=h;exact ho.rd (hs.rdN m)
instance SubC.whole {cs m}[h:LenEq cs m]:SubC cs 0 m cs:=⟨by rw[List.drop_zero,← h.h,List.take_length]⟩
class NilA (ad:Option Addr)(r:outParam Bool):Prop where h:ad.isNone=r
instance NilA.n:NilA none true:=⟨rfl⟩
instance NilA.s {a}:NilA (some a) false:=⟨rfl⟩
instance (priority:=low) NilA.any {ad}:NilA ad ad.isNone:=⟨rfl⟩
theorem ret3 {P:Program}{a:Act}{w:World}{n:Nat}{l:List (Nat×Value)}{fn:Func} {t u x v v2 v3}{X:Ending→World→Prop}(ha:Fr a n l)(hr:fn.results=#[.tmp t,.tmp u,.tmp x])[k:Get l t v][k2:Get l u v2][k3:Get l x v3](h:X (.returned (.tuple #[v,v2,v3])) w):bodyPost P fn X .ret a w:=by
 refine bodyPost_ret ?_ ha.defers h
 have h1:=ha.has _ k.mem
 have h2:=ha.has _ k2.mem
 have h3:=ha.has _ k3.mem
 simp[results,hr,Array.getD_eq_getD_getElem?,h1,h2,h3]
theorem Fr.isT {a:Act}{n:Nat}{l l':List (Nat×Value)}(ha:Fr a n l)(s:Nat){b:Bool}[k:Get l s (.bool b)][e:Del l s l'](h:b=true:=by first | rfl | decide):Fr a n ((s,.bool true)::l') :=
 ha.bool (s:=s) (λ_ h=>h) (λe _=>by rw[h]at e;cases e)
theorem Fr.isF {a:Act}{n:Nat}{l l':List (Nat×Value)}(ha:Fr a n l)(s:Nat){b:Bool}[k:Get l s (.bool b)][e:Del l s l'](h:b=false:=by first | rfl | decide):Fr a n ((s,.bool false)::l') :=
 ha.bool (s:=s) (λe _=>by rw[h]at e;cases e) (λ_ h=>h)
class Sx (P:Program)(L:List SP)(l:List (Nat×Value))(op:Go.Op)(c:outParam Prop)(v:outParam Value):Prop where
 ex:c→∀ {a n w},Fr a n l→Lk L w→∀ {dst ty ps af g},(execOp a.eval ⟨dst,op,ty,ps,af,g⟩).run P w=.ok (.value v) w
section
variable {P:Program}{L R:List SP}{l:List (Nat×Value)}{x y z:Operand}{v u zv:Value}{k k':IntKind}{i j i':Int}{m m' m'' c:Nat}{t t' el sz by' b off r:Nat}{ad:Option Addr}{s:ByteArray}{p q:Bool}{vs ws zs:List Value}
instance (priority:=high) Sx.of {op}[h:Ex P l op v]:Sx P L l op True v:=⟨λ_ _ _ _ ha _ _ _ _ _ _=>h.ex _ _ ha _ _ _ _ _ _⟩
instance Sx.pickT [Ev l x (.bool true)] [Ev l y v]:Sx P L l (.pick x y z) True v:=⟨λ_ _ _ _ ha _ _ _ _ _ _=>ex_pickT ha⟩
instance Sx.pickF [Ev l x (.bool false)] [Ev l z v]:Sx P L l (.pick x y z) True v:=⟨λ_ _ _ _ ha _ _ _ _ _ _=>ex_pickF ha⟩
instance Sx.load {e cs} [Ev l x (.pointer (some ⟨b,off,none⟩))][u:UOne P t] [Blk L b e cs R][n:Nth cs off v]:Sx P L l (.load t x) True v :=
 ⟨λ_ _ _ _ ha hs _ _ _ _ _=>by obtain⟨dd,h1,h2⟩:=u.h;exact ex_load1 ha h1 h2 (hs.rd1 n.h)⟩
instance Sx.loadN {e cs d} [Ev l x (.pointer (some ⟨b,off,none⟩))][u:Und P t d][g:OneD d false][hi:TI P t zv m by'] [Blk L b e cs R] [SubC cs off m vs][k:LenEq vs m]:Sx P L l (.load t x) True (.agg vs.toArray) :=
 ⟨λ_ _ _ _ ha hs _ _ _ _ _=>ex_loadN ha u.h g.h (by rw[k.h];exact hi) (hs.rdN m)⟩
instance Sx.add [Ev l x (.int .i64 i)] [Ev l y (.int .i64 j)]:Sx P L l (.binOp .add t x y t') (-9223372036854775808≤i+j∧i+j≤9223372036854775807) (.int .i64 (i+j)) :=
 ⟨λh _ _ _ ha _ _ _ _ _ _=>ex_addI ha h.1 h.2⟩
instance Sx.sub [Ev l x (.int .i64 i)] [Ev l y (.int .i64 j)]:Sx P L l (.binOp .sub t x y t') (-9223372036854775808≤i-j∧i-j≤9223372036854775807) (.int .i64 (i-j)) :=
 ⟨λh _ _ _ ha _ _ _ _ _ _=>ex_subI ha h.1 h.2⟩
instance Sx.mul [Ev l x (.int .i64 i)] [Ev l y (.int .i64 j)]:Sx P L l (.binOp .mul t x y t') (-9223372036854775808≤i*j∧i*j≤9223372036854775807) (.int .i64 (i*j)) :=
 ⟨λh _ _ _ ha _ _ _ _ _ _=>ex_mulI ha h.1 h.2⟩
instance (priority:=low) Sx.addW [Ev l x (.int k i)] [Ev l y (.int k j)]:Sx P L l (.binOp .add t x y t') (True) (.int k (k.wrap (i+j))):=⟨λ_ _ _ _ ha _ _ _ _ _ _=>ex_add ha⟩
instance (priority:=low) Sx.subW [Ev l x (.int k i)] [Ev l y (.int k j)]:Sx P L l (.binOp .sub t x y t') (True) (.int k (k.wrap (i-j))):=⟨λ_ _ _ _ ha _ _ _ _ _ _=>ex_sub ha⟩
instance (priority:=low) Sx.mulW [Ev l x (.int k i)] [Ev l y (.int k j)]:Sx P L l (.binOp .mul t x y t') (True) (.int k (k.wrap (i*j))):=⟨λ_ _ _ _ ha _ _ _ _ _ _=>ex_mul ha⟩
instance Sx.rem [Ev l x (.int k i)] [Ev l y (.int k j)]:Sx P L l (.binOp .rem t x y t') (j≠0) (.int k (i.tmod j)):=⟨λg _ _ _ ha _ _ _ _ _ _=>ex_rem ha g⟩
instance Sx.or [Ev l x (.int k i)] [Ev l y (.int k j)]:Sx P L l (.binOp .or t x y t') (True) (.int k (k.wrap ((BitVec.ofInt k.bits i ||| BitVec.ofInt k.bits j).toNat))):=⟨λ_ _ _ _ ha _ _ _ _ _ _=>ex_or ha⟩
instance Sx.and [Ev l x (.int k i)] [Ev l y (.int k j)]:Sx P L l (.binOp .and t x y t') (True) (.int k (k.wrap ((BitVec.ofInt k.bits i &&& BitVec.ofInt k.bits j).toNat))):=⟨λ_ _ _ _ ha _ _ _ _ _ _=>ex_and ha⟩
instance (priority:=low) Sx.xor [Ev l x (.int k i)] [Ev l y (.int k j)]:Sx P L l (.binOp .xor t x y t') (True) (.int k (k.wrap ((BitVec.ofInt k.bits i ^^^ BitVec.ofInt k.bits j).toNat))):=⟨λ_ _ _ _ ha _ _ _ _ _ _=>ex_xor ha⟩
instance Sx.xor8 {i j:UInt8} [Ev l x (.int .u8 (i.toNat:Int))] [Ev l y (.int .u8 (j.toNat:Int))]:Sx P L l (.binOp .xor t x y t') True (.int .u8 ((i ^^^ j).toNat:Int)):=⟨λ_ _ _ _ ha _ _ _ _ _ _=>ex_xor8 ha⟩
instance Sx.min {ty'} [Ev l x (.int k i)] [Ev l y (.int k j)]:Sx P L l (.call ⟨.builtin .min,#[x,y],ty'⟩) (True) (.int k (min i j)):=⟨λ_ _ _ _ ha _ _ _ _ _ _=>ex_min ha⟩
instance Sx.max {ty'} [Ev l x (.int k i)] [Ev l y (.int k j)]:Sx P L l (.call ⟨.builtin .max,#[x,y],ty'⟩) (True) (.int k (max i j)):=⟨λ_ _ _ _ ha _ _ _ _ _ _=>ex_max ha⟩
instance Sx.shl [Ev l x (.int k i)] [Ev l y (.int k' j)] [NatOf j m]:Sx P L l (.binOp .shl t x y t') (m≤k.bits) (.int k (k.wrap (i*2 ^ m))):=⟨λg _ _ _ ha _ _ _ _ _ _=>ex_shl ha g⟩
instance Sx.shr [Ev l x (.int k i)] [Ev l y (.int k' j)] [NatOf j m]:Sx P L l (.binOp .shr t x y t') (m≤k.bits) (.int k (i.fdiv (2 ^ m))):=⟨λg _ _ _ ha _ _ _ _ _ _=>ex_shr ha g⟩
instance Sx.com [Ev l x (.int k i)]:Sx P L l (.unOp .xor t x) True (.int k (k.wrap ((BitVec.ofInt k.bits (if k.signed then -1 else k.max) ^^^ BitVec.ofInt k.bits i).toNat))):=⟨λ_ _ _ _ ha _ _ _ _ _ _=>ex_com ha⟩
instance Sx.neg [Ev l x (.int k i)]:Sx P L l (.unOp .neg t x) True (.int k (k.wrap (0-i))):=⟨λ_ _ _ _ ha _ _ _ _ _ _=>ex_neg ha⟩
instance Sx.eqnilS [h:Und P t (.slice el)] [Ev l x (.slice ad m c)][q:NilA ad p]:Sx P L l (.binOp .eql t x (.const (.slice none 0 0)) t') True (.bool p):=⟨λ_ _ _ _ ha _ _ _ _ _ _=>by rw[← q.h];exact ex_eqnilS ha h.h⟩
instance Sx.lenS [h:Und P t .string] [Ev l x (.string s)]:Sx P L l (.call ⟨.builtin .len,#[x],#[t]⟩) (True) (.int .i64 s.size):=⟨λ_ _ _ _ ha _ _ _ _ _ _=>ex_lenS ha h.h⟩
instance Sx.eqlB [h:Und P t .bool] [Ev l x (.bool p)] [Ev l y (.bool q)]:Sx P L l (.binOp .eql t x y t') (True) (.bool (p==q)):=⟨λ_ _ _ _ ha _ _ _ _ _ _=>ex_eqlB ha h.h⟩
instance Sx.neqB [h:Und P t .bool] [Ev l x (.bool p)] [Ev l y (.bool q)]:Sx P L l (.binOp .neq t x y t') (True) (.bool (p != q)):=⟨λ_ _ _ _ ha _ _ _ _ _ _=>ex_neqB ha h.h⟩
instance Sx.makeF {fn xs ys} [EvL l xs vs] [EvL l ys ws]:Sx P L l (.makeFunc fn xs.toArray ys.toArray) (True) (.func fn vs.toArray ws.toArray):=⟨λ_ _ _ _ ha _ _ _ _ _ _=>ex_makeFunc ha⟩
instance Sx.makeI {d}[h:Und P t d][g:NotI d] [Ev l x v]:Sx P L l (.makeInterface t x) (True) (.iface t v):=⟨λ_ _ _ _ ha _ _ _ _ _ _=>ex_makeI ha h.h (by have:=g.h;cases d <;> first | rfl | (simp at this))⟩
instance Sx.eqnilI {ms}[h:Und P t (.interface ms)] [Ev l x (.iface m v)]:Sx P L l (.binOp .eql t x (.const .nilIface) t') (True) (.bool false):=⟨λ_ _ _ _ ha _ _ _ _ _ _=>ex_eqnilI ha h.h⟩
instance Sx.index [h:Und P t (.slice el)][hi:TI P el zv sz by'] [Ev l x (.slice (some ⟨b,off,none⟩) m c)] [Ev l y (.int k i)] [NatOf i m'][q:IxOff off m' sz r]:Sx P L l (.indexAddr t x y) (m'<m) (.pointer (some ⟨b,r,none⟩)):=⟨λg _ _ _ ha _ _ _ _ _ _=>by rw[← q.h];exact ex_indexAddr ha h.h hi g⟩
instance Sx.indexA [h:Und P t (.array m el)][hi:TI P el zv sz by'] [Ev l x (.pointer (some ⟨b,off,none⟩))] [Ev l y (.int k i)] [NatOf i m'][q:IxOff off m' sz r]:Sx P L l (.indexAddr t x y) (m'<m) (.pointer (some ⟨b,r,none⟩)):=⟨λg _ _ _ ha _ _ _ _ _ _=>by rw[← q.h];exact ex_indexAddrA ha h.h hi g⟩
instance Sx.sliceL [h:Und P t (.slice el)][hi:TI P el zv sz by'] [Ev l x (.slice ad m c)] [Ev l y (.int k i)] [NatOf i m']:Sx P L l (.slice t x (some y) none none) (m'≤m) (.slice (cutAd ad m' c sz) (m-m') (c-m')):=⟨λg _ _ _ ha _ _ _ _ _ _=>ex_sliceL ha h.h hi g⟩
instance Sx.sliceH [h:Und P t (.slice el)][hi:TI P el zv sz by'] [Ev l x (.slice ad m c)] [Ev l y (.int k i)] [NatOf i m']:Sx P L l (.slice t x none (some y) none) (m'≤c) (.slice (cutAd ad 0 c sz) (m'-0) (c-0)):=⟨λg _ _ _ ha _ _ _ _ _ _=>ex_sliceH ha h.h hi g⟩
instance Sx.sliceLH [h:Und P t (.slice el)][hi:TI P el zv sz by'] [Ev l x (.slice ad m c)] [Ev l y (.int k i)] [NatOf i m'] [Ev l z (.int k' i')] [NatOf i' m'']:Sx P L l (.slice t x (some y) (some z) none) (m'≤m''∧m''≤c) (.slice (cutAd ad m' c sz) (m''-m') (c-m')):=⟨λg _ _ _ ha _ _ _ _ _ _=>ex_sliceLH ha h.h hi g.1 g.2⟩
instance Sx.slicePA [h:Und P t (.array m el)][hi:TI P el zv sz by'] [Ev l x (.pointer (some ⟨b,off,none⟩))]:Sx P L l (.slice t x none none none) (True) (.slice (some ⟨b,off,none⟩) m m):=⟨λ_ _ _ _ ha _ _ _ _ _ _=>ex_slicePA ha h.h hi⟩
instance Sx.conv [h:Und P t (.int k)][q:Und P t' (.int k')] [Ev l x (.int k i)]:Sx P L l (.convert t t' x) (k'.wrap i=i) (.int k' i):=⟨λg _ _ _ ha _ _ _ _ _ _=>ex_convIIs ha h.h q.h g⟩
instance Sx.build {places parts}[hb:BuildT P t places][hi:TI P t zv sz by'] [Cells zv zs] [FillQ places zs l parts vs]:Sx P L l (.build t (List.toArray parts)) ((places.all λp=>Nat.ble (p.1+p.2) zs.length)=true) (.agg vs.toArray):=⟨λg _ _ _ ha _ _ _ _ _ _=>ex_build ha hb hi g⟩
end
def Hd (C:World→Prop)(L:List SP):Prop:=∀ w',C w'→Lk L w'
theorem Hd.any (C:World→Prop):Hd C []:=λw' _=>Lk.nil w'
theorem Hd.old {W w:World}{L:List SP}(hs:St W w L):Hd (Old w) L:=λ_ h=>⟨W,w,hs,h⟩
def CN (b:Bool)(C:World→Prop)(K:Act→World→Prop):Act→World→Prop:=λa w=>(b=true→C w)∧K a w
def RetQ (X:Ending→World→Prop)(v:Value):Act→World→Prop:=λ_ w=>X (.returned v) w
def bodyQ (P:Program)(rs:List ResultVar)(X:Ending→World→Prop):Exit→Act→World→Prop:=λe a w=>∀ fn:Func,fn.results=rs.toArray→bodyPost P fn X e a w
class PkQ (Q:Exit→Act→World→Prop):Prop where h:PanOk Q
instance {K Q}[h:PkQ Q]:PkQ (Exit.then K Q):=⟨pk_then h.h⟩
instance {i Q}[h:PkQ Q]:PkQ (Exit.inBlock i Q):=⟨pk_blk h.h⟩
instance {P rs X}:PkQ (bodyQ P rs X):=⟨λc a o v w h fn hr=>pk_body c a o v w (h fn hr)⟩
class Mixed (P:Program):Prop where h:P.follows .mixedOrders=true
class Rn (k n:Nat)(C:World→Prop)(L0 L:List SP)(l:List (Nat×Value))(X:Act→World→Prop)(b:outParam Bool)(c:outParam Prop)(l':outParam (List (Nat×Value)))(Y:outParam (Act→World→Prop)):Prop where
 rn:b=true→c→∀ {a W w},Fr a n l→St W w L→Hd C L0∧C w→(∀ a,Fr a n l'→Y a w)→X a w
class Way (v:Value)(x y:Code)(z:outParam Code):Prop where h:∃ b,v=.bool b∧z=if b then x else y
instance {x y}:Way (.bool true) x y x:=⟨true,rfl,rfl⟩
instance {x y}:Way (.bool false) x y y:=⟨false,rfl,rfl⟩
def readyB (os:List Oper)(m i:Nat):Bool:=match Region.ready .any os.toArray (lb os.toArray.size m) with | [j]=>Nat.beq j i | _=>false
theorem readyB_of {os:List Oper}{m i:Nat}(h:readyB os m i=true):Region.ready .any os.toArray (lb os.toArray.size m)=[i]:=by
 unfold readyB at h
 split at h
 · rename_i j e;rw[e,Nat.eq_of_beq_eq_true h]
 · cases h
def doneB (os:List Oper)(m:Nat):Bool:=(Region.ready .any os.toArray (lb os.toArray.size m)).isEmpty
section
variable {P:Program}{k n d i j m fuel:Nat}{C C2:World→Prop}{L0 L:List SP}{l l1 l':List (Nat×Value)}{X Y K:Act→World→Prop}{b b2:Bool}{c c1 c2:Prop}{os rest:List Oper}{Q:Exit→Act→World→Prop}{op:Go.Op}{v:Value}{ty:TypeId}{ps:String}{af:Array Edge}{g:Option (Nat×Bool)}{x y z:Code}{o:Operand}{need od:List Nat}
instance (priority:=1) Rn.stop:Rn 0 n C L0 L l X true True l X:=⟨λ_ _ _ _ _ ha _ _ h=>h _ ha⟩
instance Rn.oper [e:Gd os l g true][s:Sx P L l op c1 v][q:Del l d l1][r:Rn k n C L0 L ((d,v)::l1) K b2 c2 l' Y][p:AndC c1 c2 c] :
   Rn (k+1) n C L0 L l (StepK P os.toArray Q ⟨some d,op,ty,ps,af,g⟩ K) (okB d n l1&&b2) c l' Y:=⟨λhb hc a W w ha hs hx h=>by
 rw[Bool.and_eq_true]at hb
 obtain⟨h1,h2⟩:=p.h hc
 exact st_set (ha.del d) (e.h ha) (s.ex h1 ha (Lk.of hs)) hb.1 λa ha=>r.rn hb.2 h2 ha hs hx h⟩
instance Rn.off {jb}[e:Gd os l (some jb) false][q:Del l d l1][r:Rn k n C L0 L ((d,undef)::l1) K b2 c l' Y] :
   Rn (k+1) n C L0 L l (StepK P os.toArray Q ⟨some d,op,ty,ps,af,some jb⟩ K) (okB d n l1&&b2) c l' Y:=⟨λhb hc a W w ha hs hx h=>by
 rw[Bool.and_eq_true]at hb
 exact st_offU (ha.del d) (e.h ha) hb.1 λa ha=>r.rn hb.2 hc ha hs hx h⟩
instance Rn.cons {ops}{o:Oper}[r:Rn k n C L0 L l (StepK P ops Q o (wpList P ops Q rest)) b c l' Y]:Rn k n C L0 L l (wpList P ops Q (o::rest)) b c l' Y:=⟨λhb hc _ _ _ ha hs hx h=>(r.rn hb hc ha hs hx h)⟩
instance Rn.nil {ops}[r:Rn k n C L0 L l (Q .normal) b c l' Y]:Rn k n C L0 L l (wpList P ops Q []) b c l' Y:=⟨λhb hc _ _ _ ha hs hx h=>LN (r.rn hb hc ha hs hx h)⟩
instance Rn.seq [r:Rn k n C L0 L l (x.wp P (Exit.then (y.wp P Q) Q)) b c l' Y]:Rn (k+1) n C L0 L l ((Code.seq x y).wp P Q) b c l' Y:=⟨λhb hc _ _ _ ha hs hx h=>wp_seq (r.rn hb hc ha hs hx h)⟩
instance Rn.region {id}[r:Rn k n C L0 L l (wpList P os.toArray Q os) b c l' Y]:Rn k n C L0 L l ((Code.region id os.toArray false).wp P Q) b c l' Y:=⟨λhb hc _ _ _ ha hs hx h=>wp_region_lit (r.rn hb hc ha hs hx h)⟩
instance Rn.skip [r:Rn k n C L0 L l (Q .normal) b c l' Y]:Rn k n C L0 L l (Code.skip.wp P Q) b c l' Y:=⟨λhb hc _ _ _ ha hs hx h=>wp_skip (r.rn hb hc ha hs hx h)⟩
instance Rn.block [r:Rn k n C L0 L l (x.wp P (Exit.inBlock i Q)) b c l' Y]:Rn k n C L0 L l ((Code.block i x).wp P Q) b c l' Y:=⟨λhb hc _ _ _ ha hs hx h=>wp_block (r.rn hb hc ha hs hx h)⟩
instance Rn.exit [r:Rn k n C L0 L l (Q (.exit i)) b c l' Y]:Rn k n C L0 L l ((Code.exit i).wp P Q) b c l' Y:=⟨λhb hc _ _ _ ha hs hx h=>wp_exit (r.rn hb hc ha hs hx h)⟩
instance Rn.ret [r:Rn k n C L0 L l (Q .ret) b c l' Y]:Rn k n C L0 L l (Code.ret.wp P Q) b c l' Y:=⟨λhb hc _ _ _ ha hs hx h=>wp_ret (r.rn hb hc ha hs hx h)⟩
instance Rn.cond [e:Ev l o v][q:Way v x y z][r:Rn k n C L0 L l (z.wp P Q) b c l' Y]:Rn (k+1) n C L0 L l ((Code.cond o x y).wp P Q) b c l' Y:=⟨λhb hc _ _ _ ha hs hx h=>by
 obtain⟨t,rfl,rfl⟩:=q.h
 exact wp_cond (e.ev _ _ ha) (r.rn hb hc ha hs hx h)⟩
instance Rn.thenN [r:Rn k n C L0 L l (K) b c l' Y]:Rn k n C L0 L l (Exit.then K Q .normal) b c l' Y:=⟨λhb hc _ _ _ ha hs hx h=>TN (r.rn hb hc ha hs hx h)⟩
instance Rn.thenR [r:Rn k n C L0 L l (Q .ret) b c l' Y]:Rn k n C L0 L l (Exit.then K Q .ret) b c l' Y:=⟨λhb hc _ _ _ ha hs hx h=>TR (r.rn hb hc ha hs hx h)⟩
instance Rn.thenE [r:Rn k n C L0 L l (Q (.exit i)) b c l' Y]:Rn k n C L0 L l (Exit.then K Q (.exit i)) b c l' Y:=⟨λhb hc _ _ _ ha hs hx h=>TE (r.rn hb hc ha hs hx h)⟩
instance Rn.blkN [r:Rn k n C L0 L l (Q .normal) b c l' Y]:Rn k n C L0 L l (Exit.inBlock i Q .normal) b c l' Y:=⟨λhb hc _ _ _ ha hs hx h=>BN (r.rn hb hc ha hs hx h)⟩
instance Rn.blkR [r:Rn k n C L0 L l (Q .ret) b c l' Y]:Rn k n C L0 L l (Exit.inBlock i Q .ret) b c l' Y:=⟨λhb hc _ _ _ ha hs hx h=>BR (r.rn hb hc ha hs hx h)⟩
instance (priority:=high) Rn.blkE [r:Rn k n C L0 L l (Q .normal) b c l' Y]:Rn k n C L0 L l (Exit.inBlock i Q (.exit i)) b c l' Y:=⟨λhb hc _ _ _ ha hs hx h=>blk_e (r.rn hb hc ha hs hx h)⟩
instance Rn.blkF [r:Rn k n C L0 L l (Q (.exit j)) b c l' Y]:Rn k n C L0 L l (Exit.inBlock i Q (.exit j)) (!Nat.beq j i&&b) c l' Y:=⟨λhb hc _ _ _ ha hs hx h=>by
 rw[Bool.and_eq_true,Bool.not_eq_true']at hb
 exact blk_ne hb.1 (r.rn hb.2 hc ha hs hx h)⟩
variable {t u r3:Nat}{v2 v3 zv:Value}{vs cs:List Value}{R:Ending→World→Prop}{bb off e sz by':Nat}{RR:List SP}{dd:TypeDesc}
instance Rn.end0:Rn 0 n C L0 L l (bodyQ P [] R .normal) true True l (RetQ R (.tuple #[])):=⟨λ_ _ _ _ _ ha _ _ h _ hr=>Go.Proofs.YtdilfdkendjjhaaGreat.end0 ha hr (h _ ha)⟩
instance Rn.ret0:Rn 0 n C L0 L l (bodyQ P [] R .ret) true True l (RetQ R (.tuple #[])):=⟨λ_ _ _ _ _ ha _ _ h _ hr=>Go.Proofs.YtdilfdkendjjhaaGreat.ret0 ha hr (h _ ha)⟩
instance Rn.ret1 [Get l t v]:Rn 0 n C L0 L l (bodyQ P [.tmp t] R .ret) true True l (RetQ R v):=⟨λ_ _ _ _ _ ha _ _ h _ hr=>Go.Proofs.YtdilfdkendjjhaaGreat.ret1 ha hr (h _ ha)⟩
instance Rn.ret2 [Get l t v] [Get l u v2]:Rn 0 n C L0 L l (bodyQ P [.tmp t,.tmp u] R .ret) true True l (RetQ R (.tuple #[v,v2])):=⟨λ_ _ _ _ _ ha _ _ h _ hr=>Go.Proofs.YtdilfdkendjjhaaGreat.ret2 ha hr (h _ ha)⟩
instance Rn.ret3 [Get l t v] [Get l u v2] [Get l r3 v3]:Rn 0 n C L0 L l (bodyQ P [.tmp t,.tmp u,.tmp r3] R .ret) true True l (RetQ R (.tuple #[v,v2,v3])):=⟨λ_ _ _ _ _ ha _ _ h _ hr=>Go.Proofs.YtdilfdkendjjhaaGreat.ret3 ha hr (h _ ha)⟩
instance Rn.retCN [Get l t (.pointer (some ⟨bb,off,none⟩))][q:Und P u dd][p2:OneD dd false][hi:TI P u zv sz by'] [Blk L bb e cs RR] [SubC cs off sz vs][p:LenEq vs sz]:Rn 0 n C L0 L l (bodyQ P [.cell t u] R .ret) true True l (RetQ R (.agg vs.toArray)):=⟨λ_ _ _ _ _ ha hs _ h _ hr =>
 Go.Proofs.YtdilfdkendjjhaaGreat.retC1 ha hr (run_loadN q.h p2.h (by rw[p.h];exact hi) (hs.rdN sz)) (h _ ha)⟩
instance Rn.retC2N [Get l t (.pointer (some ⟨bb,off,none⟩))][q:Und P u dd][p2:OneD dd false][hi:TI P u zv sz by'] [Blk L bb e cs RR] [SubC cs off sz vs][p:LenEq vs sz] [Get l r3 v2]:Rn 0 n C L0 L l (bodyQ P [.cell t u,.tmp r3] R .ret) true True l (RetQ R (.tuple #[.agg vs.toArray,v2])):=⟨λ_ _ _ _ _ ha hs _ h _ hr =>
 Go.Proofs.YtdilfdkendjjhaaGreat.retC2 ha hr (run_loadN q.h p2.h (by rw[p.h];exact hi) (hs.rdN sz)) (h _ ha)⟩
instance Rn.cn [r:Rn k n C L0 L l K b c l' Y]:Rn k n C L0 L l (CN b2 C K) b c l' Y:=⟨λhb hc _ _ _ ha hs hx h=>⟨λ_=>hx.2,r.rn hb hc ha hs hx h⟩⟩
instance (priority:=low) Rn.cnF [r:Rn k n C L0 L l K b c l' Y]:Rn k n C L0 L l (CN b2 C2 K) (!b2&&b) c l' Y:=⟨λhb hc _ _ _ ha hs hx h=>by
 rw[Bool.and_eq_true,Bool.not_eq_true']at hb
 exact⟨λe=>(by rw[hb.1]at e;cases e),r.rn hb.2 hc ha hs hx h⟩⟩
instance Rn.one {o}[p:OpAt os i o][r:Rn k n C L0 L l (StepK P os.toArray Q o (CN (need.contains i) C2 (wpO P os.toArray Q C2 need od fuel (bitOn m i)))) b c l' Y] :
   Rn k n C L0 L l (wpO P os.toArray Q C2 need ((i+1000)::od) (fuel+1) m) (readyB os m i&&b) c l' Y:=⟨λhb hc a W w ha hs hx h=>by
 rw[Bool.and_eq_true]at hb
 show wpO P os.toArray Q C2 need (i::od) (fuel+1) m a w
 exact D1 (by rw[List.getElem?_toArray];exact p.h) (r.rn hb.2 hc ha hs hx h) (readyB_of hb.1)⟩
instance (priority:=low) Rn.pure [p:OpAt os i ⟨some d,op,ty,ps,af,g⟩][pk:PkQ Q][e:Gd os l g true][s:Sx P [] l op c1 v][q:Del l d l1][r:Rn k n C L0 L ((d,v)::l1) (wpO P os.toArray Q C2 need od fuel (bitOn m i)) b2 c2 l' Y][qq:AndC c1 c2 c] :
   Rn (k+1) n C L0 L l (wpO P os.toArray Q C2 need (i::od) (fuel+1) m) (takeB os.toArray (lb os.toArray.size m) need true i&&!need.contains i&&okB d n l1&&b2) c l' Y:=⟨λhb hc a W w ha hs hx h=>by
 simp only[Bool.and_eq_true,Bool.not_eq_true']at hb
 obtain⟨h1,h2⟩:=qq.h hc
 exact nt_pure (lb_on _ _ _) (by rw[List.getElem?_toArray];exact p.h) hb.1.1.1 hb.1.1.2 pk.h (ha.del d) (e.h ha) (λw=>s.ex h1 ha (Lk.nil w)) hb.1.2 λa ha=>r.rn hb.2 h2 ha hs hx h⟩
instance (priority:=low) Rn.pureOff {jb}[p:OpAt os i ⟨some d,op,ty,ps,af,some jb⟩][pk:PkQ Q][e:Gd os l (some jb) false][q:Del l d l1][r:Rn k n C L0 L ((d,undef)::l1) (wpO P os.toArray Q C2 need od fuel (bitOn m i)) b2 c l' Y] :
   Rn (k+1) n C L0 L l (wpO P os.toArray Q C2 need (i::od) (fuel+1) m) (takeB os.toArray (lb os.toArray.size m) need true i&&!need.contains i&&okB d n l1&&b2) c l' Y:=⟨λhb hc a W w ha hs hx h=>by
 simp only[Bool.and_eq_true,Bool.not_eq_true']at hb
 exact nt_offU (lb_on _ _ _) (by rw[List.getElem?_toArray];exact p.h) hb.1.1.1 hb.1.1.2 pk.h (ha.del d) (e.h ha) hb.1.2 λa ha=>r.rn hb.2 hc ha hs hx h⟩
instance (priority:=high) Rn.held [p:OpAt os i ⟨some d,op,ty,ps,af,g⟩][pk:PkQ Q][e:Gd os l g true][s:Sx P L0 l op c1 v][q:Del l d l1][r:Rn k n C L0 L ((d,v)::l1) (wpO P os.toArray Q C need od fuel (bitOn m i)) b2 c2 l' Y][qq:AndC c1 c2 c] :
   Rn (k+1) n C L0 L l (wpO P os.toArray Q C need ((i+3000)::od) (fuel+1) m) (takeB os.toArray (lb os.toArray.size m) need false i&&okB d n l1&&b2) c l' Y:=⟨λhb hc a W w ha hs hx h=>by
 simp only[Bool.and_eq_true]at hb
 obtain⟨h1,h2⟩:=qq.h hc
 exact nt_held (lb_on _ _ _) (by rw[List.getElem?_toArray];exact p.h) hb.1.1 pk.h (ha.del d) (e.h ha) (λw hw=>s.ex h1 ha (hx.1 w hw)) hx.2 hb.1.2 λa ha=>r.rn hb.2 h2 ha hs hx h⟩
instance (priority:=high) Rn.heldOff {jb}[p:OpAt os i ⟨some d,op,ty,ps,af,some jb⟩][pk:PkQ Q][e:Gd os l (some jb) false][q:Del l d l1][r:Rn k n C L0 L ((d,undef)::l1) (wpO P os.toArray Q C need od fuel (bitOn m i)) b2 c l' Y] :
   Rn (k+1) n C L0 L l (wpO P os.toArray Q C need ((i+3000)::od) (fuel+1) m) (takeB os.toArray (lb os.toArray.size m) need false i&&okB d n l1&&b2) c l' Y:=⟨λhb hc a W w ha hs hx h=>by
 simp only[Bool.and_eq_true]at hb
 exact nt_offUH (lb_on _ _ _) (by rw[List.getElem?_toArray];exact p.h) hb.1.1 pk.h (ha.del d) (e.h ha) hx.2 hb.1.2 λa ha=>r.rn hb.2 hc ha hs hx h⟩
instance Rn.done [r:Rn k n C L0 L l (Q .normal) b c l' Y]:Rn k n C L0 L l (wpO P os.toArray Q C2 need [] fuel m) (doneB os m&&b) c l' Y:=⟨λhb hc _ _ _ ha hs hx h=>by
 rw[Bool.and_eq_true]at hb
 exact DD (r.rn hb.2 hc ha hs hx h) (List.isEmpty_iff.1 hb.1)⟩
class Zp (vs:List Value)(ks:List Nat)(l:outParam (List (Nat×Value))):Prop where h:ks.zip vs=l
instance Zp.nil {ks}:Zp [] ks []:=⟨by simp⟩
instance Zp.cons {v vs k ks l}[h:Zp vs ks l]:Zp (v::vs) (k::ks) ((k,v)::l):=⟨by rw[List.zip_cons_cons,h.h]⟩
class App (xs ys:List Value)(zs:outParam (List Value)):Prop where h:xs++ys=zs
instance App.nil {ys}:App [] ys ys:=⟨rfl⟩
instance App.cons {x xs ys zs}[h:App xs ys zs]:App (x::xs) ys (x::zs):=⟨by rw[List.cons_append,h.h]⟩
instance Zp.app {xs ys zs ks l}[q:App xs ys zs][h:Zp zs ks l]:Zp (xs++ys) ks l:=⟨by rw[q.h];exact h.h⟩
class PutD (n:Nat)(l:List (Nat×Value))(d:Option Tmp)(b:outParam Bool)(F:outParam (Value→List (Nat×Value))):Prop where h:b=true→∀ {a v},Fr a n l→Fr (a.put d v) n (F v)
instance PutD.some {n l d l1}[q:Del l d l1]:PutD n l (some d) (okB d n l1) (λv=>(d,v)::l1):=⟨λh _ v ha=>(ha.del d).put h v⟩
class Cee (P:Program)(l:List (Nat×Value))(ce:Callee)(args:List Operand)(f:outParam Nat)(vs:outParam (List Value)):Prop where
 h:callable P f=true→∀ {a n w},Fr a n l→∀ {dst tys ty ps af g},(execOp a.eval ⟨dst,.call ⟨ce,args.toArray,tys⟩,ty,ps,af,g⟩).run P w=.ok (.enter f vs.toArray) w
instance Cee.fn {P l f args vs}[ev:EvL l args vs]:Cee P l (.value (.func f)) args f vs:=⟨λhb a n w ha _ _ _ _ _ _=>by
 have h2:a.eval (.func f)=.func (.func f) #[] #[]:=rfl
 simp[execOp,resolve,h2,Deferred.ofValue,invoke,ev.ev a n ha,run_callFunc hb]⟩
instance Cee.fv {P l x f us args vs zs}[ex:Ev l (.tmp x) (.func (.func f) #[] (List.toArray us))][ev:EvL l args vs][q:App vs us zs]:Cee P l (.value (.tmp x)) args f zs:=⟨λhb a n w ha _ _ _ _ _ _=>by
 rw[← q.h];simp[execOp,resolve,ex.ev a n ha,Deferred.ofValue,invoke,ev.ev a n ha,run_callFunc hb]⟩
class OneL (vs:List Value):Prop where h:∀ v∈vs,v.oneCell'=true
instance OneL.nil:OneL []:=⟨by simp⟩
instance OneL.ints {k m g}:OneL (ints k m g):=⟨ints_one⟩
class One (v:Value):Prop where h:v.oneCell'=true
instance {k i}:One (.int k i):=⟨rfl⟩
instance {b}:One (.bool b):=⟨rfl⟩
instance {s}:One (.string s):=⟨rfl⟩
instance {p}:One (.pointer p):=⟨rfl⟩
instance {p n c}:One (.slice p n c):=⟨rfl⟩
instance {t v}:One (.iface t v):=⟨rfl⟩
instance OneL.cons {v vs}[h:One v][k:OneL vs]:OneL (v::vs):=⟨λx hx=>by
 rcases List.mem_cons.1 hx with rfl | hx
 · exact h.h
 · exact k.h x hx⟩
variable {a:Act}{w W:World}{l2:List (Nat×Value)}{p q:Prop}{bp:Bool}{F:Value→List (Nat×Value)}{dst:Option Tmp}{ce:Callee}{args:List Operand}{f:Nat}{tys:Array TypeId}{xo yo:Operand}
abbrev Top:World→Prop:=λ_=>True
theorem topx {w:World}:Hd Top []∧Top w:=⟨Hd.any _,trivial⟩
theorem EN {fn:Func}{cd:Code}{rs:List ResultVar}{X:Ending→World→Prop}(hf:P.funcs[f]?=some fn)(hn:fn.ntmps=m)(hb:fn.body=some cd)(hr:fn.results=rs.toArray)[z:Zp vs [0,1,2,3,4,5,6,7,8,9,10,11] l](h:∀ a,Fr a m l→cd.wp P (bodyQ P rs X) a w)
   (hm:(Nat.ble vs.length m&&Nat.ble vs.length 12)=true:=by rfl):Calls P f vs.toArray w X:=by
 rw[Bool.and_eq_true]at hm
 refine calls_enter hf hb hn (Nat.le_of_ble_eq_true hm.1) λa ha=>wp_mono (h a ?_) λ_ _ _ hq=>hq fn hr
 have h12:=Nat.le_of_ble_eq_true hm.2
 rw[← z.h]
 have e:((List.range vs.length).zip vs)=[0,1,2,3,4,5,6,7,8,9,10,11].zip vs:=by
   have h3:[0,1,2,3,4,5,6,7,8,9,10,11]=List.range (vs.length+(12-vs.length)):=by rw[show vs.length+(12-vs.length)=12 from by omega];rfl
   rw[h3,List.range_add]
   have h4:=List.zip_append (l₁:=List.range vs.length) (l₂:=vs) (r₁:=(List.range (12-vs.length)).map (vs.length+·)) (r₂:=[]) (by simp)
   rw[List.append_nil]at h4
   rw[h4];simp
 rw[← e];exact ha
theorem RN (k:Nat)(ha:Fr a n l)(hs:St W w L)[r:Rn k n Top [] L l X b c l' Y](h:∀ a,Fr a n l'→Y a w)(hb:b=true:=by kernel_rfl)(hc:c:=by (repeat' refine And.intro ?_ ?_) <;> first | exact True.intro | omega | exact (rfl:_=_) | decide):X a w:=r.rn hb hc ha hs topx h
theorem RH (k:Nat)(ha:Fr a n l)(hs:St W w L)(hH:Hd C L0)(hC:C w)[r:Rn k n C L0 L l X b c l' Y](h:∀ a,Fr a n l'→Y a w)(hb:b=true:=by kernel_rfl)(hc:c:=by (repeat' refine And.intro ?_ ?_) <;> first | exact True.intro | omega | exact (rfl:_=_) | decide):X a w:=r.rn hb hc ha hs ⟨hH,hC⟩ h
theorem RT (k:Nat)(ha:Fr a n l)(hs:St W w L)[r:Rn k n Top [] L l X b c l' (RetQ R v)](h:R (.returned v) w)(hb:b=true:=by kernel_rfl)(hc:c:=by (repeat' refine And.intro ?_ ?_) <;> first | exact True.intro | omega | exact (rfl:_=_) | decide):X a w:=r.rn hb hc ha hs topx λ_ _=>h
theorem IF (k:Nat)(ha:Fr a n l)(hs:St W w L)[r:Rn k n Top [] L l X b c l1 ((Code.cond (.tmp t) x y).wp P Q)][g1:Get l1 t (.bool b2)][g2:Del l1 t l2][g3:BP b2 p q]
   (ht:p→∀ a,Fr a n ((t,.bool true)::l2)→x.wp P Q a w) (hf:q→∀ a,Fr a n ((t,.bool false)::l2)→y.wp P Q a w) (hb:b=true:=by kernel_rfl) (hc:c:=by (repeat' refine And.intro ?_ ?_) <;> first | exact True.intro | omega | exact (rfl:_=_) | decide):X a w :=
 r.rn hb hc ha hs topx λa ha=>ha.by (s:=t) (λh ha=>wp_ifT ha (ht h _ ha)) (λh ha=>wp_ifF ha (hf h _ ha))
theorem IFR (k:Nat)(ha:Fr a n l)(hs:St W w L)[r:Rn k n Top [] L l X b c l1 ((Code.cond (.tmp t) x y).wp P Q)][g1:Get l1 t (.bool b2)][g2:Del l1 t l2]
   (ht:b2=true→∀ a,Fr a n ((t,.bool true)::l2)→x.wp P Q a w) (hf:b2=false→∀ a,Fr a n ((t,.bool false)::l2)→y.wp P Q a w) (hb:b=true:=by kernel_rfl) (hc:c:=by (repeat' refine And.intro ?_ ?_) <;> first | exact True.intro | omega | exact (rfl:_=_) | decide):X a w :=
 r.rn hb hc ha hs topx λa ha=>ha.bool (s:=t) (λh ha=>wp_ifT ha (ht h _ ha)) (λh ha=>wp_ifF ha (hf h _ ha))
theorem BY (k:Nat)(ha:Fr a n l)(hs:St W w L)[r:Rn k n Top [] L l X b c l1 (StepK P os.toArray Q ⟨dst,op,ty,ps,af,some (j,bp)⟩ K)][d1:Dst os j t][g1:Get l1 t (.bool b2)][g2:Del l1 t l2][g3:BP b2 p q]
   (ht:p→∀ a,Fr a n ((t,.bool true)::l2)→StepK P os.toArray Q ⟨dst,op,ty,ps,af,some (j,bp)⟩ K a w) (hf:q→∀ a,Fr a n ((t,.bool false)::l2)→StepK P os.toArray Q ⟨dst,op,ty,ps,af,some (j,bp)⟩ K a w)
   (hb:b=true:=by kernel_rfl) (hc:c:=by (repeat' refine And.intro ?_ ?_) <;> first | exact True.intro | omega | exact (rfl:_=_) | decide):X a w :=
 r.rn hb hc ha hs topx λa ha=>ha.by (s:=t) (λh ha=>ht h _ ha) (λh ha=>hf h _ ha)
theorem st_calls (ha:Fr a n l)[e:Gd os l g true][ev:Cee P l ce args f vs][pd:PutD n l dst bp F]{X:Ending→World→Prop}(hc:Calls P f vs.toArray w X)(hbp:bp=true)(hf:callable P f=true)
   (h:∀ e w',X e w'→∃ v,e=.returned v∧∀ a',Fr a' n (F v)→K a' w'):StepK P os.toArray Q ⟨dst,.call ⟨ce,args.toArray,tys⟩,ty,ps,af,g⟩ K a w :=
 st_enter (e.h ha) (ev.h hf ha) hc λe w' hx=>let ⟨v,he,hv⟩:=h e w' hx;⟨v,he,hv _ (pd.h hbp ha)⟩
section
variable {α β γ:Type}{S0:World→Prop}{S1:α→World→Prop}{S2:α→β→World→Prop}{S3:α→β→γ→World→Prop}{v1:α→Value}{w2:α→β→Value}{w3:α→β→γ→Value}
theorem CL (k:Nat)(ha:Fr a n l)(hs:St W w L)[r:Rn k n Top [] L l X b c l1 (StepK P os.toArray Q ⟨dst,.call ⟨ce,args.toArray,tys⟩,ty,ps,af,g⟩ K)][e:Gd os l1 g true][ev:Cee P l1 ce args f vs][pd:PutD n l1 dst bp F]
   (hq:Calls P f vs.toArray w λr w'=>r=.returned v∧S0 w') (h:∀ a w,Fr a n (F v)→S0 w→K a w) (hb:(b&&bp)=true:=by kernel_rfl) (hf:callable P f=true:=by kernel_rfl) (hc:c:=by (repeat' refine And.intro ?_ ?_) <;> first | exact True.intro | omega | exact (rfl:_=_) | decide):X a w:=by
 simp only[Bool.and_eq_true]at hb
 exact r.rn hb.1 hc ha hs topx λa ha=>st_calls ha hq hb.2 hf λe w' ⟨h1,h2⟩=>⟨_,h1,λa ha=>h a w' ha h2⟩
theorem CL1 (k:Nat)(ha:Fr a n l)(hs:St W w L)[r:Rn k n Top [] L l X b c l1 (StepK P os.toArray Q ⟨dst,.call ⟨ce,args.toArray,tys⟩,ty,ps,af,g⟩ K)][e:Gd os l1 g true][ev:Cee P l1 ce args f vs][pd:PutD n l1 dst bp F]
   (hq:Calls P f vs.toArray w λr w'=>∃ x,r=.returned (v1 x)∧S1 x w') (h:∀ x a w,Fr a n (F (v1 x))→S1 x w→K a w) (hb:(b&&bp)=true:=by kernel_rfl) (hf:callable P f=true:=by kernel_rfl) (hc:c:=by (repeat' refine And.intro ?_ ?_) <;> first | exact True.intro | omega | exact (rfl:_=_) | decide):X a w:=by
 simp only[Bool.and_eq_true]at hb
 exact r.rn hb.1 hc ha hs topx λa ha=>st_calls ha hq hb.2 hf λe w' ⟨x,h1,h2⟩=>⟨_,h1,λa ha=>h x a w' ha h2⟩
theorem CL2 (k:Nat)(ha:Fr a n l)(hs:St W w L)[r:Rn k n Top [] L l X b c l1 (StepK P os.toArray Q ⟨dst,.call ⟨ce,args.toArray,tys⟩,ty,ps,af,g⟩ K)][e:Gd os l1 g true][ev:Cee P l1 ce args f vs][pd:PutD n l1 dst bp F]
   (hq:Calls P f vs.toArray w λr w'=>∃ x y,r=.returned (w2 x y)∧S2 x y w') (h:∀ x y a w,Fr a n (F (w2 x y))→S2 x y w→K a w) (hb:(b&&bp)=true:=by kernel_rfl) (hf:callable P f=true:=by kernel_rfl) (hc:c:=by (repeat' refine And.intro ?_ ?_) <;> first | exact True.intro | omega | exact (rfl:_=_) | decide):X a w:=by
 simp only[Bool.and_eq_true]at hb
 exact r.rn hb.1 hc ha hs topx λa ha=>st_calls ha hq hb.2 hf λe w' ⟨x,y,h1,h2⟩=>⟨_,h1,λa ha=>h x y a w' ha h2⟩
theorem CL3 (k:Nat)(ha:Fr a n l)(hs:St W w L)[r:Rn k n Top [] L l X b c l1 (StepK P os.toArray Q ⟨dst,.call ⟨ce,args.toArray,tys⟩,ty,ps,af,g⟩ K)][e:Gd os l1 g true][ev:Cee P l1 ce args f vs][pd:PutD n l1 dst bp F]
   (hq:Calls P f vs.toArray w λr w'=>∃ x y z,r=.returned (w3 x y z)∧S3 x y z w') (h:∀ x y z a w,Fr a n (F (w3 x y z))→S3 x y z w→K a w) (hb:(b&&bp)=true:=by kernel_rfl) (hf:callable P f=true:=by kernel_rfl) (hc:c:=by (repeat' refine And.intro ?_ ?_) <;> first | exact True.intro | omega | exact (rfl:_=_) | decide):X a w:=by
 simp only[Bool.and_eq_true]at hb
 exact r.rn hb.1 hc ha hs topx λa ha=>st_calls ha hq hb.2 hf λe w' ⟨x,y,z,h1,h2⟩=>⟨_,h1,λa ha=>h x y z a w' ha h2⟩
end
theorem CLX (k:Nat)(ha:Fr a n l)(hs:St W w L)[r:Rn k n Top [] L l X b c l1 (StepK P os.toArray Q ⟨dst,.call ⟨ce,args.toArray,tys⟩,ty,ps,af,g⟩ K)][e:Gd os l1 g true][ev:Cee P l1 ce args f vs][pd:PutD n l1 dst bp F]{Z:Ending→World→Prop}
   (hq:Calls P f vs.toArray w Z) (h:∀ e w,Z e w→∃ v,e=.returned v∧∀ a,Fr a n (F v)→K a w) (hb:(b&&bp)=true:=by kernel_rfl) (hf:callable P f=true:=by kernel_rfl) (hc:c:=by (repeat' refine And.intro ?_ ?_) <;> first | exact True.intro | omega | exact (rfl:_=_) | decide):X a w:=by
 simp only[Bool.and_eq_true]at hb
 exact r.rn hb.1 hc ha hs topx λa ha=>st_calls ha hq hb.2 hf h
variable {cs cs':List Value}{eT:TypeId}{S:List SP}
theorem ST (k:Nat)(ha:Fr a n l)(hs:St W w L)[r:Rn k n Top [] L l X b c l1 (StepK P os.toArray Q ⟨none,.store t xo yo,ty,ps,af,g⟩ K)][eg:Gd os l1 g true][ev:Ev l1 xo (.pointer (some ⟨bb,off,none⟩))][ew:Ev l1 yo v][hi:TI P t zv 1 by'][kc:Cells v [v]][o1:One v]
   [kb:Blk L bb eT cs S] [sc:SetC cs off v cs'] (h:∀ a w,Fr a n l1→St W w (blk bb eT cs'::S)→K a w) (hb:b=true:=by kernel_rfl) (hc:c:=by (repeat' refine And.intro ?_ ?_) <;> first | exact True.intro | omega | exact (rfl:_=_) | decide) (hlt:off<cs.length:=by first | exact Nat.lt_of_ble_eq_true rfl | omega | simp):X a w :=
 r.rn hb hc ha hs topx λa ha=>st_store ha (eg.h ha) hs hi o1.h hlt h
theorem SA (k:Nat)(ha:Fr a n l)(hs:St W w L)[r:Rn k n Top [] L l X b c l1 (StepK P os.toArray Q ⟨none,.store t xo yo,ty,ps,af,g⟩ K)][eg:Gd os l1 g true][ev:Ev l1 xo (.pointer (some ⟨bb,0,none⟩))][ew:Ev l1 yo v][hi:TI P t zv m by'][kc:Cells v vs][le:LenEq vs m][o1:OneL vs]
   [kb:Blk L bb eT cs S] [le2:LenEq cs m] (h:∀ a w,Fr a n l1→St W w (blk bb eT vs::S)→K a w) (hb:b=true:=by kernel_rfl) (hc:c:=by (repeat' refine And.intro ?_ ?_) <;> first | exact True.intro | omega | exact (rfl:_=_) | decide):X a w :=
 r.rn hb hc ha hs topx λa ha=>st_storeAll ha (eg.h ha) hs (by rw[le.h];exact hi) o1.h (by rw[le.h,le2.h]) h
theorem AL (k:Nat)(ha:Fr a n l)(hs:St W w L)[r:Rn k n Top [] L l X b c l1 (StepK P os.toArray Q ⟨some d,.alloc t,ty,ps,af,g⟩ K)][eg:Gd os l1 g true][hi:TI P t zv m by'][kc:Cells zv vs][q:Del l1 d l2]
   (h:∀ b a w',Fr a n ((d,.pointer (some ⟨b,0,none⟩))::l2)→St W w' (blk b t vs::L)→K a w') (hb:(b&&okB d n l2)=true:=by kernel_rfl) (hc:c:=by (repeat' refine And.intro ?_ ?_) <;> first | exact True.intro | omega | exact (rfl:_=_) | decide):X a w:=by
 rw[Bool.and_eq_true]at hb
 exact r.rn hb.1 hc ha hs topx λa ha=>st_alloc (ha.del d) (eg.h ha) hs hi hb.2 λb a w ha hs _=>h b a w ha hs
theorem BX (k:Nat)(ha:Fr a n l)(hs:St W w L)[r:Rn k n Top [] L l X b c l1 (StepK P os.toArray Q ⟨some d,.box t xo,ty,ps,af,g⟩ K)][eg:Gd os l1 g true][ev:Ev l1 xo v][kc:Cells v vs][q:Del l1 d l2]
   (h:∀ b a w',Fr a n ((d,.pointer (some ⟨b,0,none⟩))::l2)→St W w' (blk b t vs::L)→K a w') (hb:(b&&okB d n l2)=true:=by kernel_rfl) (hc:c:=by (repeat' refine And.intro ?_ ?_) <;> first | exact True.intro | omega | exact (rfl:_=_) | decide):X a w:=by
 rw[Bool.and_eq_true]at hb
 refine r.rn hb.1 hc ha hs topx λa ha=>?_
 have:=ev.ev a n ha
 refine st_set (v:=.pointer (some ⟨w.heap.size,0,none⟩)) (w':=w.alloc (.cells vs.toArray t)) (ha.del d) (eg.h ha) ?_ hb.2 (λa' ha'=>h _ _ _ ha' (hs.alloc _))
 simp[execOp,Instr.box,this,newVar,newRow,newObj,Sem.run,kc.h,Sem.run_bind]
theorem SX (k:Nat)(ha:Fr a n l)(hs:St W w L)[r:Rn k n Top [] L l X b c l1 (StepK P os.toArray Q ⟨some d,op,ty,ps,af,g⟩ K)][eg:Gd os l1 g true][s:Sx P L l1 op c1 v][q:Del l1 d l2](h1:c1)
   (h:∀ a,Fr a n ((d,v)::l2)→K a w) (hb:(b&&okB d n l2)=true:=by kernel_rfl) (hc:c:=by (repeat' refine And.intro ?_ ?_) <;> first | exact True.intro | omega | exact (rfl:_=_) | decide):X a w:=by
 rw[Bool.and_eq_true]at hb
 exact r.rn hb.1 hc ha hs topx λa ha=>st_set (ha.del d) (eg.h ha) (s.ex h1 ha (Lk.of hs)) hb.2 h
theorem QP [p:OpAt os i ⟨some d,op,ty,ps,af,g⟩][pk:PkQ Q][e:Gd os l g true][q:Del l d l1](ha:Fr a n l)(hr:∀ w,(execOp a.eval ⟨some d,op,ty,ps,af,g⟩).run P w=.ok (.value v) w)
   (h:∀ a,Fr a n ((d,v)::l1)→wpO P os.toArray Q C2 need od fuel (bitOn m i) a w) (hb:(takeB os.toArray (lb os.toArray.size m) need true i&&!need.contains i&&okB d n l1)=true:=by kernel_rfl):wpO P os.toArray Q C2 need (i::od) (fuel+1) m a w:=by
 simp only[Bool.and_eq_true,Bool.not_eq_true']at hb
 exact nt_pure (lb_on _ _ _) (by rw[List.getElem?_toArray];exact p.h) hb.1.1 hb.1.2 pk.h (ha.del d) (e.h ha) hr hb.2 h
theorem QH [p:OpAt os i ⟨some d,op,ty,ps,af,g⟩][pk:PkQ Q][e:Gd os l g true][q:Del l d l1](ha:Fr a n l)(hr:∀ w,C2 w→(execOp a.eval ⟨some d,op,ty,ps,af,g⟩).run P w=.ok (.value v) w)(hC:C2 w)
   (h:∀ a,Fr a n ((d,v)::l1)→wpO P os.toArray Q C2 need od fuel (bitOn m i) a w) (hb:(takeB os.toArray (lb os.toArray.size m) need false i&&okB d n l1)=true:=by kernel_rfl):wpO P os.toArray Q C2 need ((i+3000)::od) (fuel+1) m a w:=by
 simp only[Bool.and_eq_true]at hb
 exact nt_held (lb_on _ _ _) (by rw[List.getElem?_toArray];exact p.h) hb.1 pk.h (ha.del d) (e.h ha) hr hC hb.2 h
theorem DWC (k:Nat)(C:World→World→Prop)(need od:List Nat)(ha:Fr a n l)(hs:St W w L)[r:Rn k n Top [] L l X b c l1 ((Code.region i os.toArray true).wp P Q)][pk:PkQ Q][mx:Mixed P]
   (h:∀ a w,Fr a n l1→St W w L→Hd (C w) []→wpO P os.toArray Q (C w) need od os.length 0 a w) (hb:b=true:=by kernel_rfl) (hc:c:=by (repeat' refine And.intro ?_ ?_) <;> first | exact True.intro | omega | exact (rfl:_=_) | decide):X a w :=
 r.rn hb hc ha hs topx λa ha=>Go.Proofs.YtdilfdkendjjhaaGreat.DW (C w.drew) need od mx.h pk.h (λ_=>h a _ ha hs.drew (Hd.any _)) List.size_toArray
theorem DWG (k:Nat)(C:World→Prop)(need od:List Nat)(ha:Fr a n l)(hs:St W w L)[r:Rn k n Top [] L l X b c l1 ((Code.region i os.toArray true).wp P Q)][pk:PkQ Q][mx:Mixed P]
   (h:∀ a,Fr a n l1→wpO P os.toArray Q C need od os.length 0 a w.drew) (hb:b=true:=by kernel_rfl) (hc:c:=by (repeat' refine And.intro ?_ ?_) <;> first | exact True.intro | omega | exact (rfl:_=_) | decide):X a w :=
 r.rn hb hc ha hs topx λa ha=>Go.Proofs.YtdilfdkendjjhaaGreat.DW C need od mx.h pk.h (λ_=>h a ha) List.size_toArray
theorem DWO (k:Nat)(need od:List Nat)(ha:Fr a n l)(hs:St W w L)[r:Rn k n Top [] L l X b c l1 ((Code.region i os.toArray true).wp P Q)][pk:PkQ Q][mx:Mixed P]
   (h:∀ a w,Fr a n l1→St W w L→Hd (Old w) L→Old w w→wpO P os.toArray Q (Old w) need od os.length 0 a w) (hb:b=true:=by kernel_rfl) (hc:c:=by (repeat' refine And.intro ?_ ?_) <;> first | exact True.intro | omega | exact (rfl:_=_) | decide):X a w :=
 r.rn hb hc ha hs topx λa ha=>Go.Proofs.YtdilfdkendjjhaaGreat.DW (Old w.drew) need od mx.h pk.h (λ_=>h a _ ha hs.drew (Hd.old hs.drew) (Old.refl _)) List.size_toArray
end
section
variable {P:Program}{ops:Array Oper}{Q:Exit→Act→World→Prop}{C:World→Prop}{need:List Nat}{fuel m:Nat}{a:Act}{w:World}
def BrN (P:Program)(ops:Array Oper)(Q:Exit→Act→World→Prop)(C:World→Prop)(need:List Nat)(fuel m:Nat)(a:Act)(w:World):List (Nat×List Nat)→Prop
 | []=>True
 | (i,od)::r=>(∃ o,ops[i]?=some o∧StepK P ops Q o (CN (need.contains i) C (wpO P ops Q C need od fuel (bitOn m i))) a w)∧BrN P ops Q C need fuel m a w r
theorem BrN.get:∀ {l:List (Nat×List Nat)} {i:Nat},BrN P ops Q C need fuel m a w l→i∈l.map (·.1)→∃ (o:Oper) (od:List Nat),ops[i]?=some o∧StepK P ops Q o (CN (need.contains i) C (wpO P ops Q C need od fuel (bitOn m i))) a w
 | [],_,_,h=>by simp at h
 | (j,od)::r,i,⟨⟨o,h1,h2⟩,h3⟩,h=>by
   rw[List.map_cons]at h
   rcases List.mem_cons.1 h with rfl | h
   · exact⟨o,od,h1,h2⟩
   · exact BrN.get h3 h
theorem DN {od:List Nat}(l:List (Nat×List Nat))(hr:Region.ready .any ops (lb ops.size m)=l.map (·.1))(hne:l.isEmpty=false)(h:BrN P ops Q C need fuel m a w l):wpO P ops Q C need od (fuel+1) m a w:=by
 refine⟨λh0=>?_,λj hj=>?_⟩
 · rw[hr]at h0
   cases l with
   | nil=>cases hne
   | cons x r=>cases h0
 · rw[hr]at hj
   obtain⟨o,od,h1,h2⟩:=h.get hj
   simp only[wpOp,h1,lb_on]
   exact h2
end
end
section
abbrev pt (b:Nat):Value:=.pointer (some ⟨b,0,none⟩)
theorem Hd.at {C:World→Prop}{L:List SP}(_:Hd C L)(w:World)(h:C w):C w:=h
theorem ld1 {P:Program}{a:Act}{w:World}{n:Nat}{l:List (Nat × Value)}{x ad t v dst ty ps af g}(ha:Fr a n l)(hc:w.cell? ad=some v)[u:UOne P t][ev:Ev l x (.pointer (some ad))]:(execOp a.eval ⟨dst,.load t x,ty,ps,af,g⟩).run P w=.ok (.value v) w:=by
 obtain ⟨dd,h1,h2⟩:=u.h;exact ex_load1 ha h1 h2 hc
theorem SS {P:Program}{ops:Array Oper}{Q:Exit→Act→World→Prop}{a:Act}{w:World}{K:Act→World→Prop}{n d:Nat}{l:List (Nat × Value)}{v:Value}{op ty ps af g}(ha:Fr a n l)(hr:(execOp a.eval ⟨some d,op,ty,ps,af,g⟩).run P w=.ok (.value v) w)(h:∀ a',Fr a' n ((d,v)::l)→K a' w)(hw:Region.wanted ⟨some d,op,ty,ps,af,g⟩ (yielded ops a.tmps)=true:=by rfl)(hf:okB d n l=true:=by rfl):StepK P ops Q ⟨some d,op,ty,ps,af,g⟩ K a w:=st_set ha hw hr hf h
end
end Go.Proofs.YtdilfdkendjjhaaGreat
