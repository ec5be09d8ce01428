/- Further operations: texts (length, bytes, pieces, runes one by one), bits, interface values and their methods. -/
import Derived.Test.YtdilfdkendjjhaaGreatP00Sl
import Derived.Laws.RangeAny
import Derived.Laws.Strings
import Derived.Laws.MakeOwn
import Derived.KernelRfl
import Derived.Test.YtdilfdkendjjhaaGreatProg
import Derived.Maps.Own
namespace Go.Proofs.YtdilfdkendjjhaaGreat
open Go.RowKit
set_option linter.unusedVariables false
set_option linter.unusedSimpArgs false
set_option maxRecDepth 10000
set_option synthInstance.maxSize 4000
set_option synthInstance.maxHeartbeats 400000
section
def nx (s:ByteArray)(pos:Nat):List Value:=if pos<s.size then [.bool true,.int .i64 pos,.int .i32 (Utf8.decode s pos).1] else [.bool false]
def adv (s:ByteArray)(pos:Nat):Nat:=if pos<s.size then pos+(Utf8.decode s pos).2 else pos
theorem nx0 (s:ByteArray)(pos:Nat):(nx s pos)[0]?=some (.bool (decide (pos<s.size))):=by
 by_cases h:pos<s.size <;> simp[nx,h]
theorem nx1 {s:ByteArray}{pos:Nat}(h:pos<s.size):(nx s pos)[1]?=some (.int .i64 pos):=by simp[nx,h]
theorem nx2 {s:ByteArray}{pos:Nat}(h:pos<s.size):(nx s pos)[2]?=some (.int .i32 (Utf8.decode s pos).1):=by simp[nx,h]
section
variable {P:Program}{ops:Array Oper}{Q:Exit→Act→World→Prop}{a:Act}{w w' W:World}{K:Act→World→Prop}{o:Oper}{n d:Nat}{l:List (Nat×Value)}{v:Value}{L R:List SP}
theorem st_range {t x s ty ps af g}(ha:Fr a n l)(hw:Region.wanted ⟨some d,.range t x,ty,ps,af,g⟩ (yielded ops a.tmps)=true)(hs:St W w L)(ht:P.underlying t=some .string)[ev:Ev l x (.string s)]
   (hf:okB d n l=true) (h:∀ b a' w',Fr a' n ((d,.pointer (some ⟨b,0,none⟩))::l)→St W w' (pts b (.stringIter s 0)::L)→Old w w'→K a' w'):StepK P ops Q ⟨some d,.range t x,ty,ps,af,g⟩ K a w:=by
 refine st_set (v:=.pointer (some ⟨w.heap.size,0,none⟩)) (w':=w.alloc (.stringIter s 0)) ha hw ?_ hf (λa' ha'=>h _ _ _ ha' (hs.alloc _) (Old.alloc _ _))
 have:=run_range_string (P:=P) w t s ht
 simp[execOp,ev.ev a n ha,this,World.iter]
class PickP (L:List SP)(b:Nat)(o:outParam Obj)(R:outParam (List SP)):Prop where perm:L.Perm (pts b o::R)
instance PickP.head {L b o}:PickP (pts b o::L) b o L:=⟨List.Perm.refl _⟩
theorem st_next {x s pos b ty ps af g}(ha:Fr a n l)(hw:Region.wanted ⟨some d,.next x true,ty,ps,af,g⟩ (yielded ops a.tmps)=true)(hs:St W w L)[ev:Ev l x (.pointer (some ⟨b,0,none⟩))][k:PickP L b (.stringIter s pos) R]
   (hf:okB d n l=true) (h:∀ a' w',Fr a' n ((d,.tuple (List.toArray (nx s pos)))::l)→St W w' (pts b (.stringIter s (adv s pos))::R)→K a' w'):StepK P ops Q ⟨some d,.next x true,ty,ps,af,g⟩ K a w:=by
 have hs1:=hs.perm k.perm
 have hb:=hs1.has.2
 by_cases hp:pos<s.size
 · have hs2:=hs1.upd (o':=.stringIter s (adv s pos)) (w':={ w with heap:=w.heap.setIfInBounds b (.stringIter s (adv s pos)) }) rfl rfl rfl rfl
   refine st_set (v:=.tuple (List.toArray (nx s pos))) (w':={ w with heap:=w.heap.setIfInBounds b (.stringIter s (adv s pos)) }) ha hw ?_ hf (λa' ha'=>h a' _ ha' hs2)
   simp[execOp,ev.ev a n ha,Instr.next,getObj,setObj,Sem.run,hb,hp,goInt,nx,adv,Sem.run_bind]
 · have e:adv s pos=pos:=by simp[adv,hp]
   refine st_set (v:=.tuple (List.toArray (nx s pos))) (w':=w) ha hw ?_ hf (λa' ha'=>h a' _ ha' (by rw[e];exact hs1))
   simp[execOp,ev.ev a n ha,Instr.next,getObj,Sem.run,hb,hp,nx,Sem.run_bind]
theorem ex_lenS {x s t dst ty ps af g}(ha:Fr a n l)[ev:Ev l x (.string s)](hu:P.underlying t=some .string) :
   (execOp a.eval ⟨dst,.call ⟨.builtin .len,#[x],#[t]⟩,ty,ps,af,g⟩).run P w=.ok (.value (.int .i64 s.size)) w:=by
 simp[execOp,resolve,ev.ev a n ha,invoke,builtin,Builtin.len_,run_underlying hu,goInt]
theorem ex_indexS {x y s k i j t dst ty ps af g}(ha:Fr a n l)(hu:P.underlying t=some .string)[ev:Ev l x (.string s)][ey:Ev l y (.int k i)][nj:NatOf i j](h:j<s.size) :
   (execOp a.eval ⟨dst,.index t x y,ty,ps,af,g⟩).run P w=.ok (.value (.int .u8 (s[j]'h).toNat)) w:=by
 have:=nj.h;subst this
 have h2:=run_index_string (P:=P) w t s k (j:Int) hu
 have h3:0≤(j:Int)∧(j:Int)<s.size:=by omega
 rw[dif_pos h3]at h2
 simp[execOp,ev.ev a n ha,ey.ev a n ha,h2]
theorem ex_sliceSH {x y s k i j t dst ty ps af g}(ha:Fr a n l)(hu:P.underlying t=some .string)[ev:Ev l x (.string s)][ey:Ev l y (.int k i)][nj:NatOf i j](h:j≤s.size) :
   (execOp a.eval ⟨dst,.slice t x none (some y) none,ty,ps,af,g⟩).run P w=.ok (.value (.string (s.extract 0 j))) w:=by
 have:=nj.h;subst this
 have h2:=run_slice_string_h (P:=P) w t s hu k (j:Int) (by omega) (by omega)
 simp only[Int.toNat_natCast]at h2
 simp[execOp,ev.ev a n ha,ey.ev a n ha,run_sliceAt_string (P:=P) (w:=w) t _ _ _ _ hu,h2]
theorem ex_sliceSL {x y s k i j t dst ty ps af g}(ha:Fr a n l)(hu:P.underlying t=some .string)[ev:Ev l x (.string s)][ey:Ev l y (.int k i)][nj:NatOf i j](h:j≤s.size) :
   (execOp a.eval ⟨dst,.slice t x (some y) none none,ty,ps,af,g⟩).run P w=.ok (.value (.string (s.extract j s.size))) w:=by
 have:=nj.h;subst this
 have h2:=run_slice_string_l (P:=P) w t s hu k (j:Int) (by omega) (by omega)
 simp only[Int.toNat_natCast]at h2
 simp[execOp,ev.ev a n ha,ey.ev a n ha,run_sliceAt_string (P:=P) (w:=w) t _ _ _ _ hu,h2]
theorem ex_shl {x y k i k' j jn t u dst ty ps af g}(ha:Fr a n l)[e:Ev l x (.int k i)][f:Ev l y (.int k' j)][nj:NatOf j jn](h:jn≤k.bits) :
   (execOp a.eval ⟨dst,.binOp .shl t x y u,ty,ps,af,g⟩).run P w=.ok (.value (.int k (k.wrap (i*2 ^ jn)))) w:=by
 have:=nj.h;subst this
 have h2:min jn k.bits=jn:=Nat.min_eq_left h
 have h3:¬ ((jn:Int)<0):=by omega
 simp[execOp,e.ev a n ha,f.ev a n ha,eqGuard,binOp,Op.shift,h2,h3]
theorem ex_shr {x y k i k' j jn t u dst ty ps af g}(ha:Fr a n l)[e:Ev l x (.int k i)][f:Ev l y (.int k' j)][nj:NatOf j jn](h:jn≤k.bits) :
   (execOp a.eval ⟨dst,.binOp .shr t x y u,ty,ps,af,g⟩).run P w=.ok (.value (.int k (i.fdiv (2 ^ jn)))) w:=by
 have:=nj.h;subst this
 have h2:min jn k.bits=jn:=Nat.min_eq_left h
 have h3:¬ ((jn:Int)<0):=by omega
 simp[execOp,e.ev a n ha,f.ev a n ha,eqGuard,binOp,Op.shift,h2,h3]
theorem ex_or {x y k i j t u dst ty ps af g}(ha:Fr a n l)[e:Ev l x (.int k i)][f:Ev l y (.int k j)] :
   (execOp a.eval ⟨dst,.binOp .or t x y u,ty,ps,af,g⟩).run P w=.ok (.value (.int k (k.wrap ((BitVec.ofInt k.bits i ||| BitVec.ofInt k.bits j).toNat)))) w:=by
 simp[execOp,e.ev a n ha,f.ev a n ha,eqGuard,binOp,Op.intBits]
theorem ex_and {x y k i j t u dst ty ps af g}(ha:Fr a n l)[e:Ev l x (.int k i)][f:Ev l y (.int k j)] :
   (execOp a.eval ⟨dst,.binOp .and t x y u,ty,ps,af,g⟩).run P w=.ok (.value (.int k (k.wrap ((BitVec.ofInt k.bits i &&& BitVec.ofInt k.bits j).toNat)))) w:=by
 simp[execOp,e.ev a n ha,f.ev a n ha,eqGuard,binOp,Op.intBits]
theorem ex_xor {x y k i j t u dst ty ps af g}(ha:Fr a n l)[e:Ev l x (.int k i)][f:Ev l y (.int k j)] :
   (execOp a.eval ⟨dst,.binOp .xor t x y u,ty,ps,af,g⟩).run P w=.ok (.value (.int k (k.wrap ((BitVec.ofInt k.bits i ^^^ BitVec.ofInt k.bits j).toNat)))) w:=by
 simp[execOp,e.ev a n ha,f.ev a n ha,eqGuard,binOp,Op.intBits]
theorem ex_com {x k i t dst ty ps af g}(ha:Fr a n l)[e:Ev l x (.int k i)] :
   (execOp a.eval ⟨dst,.unOp .xor t x,ty,ps,af,g⟩).run P w=.ok (.value (.int k (k.wrap ((BitVec.ofInt k.bits (if k.signed then -1 else k.max) ^^^ BitVec.ofInt k.bits i).toNat)))) w:=by
 simp[execOp,e.ev a n ha,Op.unary,Op.intBits]
theorem ex_neg {x k i t dst ty ps af g}(ha:Fr a n l)[e:Ev l x (.int k i)] :
   (execOp a.eval ⟨dst,.unOp .neg t x,ty,ps,af,g⟩).run P w=.ok (.value (.int k (k.wrap (0-i)))) w:=by
 simp[execOp,e.ev a n ha,Op.unary,Op.intArith]
theorem ex_quoW {x y k i j t u dst ty ps af g}(ha:Fr a n l)(h:j≠0)[e:Ev l x (.int k i)][f:Ev l y (.int k j)] :
   (execOp a.eval ⟨dst,.binOp .quo t x y u,ty,ps,af,g⟩).run P w=.ok (.value (.int k (k.wrap (i.tdiv j)))) w:=by
 simp[execOp,e.ev a n ha,f.ev a n ha,eqGuard,binOp,Op.intDiv,h]
theorem run_equalIn_I {t t':TypeId} {ms}(ht:P.underlying t=some (.interface ms))(v:Value)(k:Nat):(Op.equalIn (k+1) t (.iface t' v) .nilIface).run P w=.ok false w:=by
 simp[Op.equalIn,run_underlying ht]
theorem ex_eqnilI {x t v t' ms u dst ty ps af g}(ha:Fr a n l)(ht:P.underlying t=some (.interface ms))[e:Ev l x (.iface t' v)] :
   (execOp a.eval ⟨dst,.binOp .eql t x (.const .nilIface) u,ty,ps,af,g⟩).run P w=.ok (.value (.bool false)) w:=by
 have hc:a.eval (.const .nilIface)=.nilIface:=rfl
 have h2:(Op.equal t (.iface t' v) .nilIface).run P w=.ok false w:=run_equalIn_I ht v 9999
 simp only[execOp,e.ev a n ha,hc,Sem.run_bind]
 simp[eqGuard,binOp,h2]
theorem ex_makeI {x t dd dst ty ps af g}(ha:Fr a n l)(ht:P.underlying t=some dd)(hd:(match dd with | .interface _=>false | _=>true)=true)[e:Ev l x v] :
   (execOp a.eval ⟨dst,.makeInterface t x,ty,ps,af,g⟩).run P w=.ok (.value (.iface t v)) w:=by
 cases dd <;> first | (simp at hd) | skip
 all_goals simp[execOp,e.ev a n ha,Instr.makeInterface,run_underlying ht]
def MethodT (P:Program)(t:TypeId)(name:String)(f:FuncId):Prop:=∀ (ad:Option Addr) (w:World),(method (P.types.size+Made.depth) t (.pointer ad) name).run P w=.ok (f,.pointer ad) w
theorem st_callI {x t ad name f args tys ty ps af g vs all}{X:Ending→World→Prop}(ha:Fr a n l)(hw:Region.wanted ⟨some d,.call ⟨.invoke x name,List.toArray args,tys⟩,ty,ps,af,g⟩ (yielded ops a.tmps)=true)
   [ex:Ev l x (.iface t (.pointer ad))] (hm:MethodT P t name f) (hb:callable P f=true) (hf:okB d n l=true) [ev:EvL l args vs] (hc:Calls P f (List.toArray all) w X) (hall:.pointer ad::vs=all)
   (h:∀ e w',X e w'→∃ v,e=.returned v∧∀ a',Fr a' n ((d,v)::l)→K a' w') :
   StepK P ops Q ⟨some d,.call ⟨.invoke x name,List.toArray args,tys⟩,ty,ps,af,g⟩ K a w:=by
 subst hall
 refine st_enter hw ?_ hc λe w' hx=>let ⟨v,he,hv⟩:=h e w' hx;⟨v,he,hv _ (ha.put hf v)⟩
 have h3:=hm ad w
 simp[execOp,resolve,ex.ev a n ha,invoke,callMethod,ev.ev a n ha,h3,run_callFunc hb,program,Sem.run]
end
end
section
section
variable {P:Program}{a:Act}{w:World}{n:Nat}{l:List (Nat×Value)}{v:Value}
theorem ex_field1 {x vs t f fs fl dd dst ty ps af g}(ha:Fr a n l)(hu:P.underlying t=some (.struct fs))(hf:fs[f]?=some fl)(hd:P.underlying fl.type=some dd)(h1:isOne dd=true)
   [ev:Ev l x (.agg (List.toArray vs))] (hv:vs[fl.offset]?=some v) :
   (execOp a.eval ⟨dst,.field t x f,ty,ps,af,g⟩).run P w=.ok (.value v) w:=by
 have hpa:(part fl.type vs.toArray fl.offset).run P w=.ok v w:=by
   have hagg:(isAgg fl.type).run P w=.ok false w:=by
     simp only[isAgg,Sem.run_bind,run_underlying hd,Result.andThen_ok]
     cases dd <;> first | rfl | (simp[isOne]at h1)
   simp[part,hagg,hv]
 simp[execOp,ev.ev a n ha,Instr.field,run_underlying hu,hf,asAgg,hpa]
end
end
section
section
variable {P:Program}{a:Act}{w W:World}{n:Nat}{l:List (Nat×Value)}{L R:List SP}
theorem ex_sliceHM {x u z3 k' k'' i' i'' j' j'' ad m c t el z sz by' dst ty ps af g}(ha:Fr a n l)(ht:P.underlying t=some (.slice el))(hi:TI P el z sz by')[ev:Ev l x (.slice ad m c)][eu:Ev l u (.int k' i')][ez:Ev l z3 (.int k'' i'')]
   [nj':NatOf i' j'] [nj'':NatOf i'' j''] (h':j'≤j'') (h'':j''≤c) :
   (execOp a.eval ⟨dst,.slice t x none (some u) (some z3),ty,ps,af,g⟩).run P w=.ok (.value (.slice (cutAd ad 0 j'' sz) j' j'')) w:=by
 have hj':=nj'.h
 subst hj'
 have hj'':=nj''.h
 subst hj''
 have e1:=(elem_of ht).1
 have e2:=(elem_of ht).2
 have:=run_slice_hm (P:=P) (w:=w) t ad m c e1 k' k'' (j':Int) (j'':Int) (by omega) (by omega) (by omega)
 rw[e2,run_size hi]at this
 simp only[Result.andThen_ok,Int.toNat_natCast]at this
 simp[execOp,ev.ev a n ha,eu.ev a n ha,ez.ev a n ha,run_sliceAt_slice (P:=P) (w:=w) t _ _ _ _ e1,this,sliced,cutAd]
theorem St.cutSlM {e sz k c:Nat}{cs:List Value}(hs:St W w L)(ad:Option Addr)(m:Nat)[pk:PickSl L ad k c e sz cs R](hm:m≤k):St W w (Sl e sz (cutAd ad 0 m sz) m m (cs.take (m*sz))::R):=by
 have h1:=hs.perm pk.perm
 rcases Nat.eq_zero_or_pos m with h0 | h0
 · subst h0
   simpa using h1.tail.sl0 e sz (cutAd ad 0 0 sz)
 · have hc:=(hs.sl ad)
   obtain⟨b,pre,post,⟨g1,g2,g3,g4⟩,h2⟩:=h1.slOpen (by omega)
   subst g3
   rw[cutAd_some (by omega),Nat.zero_mul,Nat.add_zero]
   have hml:m*sz≤cs.length:=by rw[g1];exact Nat.mul_le_mul_right _ hm
   rw[show pre++cs++post=pre++cs.take (m*sz)++(cs.drop (m*sz)++post) from by
     conv=>lhs;rw[← List.take_append_drop (m*sz) cs]
     simp only[List.append_assoc]]at h2
   exact St.slShut h2 (by rw[List.length_take];omega) (Nat.le_refl _) (by simp)
end
end
section
section
variable {P:Program}{ops:Array Oper}{Q:Exit→Act→World→Prop}{a:Act}{w w' W:World}{K:Act→World→Prop}{n d:Nat}{l:List (Nat×Value)}{L:List SP}
theorem st_makeSlice {t el z sz by' x y k k' i j ty ps af g}(ha:Fr a n l)(hw:Region.wanted ⟨some d,.makeSlice t x y,ty,ps,af,g⟩ (yielded ops a.tmps)=true)(hs:St W w L)(ht:P.underlying t=some (.slice el))
   (hi:TI P el z sz by') (hf:okB d n l=true) (hb:by'*j≤281474976710656) (hj:j≤9223372036854775807) [e:Ev l x (.int k i)] [e2:Ev l y (.int k' i)] [nj:NatOf i j]
   (h:∀ b a' w',Fr a' n ((d,.slice (some ⟨b,0,none⟩) j j)::l)→St W w' (blk b el (madeCells z.cells (j*sz)).toList::L)→Old w w'→K a' w') :
   StepK P ops Q ⟨some d,.makeSlice t x y,ty,ps,af,g⟩ K a w:=by
 have hnj:=nj.h
 subst hnj
 obtain⟨ti,hi1,hi2,hi3,hi4⟩:=info_parts hi.h
 have hbi:(ti.bytes:Int)*(j:Int)≤281474976710656:=by
   rw[hi4]
   have:((by'*j:Nat):Int)≤281474976710656:=by omega
   rwa [Int.natCast_mul]at this
 have hr:=run_make (P:=P) w t el ti z ht hi1 hi2 k k' (j:Int) (j:Int) (by omega) (Int.le_refl _) hbi (by omega)
 rw[Int.toNat_natCast,hi3]at hr
 refine st_set (v:=.slice (some ⟨w.heap.size,0,none⟩) j j) (w':=w.alloc (.cells (madeCells z.cells (j*sz)) el)) ha hw ?_ hf (λa' ha'=>h _ _ _ ha' (by
   have:=hs.alloc (.cells (madeCells z.cells (j*sz)) el)
   simpa [blk] using this) (Old.alloc _ _))
 simp[execOp,e.ev a n ha,e2.ev a n ha,hr]
end
end
section
class Dst (os:List Oper)(j:Nat)(s:outParam Nat):Prop where h:(os[j]?).bind (·.dst)=some s
instance Dst.zero {s op ty ps af g r}:Dst (⟨some s,op,ty,ps,af,g⟩::r) 0 s:=⟨rfl⟩
instance Dst.succ {o r j s}[h:Dst r j s]:Dst (o::r) (j+1) s:=⟨by rw[List.getElem?_cons_succ];exact h.h⟩
class OpAt (os:List Oper)(j:Nat)(o:outParam Oper):Prop where h:os[j]?=some o
instance OpAt.zero {o r}:OpAt (o::r) 0 o:=⟨rfl⟩
instance OpAt.succ {x r j o}[h:OpAt r j o]:OpAt (x::r) (j+1) o:=⟨by rw[List.getElem?_cons_succ];exact h.h⟩
class GB (v:Value)(b:Bool)(r:outParam Bool):Prop where h:((match v with | .bool c=>Option.some c | _=>none)==Option.some b)=r
instance GB.tt:GB (.bool true) true true:=⟨rfl⟩
instance GB.tf:GB (.bool true) false false:=⟨rfl⟩
instance GB.ft:GB (.bool false) true false:=⟨rfl⟩
instance GB.ff:GB (.bool false) false true:=⟨rfl⟩
instance GB.u {b}:GB undef b false:=⟨rfl⟩
class Gd (os:List Oper)(l:List (Nat×Value))(g:Option (Nat×Bool))(r:outParam Bool):Prop where
 h:∀ {a n},Fr a n l→∀ {dst op ty ps af},Region.wanted ⟨dst,op,ty,ps,af,g⟩ (yielded os.toArray a.tmps)=r
instance Gd.none {os l}:Gd os l none true:=⟨λ_=>rfl⟩
instance Gd.some {os l j b s v r}[d:Dst os j s][k:Get l s v][x:GB v b r]:Gd os l (some (j,b)) r:=⟨λ{a n} ha dst op ty ps af=>by
 have h1:=ha.has _ k.mem
 have h2:(os.toArray[j]?).bind (·.dst)=Option.some s:=by rw[List.getElem?_toArray];exact d.h
 rw[← x.h]
 simp only[Region.wanted,yielded,h2,Option.bind_some,h1]
 cases v <;> rfl⟩
class AndC (p q:Prop)(r:outParam Prop):Prop where h:r→p∧q
instance AndC.l {q}:AndC True q q:=⟨λh=>⟨trivial,h⟩⟩
instance AndC.r {p}:AndC p True p:=⟨λh=>⟨h,trivial⟩⟩
instance (priority:=low) AndC.b {p q}:AndC p q (p∧q):=⟨id⟩
class Nth (cs:List Value)(i:Nat)(v:outParam Value):Prop where h:cs[i]?=some v
instance Nth.zero {v cs}:Nth (v::cs) 0 v:=⟨rfl⟩
instance Nth.succ {c cs i v}[h:Nth cs i v]:Nth (c::cs) (i+1) v:=⟨by rw[List.getElem?_cons_succ];exact h.h⟩
instance Nth.apZ {v xs ys}:Nth ((v::xs)++ys) 0 v:=⟨rfl⟩
instance Nth.apS {c xs ys i v}[h:Nth (xs++ys) i v]:Nth ((c::xs)++ys) (i+1) v:=⟨by rw[List.cons_append,List.getElem?_cons_succ];exact h.h⟩
instance Nth.apN {ys i v}[h:Nth ys i v]:Nth ([]++ys) i v:=⟨h.h⟩
instance Nth.asc {xs ys zs i v}[h:Nth (xs++(ys++zs)) i v]:Nth ((xs++ys)++zs) i v:=⟨by rw[List.append_assoc];exact h.h⟩
instance SubC.asc {xs ys zs i m v}[h:SubC (xs++(ys++zs)) i m v]:SubC ((xs++ys)++zs) i m v:=⟨by rw[List.append_assoc];exact h.h⟩
instance SubC.apN {ys i m v}[h:SubC ys i m v]:SubC ([]++ys) i m v:=⟨h.h⟩
instance SubC.apC {x xs ys m vs}[h:SubC (xs++ys) 0 m vs]:SubC ((x::xs)++ys) 0 (m+1) (x::vs):=⟨by
 have:=h.h;simp only[List.drop_zero,List.cons_append] at *;rw[List.take_succ_cons,this]⟩
class IxOff (o j sz:Nat)(r:outParam Nat):Prop where h:o+j*sz=r
instance (priority:=10) IxOff.any {o j sz}:IxOff o j sz (o+j*sz):=⟨rfl⟩
instance (priority:=20) IxOff.one {o j}:IxOff o j 1 (o+j):=⟨by rw[Nat.mul_one]⟩
instance (priority:=25) IxOff.at0 {o sz}:IxOff o 0 sz (o+0):=⟨by rw[Nat.zero_mul]⟩
instance (priority:=50) IxOff.all0 {sz}:IxOff 0 0 sz 0:=⟨by rw[Nat.zero_mul]⟩
instance (priority:=30) IxOff.zero {j sz}:IxOff 0 j sz (j*sz):=⟨Nat.zero_add _⟩
instance (priority:=40) IxOff.both {j}:IxOff 0 j 1 j:=⟨by omega⟩
class Und (P:Program)(t:TypeId)(d:outParam TypeDesc):Prop where h:P.underlying t=some d
theorem Und.of {P:Program}{t:TypeId}{d:TypeDesc}(h:P.underlying t=some d):Und P t d:=⟨h⟩
class OneD (d:TypeDesc)(r:outParam Bool):Prop where h:isOne d=r
instance Ex.ext30 {P:Program} {l x v1 v2 v3} [Ev l x (.tuple #[v1,v2,v3])]:Ex P l (.extract x 0) v1:=⟨λ_ _ ha _ _ _ _ _ _=>ex_extract ha rfl⟩
instance Ex.ext31 {P:Program} {l x v1 v2 v3} [Ev l x (.tuple #[v1,v2,v3])]:Ex P l (.extract x 1) v2:=⟨λ_ _ ha _ _ _ _ _ _=>ex_extract ha rfl⟩
instance Ex.ext32 {P:Program} {l x v1 v2 v3} [Ev l x (.tuple #[v1,v2,v3])]:Ex P l (.extract x 2) v3:=⟨λ_ _ ha _ _ _ _ _ _=>ex_extract ha rfl⟩
instance:OneD .bool true:=⟨rfl⟩
instance:OneD .string true:=⟨rfl⟩
instance {k}:OneD (.int k) true:=⟨rfl⟩
instance {t}:OneD (.pointer t) true:=⟨rfl⟩
instance {t}:OneD (.slice t) true:=⟨rfl⟩
instance {t u}:OneD (.map t u) true:=⟨rfl⟩
instance {p r b}:OneD (.func p r b) true:=⟨rfl⟩
instance {m}:OneD (.interface m) true:=⟨rfl⟩
instance {f}:OneD (.struct f) false:=⟨rfl⟩
instance {m t}:OneD (.array m t) false:=⟨rfl⟩
class NotI (d:TypeDesc):Prop where h:(match d with | .interface _=>false | _=>true)=true
instance {t}:NotI (.pointer t):=⟨rfl⟩
instance {f}:NotI (.struct f):=⟨rfl⟩
class Suc (m:Nat)(k:outParam Nat):Prop where h:m=k+1
instance {k}:Suc (k+1) k:=⟨rfl⟩
class NthF (fs:List Field)(f:Nat)(t k:outParam Nat):Prop where h:∃ fl,fs[f]?=some fl∧fl.type=t∧fl.offset=k
instance NthF.zero {nm t k e tg pp bo r}:NthF (⟨nm,t,k,e,tg,pp,bo⟩::r) 0 t k:=⟨_,rfl,rfl,rfl⟩
instance NthF.succ {x r f t k}[h:NthF r f t k]:NthF (x::r) (f+1) t k:=⟨by rw[List.getElem?_cons_succ];exact h.h⟩
section
variable {P:Program}{t u el k sz by' f:Nat}{d:TypeDesc}{z:Value}{fs:List Field}
instance [h:Und P t (.pointer el)]:UPtr P t:=⟨_,h.h⟩
instance [h:Und P t (.slice el)]:USl P t:=⟨_,h.h⟩
instance [h:Und P t d][g:OneD d true]:UOne P t:=⟨_,h.h,g.h⟩
instance {m:Nat}[h:Und P t (.struct fs.toArray)][g:NthF fs f u k][hi:TI P u z m by'][q:Suc m sz]:UFld P t f k:=by
 obtain⟨fl,h1,h2,h3⟩:=g.h
 rw[q.h]at hi
 exact⟨_,fl,z,sz,by',h.h,by rw[List.getElem?_toArray];exact h1,by rw[h2];exact hi,h3⟩
end
def Lk (L:List SP)(w:World):Prop:=∃ W w0,St W w0 L∧Old w0 w
theorem Lk.of {W w:World}{L:List SP}(hs:St W w L):Lk L w:=⟨W,w,hs,Old.refl _⟩
theorem Lk.nil (w:World):Lk [] w:=⟨w,w,St.start _,Old.refl _⟩
theorem Lk.rd1 {w:World}{L R:List SP}{b e off:Nat}{cs:List Value}{v:Value}(h:Lk L w)[k:Blk L b e cs R](hv:cs[off]?=some v):w.cell? ⟨b,off,none⟩=some v:=by
 obtain⟨W,w0,hs,ho⟩:=h;exact ho.cell (hs.rd1 hv)
theorem Lk.rdN {w:World}{L R:List SP}{b e off:Nat}{cs:List Value}(h:Lk L w)[k:Blk L b e cs R](m:Nat){vs:List Value}[sc:SubC cs off m vs]:Rd w b off vs:=by
 obtain⟨W,w0,hs,ho⟩:=h;exact ho.rd (hs.rdN m)
instance SubC.whole {cs m}[h:LenEq cs m]:SubC cs 0 m cs:=⟨by rw[List.drop_zero,← h.h,List.take_length]⟩
class NilA (ad:Option Addr)(r:outParam Bool):Prop where h:ad.isNone=r
instance NilA.n:NilA none true:=⟨rfl⟩
instance NilA.s {a}:NilA (some a) false:=⟨rfl⟩
instance (priority:=low) NilA.any {ad}:NilA ad ad.isNone:=⟨rfl⟩
theorem ret3 {P:Program}{a:Act}{w:World}{n:Nat}{l:List (Nat×Value)}{fn:Func} {t u x v v2 v3}{X:Ending→World→Prop}(ha:Fr a n l)(hr:fn.results=#[.tmp t,.tmp u,.tmp x])[k:Get l t v][k2:Get l u v2][k3:Get l x v3](h:X (.returned (.tuple #[v,v2,v3])) w):bodyPost P fn X .ret a w:=by
 refine bodyPost_ret ?_ ha.defers h
 have h1:=ha.has _ k.mem
 have h2:=ha.has _ k2.mem
 have h3:=ha.has _ k3.mem
 simp[results,hr,Array.getD_eq_getD_getElem?,h1,h2,h3]
theorem Fr.isT {a:Act}{n:Nat}{l l':List (Nat×Value)}(ha:Fr a n l)(s:Nat){b:Bool}[k:Get l s (.bool b)][e:Del l s l'](h:b=true:=by first | rfl | decide):Fr a n ((s,.bool true)::l') :=
 ha.bool (s:=s) (λ_ h=>h) (λe _=>by rw[h]at e;cases e)
theorem Fr.isF {a:Act}{n:Nat}{l l':List (Nat×Value)}(ha:Fr a n l)(s:Nat){b:Bool}[k:Get l s (.bool b)][e:Del l s l'](h:b=false:=by first | rfl | decide):Fr a n ((s,.bool false)::l') :=
 ha.bool (s:=s) (λe _=>by rw[h]at e;cases e) (λ_ h=>h)
class Sx (P:Program)(L:List SP)(l:List (Nat×Value))(op:Go.Op)(c:outParam Prop)(v:outParam Value):Prop where
 ex:c→∀ {a n w},Fr a n l→Lk L w→∀ {dst ty ps af g},(execOp a.eval ⟨dst,op,ty,ps,af,g⟩).run P w=.ok (.value v) w
section
variable {P:Program}{L R:List SP}{l:List (Nat×Value)}{x y z:Operand}{v u zv:Value}{k k':IntKind}{i j i':Int}{m m' m'' c:Nat}{t t' el sz by' b off r:Nat}{ad:Option Addr}{s:ByteArray}{p q:Bool}{vs ws zs:List Value}
instance (priority:=high) Sx.of {op}[h:Ex P l op v]:Sx P L l op True v:=⟨λ_ _ _ _ ha _ _ _ _ _ _=>h.ex _ _ ha _ _ _ _ _ _⟩
instance Sx.pickT [Ev l x (.bool true)] [Ev l y v]:Sx P L l (.pick x y z) True v:=⟨λ_ _ _ _ ha _ _ _ _ _ _=>ex_pickT ha⟩
instance Sx.pickF [Ev l x (.bool false)] [Ev l z v]:Sx P L l (.pick x y z) True v:=⟨λ_ _ _ _ ha _ _ _ _ _ _=>ex_pickF ha⟩
instance Sx.load {e cs} [Ev l x (.pointer (some ⟨b,off,none⟩))][u:UOne P t] [Blk L b e cs R][n:Nth cs off v]:Sx P L l (.load t x) True v :=
 ⟨λ_ _ _ _ ha hs _ _ _ _ _=>by obtain⟨dd,h1,h2⟩:=u.h;exact ex_load1 ha h1 h2 (hs.rd1 n.h)⟩
instance Sx.loadN {e cs d} [Ev l x (.pointer (some ⟨b,off,none⟩))][u:Und P t d][g:OneD d false][hi:TI P t zv m by'] [Blk L b e cs R] [SubC cs off m vs][k:LenEq vs m]:Sx P L l (.load t x) True (.agg vs.toArray) :=
 ⟨λ_ _ _ _ ha hs _ _ _ _ _=>ex_loadN ha u.h g.h (by rw[k.h];exact hi) (hs.rdN m)⟩
instance Sx.add [Ev l x (.int .i64 i)] [Ev l y (.int .i64 j)]:Sx P L l (.binOp .add t x y t') (-9223372036854775808≤i+j∧i+j≤9223372036854775807) (.int .i64 (i+j)) :=
 ⟨λh _ _ _ ha _ _ _ _ _ _=>ex_addI ha h.1 h.2⟩
instance Sx.sub [Ev l x (.int .i64 i)] [Ev l y (.int .i64 j)]:Sx P L l (.binOp .sub t x y t') (-9223372036854775808≤i-j∧i-j≤9223372036854775807) (.int .i64 (i-j)) :=
 ⟨λh _ _ _ ha _ _ _ _ _ _=>ex_subI ha h.1 h.2⟩
instance Sx.mul [Ev l x (.int .i64 i)] [Ev l y (.int .i64 j)]:Sx P L l (.binOp .mul t x y t') (-9223372036854775808≤i*j∧i*j≤9223372036854775807) (.int .i64 (i*j)) :=
 ⟨λh _ _ _ ha _ _ _ _ _ _=>ex_mulI ha h.1 h.2⟩
instance (priority:=low) Sx.addW [Ev l x (.int k i)] [Ev l y (.int k j)]:Sx P L l (.binOp .add t x y t') (True) (.int k (k.wrap (i+j))):=⟨λ_ _ _ _ ha _ _ _ _ _ _=>ex_add ha⟩
instance (priority:=low) Sx.subW [Ev l x (.int k i)] [Ev l y (.int k j)]:Sx P L l (.binOp .sub t x y t') (True) (.int k (k.wrap (i-j))):=⟨λ_ _ _ _ ha _ _ _ _ _ _=>ex_sub ha⟩
instance (priority:=low) Sx.mulW [Ev l x (.int k i)] [Ev l y (.int k j)]:Sx P L l (.binOp .mul t x y t') (True) (.int k (k.wrap (i*j))):=⟨λ_ _ _ _ ha _ _ _ _ _ _=>ex_mul ha⟩
instance Sx.rem [Ev l x (.int k i)] [Ev l y (.int k j)]:Sx P L l (.binOp .rem t x y t') (j≠0) (.int k (i.tmod j)):=⟨λg _ _ _ ha _ _ _ _ _ _=>ex_rem ha g⟩
instance Sx.or [Ev l x (.int k i)] [Ev l y (.int k j)]:Sx P L l (.binOp .or t x y t') (True) (.int k (k.wrap ((BitVec.ofInt k.bits i ||| BitVec.ofInt k.bits j).toNat))):=⟨λ_ _ _ _ ha _ _ _ _ _ _=>ex_or ha⟩
instance Sx.and [Ev l x (.int k i)] [Ev l y (.int k j)]:Sx P L l (.binOp .and t x y t') (True) (.int k (k.wrap ((BitVec.ofInt k.bits i &&& BitVec.ofInt k.bits j).toNat))):=⟨λ_ _ _ _ ha _ _ _ _ _ _=>ex_and ha⟩
instance (priority:=low) Sx.xor [Ev l x (.int k i)] [Ev l y (.int k j)]:Sx P L l (.binOp .xor t x y t') (True) (.int k (k.wrap ((BitVec.ofInt k.bits i ^^^ BitVec.ofInt k.bits j).toNat))):=⟨λ_ _ _ _ ha _ _ _ _ _ _=>ex_xor ha⟩
instance Sx.xor8 {i j:UInt8} [Ev l x (.int .u8 (i.toNat:Int))] [Ev l y (.int .u8 (j.toNat:Int))]:Sx P L l (.binOp .xor t x y t') True (.int .u8 ((i ^^^ j).toNat:Int)):=⟨λ_ _ _ _ ha _ _ _ _ _ _=>ex_xor8 ha⟩
instance Sx.min {ty'} [Ev l x (.int k i)] [Ev l y (.int k j)]:Sx P L l (.call ⟨.builtin .min,#[x,y],ty'⟩) (True) (.int k (min i j)):=⟨λ_ _ _ _ ha _ _ _ _ _ _=>ex_min ha⟩
instance Sx.max {ty'} [Ev l x (.int k i)] [Ev l y (.int k j)]:Sx P L l (.call ⟨.builtin .max,#[x,y],ty'⟩) (True) (.int k (max i j)):=⟨λ_ _ _ _ ha _ _ _ _ _ _=>ex_max ha⟩
instance Sx.shl [Ev l x (.int k i)] [Ev l y (.int k' j)] [NatOf j m]:Sx P L l (.binOp .shl t x y t') (m≤k.bits) (.int k (k.wrap (i*2 ^ m))):=⟨λg _ _ _ ha _ _ _ _ _ _=>ex_shl ha g⟩
instance Sx.shr [Ev l x (.int k i)] [Ev l y (.int k' j)] [NatOf j m]:Sx P L l (.binOp .shr t x y t') (m≤k.bits) (.int k (i.fdiv (2 ^ m))):=⟨λg _ _ _ ha _ _ _ _ _ _=>ex_shr ha g⟩
instance Sx.com [Ev l x (.int k i)]:Sx P L l (.unOp .xor t x) True (.int k (k.wrap ((BitVec.ofInt k.bits (if k.signed then -1 else k.max) ^^^ BitVec.ofInt k.bits i).toNat))):=⟨λ_ _ _ _ ha _ _ _ _ _ _=>ex_com ha⟩
instance Sx.neg [Ev l x (.int k i)]:Sx P L l (.unOp .neg t x) True (.int k (k.wrap (0-i))):=⟨λ_ _ _ _ ha _ _ _ _ _ _=>ex_neg ha⟩
instance Sx.eqnilS [h:Und P t (.slice el)] [Ev l x (.slice ad m c)][q:NilA ad p]:Sx P L l (.binOp .eql t x (.const (.slice none 0 0)) t') True (.bool p):=⟨λ_ _ _ _ ha _ _ _ _ _ _=>by rw[← q.h];exact ex_eqnilS ha h.h⟩
instance Sx.lenS [h:Und P t .string] [Ev l x (.string s)]:Sx P L l (.call ⟨.builtin .len,#[x],#[t]⟩) (True) (.int .i64 s.size):=⟨λ_ _ _ _ ha _ _ _ _ _ _=>ex_lenS ha h.h⟩
instance Sx.eqlB [h:Und P t .bool] [Ev l x (.bool p)] [Ev l y (.bool q)]:Sx P L l (.binOp .eql t x y t') (True) (.bool (p==q)):=⟨λ_ _ _ _ ha _ _ _ _ _ _=>ex_eqlB ha h.h⟩
instance Sx.neqB [h:Und P t .bool] [Ev l x (.bool p)] [Ev l y (.bool q)]:Sx P L l (.binOp .neq t x y t') (True) (.bool (p != q)):=⟨λ_ _ _ _ ha _ _ _ _ _ _=>ex_neqB ha h.h⟩
instance Sx.makeF {fn xs ys} [EvL l xs vs] [EvL l ys ws]:Sx P L l (.makeFunc fn xs.toArray ys.toArray) (True) (.func fn vs.toArray ws.toArray):=⟨λ_ _ _ _ ha _ _ _ _ _ _=>ex_makeFunc ha⟩
instance Sx.makeI {d}[h:Und P t d][g:NotI d] [Ev l x v]:Sx P L l (.makeInterface t x) (True) (.iface t v):=⟨λ_ _ _ _ ha _ _ _ _ _ _=>ex_makeI ha h.h (by have:=g.h;cases d <;> first | rfl | (simp at this))⟩
instance Sx.eqnilI {ms}[h:Und P t (.interface ms)] [Ev l x (.iface m v)]:Sx P L l (.binOp .eql t x (.const .nilIface) t') (True) (.bool false):=⟨λ_ _ _ _ ha _ _ _ _ _ _=>ex_eqnilI ha h.h⟩
instance Sx.index [h:Und P t (.slice el)][hi:TI P el zv sz by'] [Ev l x (.slice (some ⟨b,off,none⟩) m c)] [Ev l y (.int k i)] [NatOf i m'][q:IxOff off m' sz r]:Sx P L l (.indexAddr t x y) (m'<m) (.pointer (some ⟨b,r,none⟩)):=⟨λg _ _ _ ha _ _ _ _ _ _=>by rw[← q.h];exact ex_indexAddr ha h.h hi g⟩
instance Sx.indexA [h:Und P t (.array m el)][hi:TI P el zv sz by'] [Ev l x (.pointer (some ⟨b,off,none⟩))] [Ev l y (.int k i)] [NatOf i m'][q:IxOff off m' sz r]:Sx P L l (.indexAddr t x y) (m'<m) (.pointer (some ⟨b,r,none⟩)):=⟨λg _ _ _ ha _ _ _ _ _ _=>by rw[← q.h];exact ex_indexAddrA ha h.h hi g⟩
instance Sx.sliceL [h:Und P t (.slice el)][hi:TI P el zv sz by'] [Ev l x (.slice ad m c)] [Ev l y (.int k i)] [NatOf i m']:Sx P L l (.slice t x (some y) none none) (m'≤m) (.slice (cutAd ad m' c sz) (m-m') (c-m')):=⟨λg _ _ _ ha _ _ _ _ _ _=>ex_sliceL ha h.h hi g⟩
instance Sx.sliceH [h:Und P t (.slice el)][hi:TI P el zv sz by'] [Ev l x (.slice ad m c)] [Ev l y (.int k i)] [NatOf i m']:Sx P L l (.slice t x none (some y) none) (m'≤c) (.slice (cutAd ad 0 c sz) (m'-0) (c-0)):=⟨λg _ _ _ ha _ _ _ _ _ _=>ex_sliceH ha h.h hi g⟩
instance Sx.sliceLH [h:Und P t (.slice el)][hi:TI P el zv sz by'] [Ev l x (.slice ad m c)] [Ev l y (.int k i)] [NatOf i m'] [Ev l z (.int k' i')] [NatOf i' m'']:Sx P L l (.slice t x (some y) (some z) none) (m'≤m''∧m''≤c) (.slice (cutAd ad m' c sz) (m''-m') (c-m')):=⟨λg _ _ _ ha _ _ _ _ _ _=>ex_sliceLH ha h.h hi g.1 g.2⟩
instance Sx.slicePA [h:Und P t (.array m el)][hi:TI P el zv sz by'] [Ev l x (.pointer (some ⟨b,off,none⟩))]:Sx P L l (.slice t x none none none) (True) (.slice (some ⟨b,off,none⟩) m m):=⟨λ_ _ _ _ ha _ _ _ _ _ _=>ex_slicePA ha h.h hi⟩
instance Sx.conv [h:Und P t (.int k)][q:Und P t' (.int k')] [Ev l x (.int k i)]:Sx P L l (.convert t t' x) (k'.wrap i=i) (.int k' i):=⟨λg _ _ _ ha _ _ _ _ _ _=>ex_convIIs ha h.h q.h g⟩
instance Sx.build {places parts}[hb:BuildT P t places][hi:TI P t zv sz by'] [Cells zv zs] [FillQ places zs l parts vs]:Sx P L l (.build t (List.toArray parts)) ((places.all λp=>Nat.ble (p.1+p.2) zs.length)=true) (.agg vs.toArray):=⟨λg _ _ _ ha _ _ _ _ _ _=>ex_build ha hb hi g⟩
end
def Hd (C:World→Prop)(L:List SP):Prop:=∀ w',C w'→Lk L w'
theorem Hd.any (C:World→Prop):Hd C []:=λw' _=>Lk.nil w'
theorem Hd.old {W w:World}{L:List SP}(hs:St W w L):Hd (Old w) L:=λ_ h=>⟨W,w,hs,h⟩
def CN (b:Bool)(C:World→Prop)(K:Act→World→Prop):Act→World→Prop:=λa w=>(b=true→C w)∧K a w
def RetQ (X:Ending→World→Prop)(v:Value):Act→World→Prop:=λ_ w=>X (.returned v) w
def bodyQ (P:Program)(rs:List ResultVar)(X:Ending→World→Prop):Exit→Act→World→Prop:=λe a w=>∀ fn:Func,fn.results=rs.toArray→bodyPost P fn X e a w
class PkQ (Q:Exit→Act→World→Prop):Prop where h:PanOk Q
instance {K Q}[h:PkQ Q]:PkQ (Exit.then K Q):=⟨pk_then h.h⟩
instance {i Q}[h:PkQ Q]:PkQ (Exit.inBlock i Q):=⟨pk_blk h.h⟩
instance {P rs X}:PkQ (bodyQ P rs X):=⟨λc a o v w h fn hr=>pk_body c a o v w (h fn hr)⟩
class Mixed (P:Program):Prop where h:P.follows .mixedOrders=true
class Rn (k n:Nat)(C:World→Prop)(L0 L:List SP)(l:List (Nat×Value))(X:Act→World→Prop)(b:outParam Bool)(c:outParam Prop)(l':outParam (List (Nat×Value)))(Y:outParam (Act→World→Prop)):Prop where
 rn:b=true→c→∀ {a W w},Fr a n l→St W w L→Hd C L0∧C w→(∀ a,Fr a n l'→Y a w)→X a w
class Way (v:Value)(x y:Code)(z:outParam Code):Prop where h:∃ b,v=.bool b∧z=if b then x else y
instance {x y}:Way (.bool true) x y x:=⟨true,rfl,rfl⟩
instance {x y}:Way (.bool false) x y y:=⟨false,rfl,rfl⟩
def readyB (os:List Oper)(m i:Nat):Bool:=match Region.ready .any os.toArray (lb os.toArray.size m) with | [j]=>Nat.beq j i | _=>false
theorem readyB_of {os:List Oper}{m i:Nat}(h:readyB os m i=true):Region.ready .any os.toArray (lb os.toArray.size m)=[i]:=by
 unfold readyB at h
 split at h
 · rename_i j e;rw[e,Nat.eq_of_beq_eq_true h]
 · cases h
def doneB (os:List Oper)(m:Nat):Bool:=(Region.ready .any os.toArray (lb os.toArray.size m)).isEmpty
section
variable {P:Program}{k n d i j m fuel:Nat}{C C2:World→Prop}{L0 L:List SP}{l l1 l':List (Nat×Value)}{X Y K:Act→World→Prop}{b b2:Bool}{c c1 c2:Prop}{os rest:List Oper}{Q:Exit→Act→World→Prop}{op:Go.Op}{v:Value}{ty:TypeId}{ps:String}{af:Array Edge}{g:Option (Nat×Bool)}{x y z:Code}{o:Operand}{need od:List Nat}
instance (priority:=1) Rn.stop:Rn 0 n C L0 L l X true True l X:=⟨λ_ _ _ _ _ ha _ _ h=>h _ ha⟩
instance Rn.oper [e:Gd os l g true][s:Sx P L l op c1 v][q:Del l d l1][r:Rn k n C L0 L ((d,v)::l1) K b2 c2 l' Y][p:AndC c1 c2 c] :
   Rn (k+1) n C L0 L l (StepK P os.toArray Q ⟨some d,op,ty,ps,af,g⟩ K) (okB d n l1&&b2) c l' Y:=⟨λhb hc a W w ha hs hx h=>by
 rw[Bool.and_eq_true]at hb
 obtain⟨h1,h2⟩:=p.h hc
 exact st_set (ha.del d) (e.h ha) (s.ex h1 ha (Lk.of hs)) hb.1 λa ha=>r.rn hb.2 h2 ha hs hx h⟩
instance Rn.off {jb}[e:Gd os l (some jb) false][q:Del l d l1][r:Rn k n C L0 L ((d,undef)::l1) K b2 c l' Y] :
   Rn (k+1) n C L0 L l (StepK P os.toArray Q ⟨some d,op,ty,ps,af,some jb⟩ K) (okB d n l1&&b2) c l' Y:=⟨λhb hc a W w ha hs hx h=>by
 rw[Bool.and_eq_true]at hb
 exact st_offU (ha.del d) (e.h ha) hb.1 λa ha=>r.rn hb.2 hc ha hs hx h⟩
instance Rn.cons {ops}{o:Oper}[r:Rn k n C L0 L l (StepK P ops Q o (wpList P ops Q rest)) b c l' Y]:Rn k n C L0 L l (wpList P ops Q (o::rest)) b c l' Y:=⟨λhb hc _ _ _ ha hs hx h=>(r.rn hb hc ha hs hx h)⟩
instance Rn.nil {ops}[r:Rn k n C L0 L l (Q .normal) b c l' Y]:Rn k n C L0 L l (wpList P ops Q []) b c l' Y:=⟨λhb hc _ _ _ ha hs hx h=>LN (r.rn hb hc ha hs hx h)⟩
instance Rn.seq [r:Rn k n C L0 L l (x.wp P (Exit.then (y.wp P Q) Q)) b c l' Y]:Rn (k+1) n C L0 L l ((Code.seq x y).wp P Q) b c l' Y:=⟨λhb hc _ _ _ ha hs hx h=>wp_seq (r.rn hb hc ha hs hx h)⟩
instance Rn.region {id}[r:Rn k n C L0 L l (wpList P os.toArray Q os) b c l' Y]:Rn k n C L0 L l ((Code.region id os.toArray false).wp P Q) b c l' Y:=⟨λhb hc _ _ _ ha hs hx h=>wp_region_lit (r.rn hb hc ha hs hx h)⟩
instance Rn.skip [r:Rn k n C L0 L l (Q .normal) b c l' Y]:Rn k n C L0 L l (Code.skip.wp P Q) b c l' Y:=⟨λhb hc _ _ _ ha hs hx h=>wp_skip (r.rn hb hc ha hs hx h)⟩
instance Rn.block [r:Rn k n C L0 L l (x.wp P (Exit.inBlock i Q)) b c l' Y]:Rn k n C L0 L l ((Code.block i x).wp P Q) b c l' Y:=⟨λhb hc _ _ _ ha hs hx h=>wp_block (r.rn hb hc ha hs hx h)⟩
instance Rn.exit [r:Rn k n C L0 L l (Q (.exit i)) b c l' Y]:Rn k n C L0 L l ((Code.exit i).wp P Q) b c l' Y:=⟨λhb hc _ _ _ ha hs hx h=>wp_exit (r.rn hb hc ha hs hx h)⟩
instance Rn.ret [r:Rn k n C L0 L l (Q .ret) b c l' Y]:Rn k n C L0 L l (Code.ret.wp P Q) b c l' Y:=⟨λhb hc _ _ _ ha hs hx h=>wp_ret (r.rn hb hc ha hs hx h)⟩
instance Rn.cond [e:Ev l o v][q:Way v x y z][r:Rn k n C L0 L l (z.wp P Q) b c l' Y]:Rn (k+1) n C L0 L l ((Code.cond o x y).wp P Q) b c l' Y:=⟨λhb hc _ _ _ ha hs hx h=>by
 obtain⟨t,rfl,rfl⟩:=q.h
 exact wp_cond (e.ev _ _ ha) (r.rn hb hc ha hs hx h)⟩
instance Rn.thenN [r:Rn k n C L0 L l (K) b c l' Y]:Rn k n C L0 L l (Exit.then K Q .normal) b c l' Y:=⟨λhb hc _ _ _ ha hs hx h=>TN (r.rn hb hc ha hs hx h)⟩
instance Rn.thenR [r:Rn k n C L0 L l (Q .ret) b c l' Y]:Rn k n C L0 L l (Exit.then K Q .ret) b c l' Y:=⟨λhb hc _ _ _ ha hs hx h=>TR (r.rn hb hc ha hs hx h)⟩
instance Rn.thenE [r:Rn k n C L0 L l (Q (.exit i)) b c l' Y]:Rn k n C L0 L l (Exit.then K Q (.exit i)) b c l' Y:=⟨λhb hc _ _ _ ha hs hx h=>TE (r.rn hb hc ha hs hx h)⟩
instance Rn.blkN [r:Rn k n C L0 L l (Q .normal) b c l' Y]:Rn k n C L0 L l (Exit.inBlock i Q .normal) b c l' Y:=⟨λhb hc _ _ _ ha hs hx h=>BN (r.rn hb hc ha hs hx h)⟩
instance Rn.blkR [r:Rn k n C L0 L l (Q .ret) b c l' Y]:Rn k n C L0 L l (Exit.inBlock i Q .ret) b c l' Y:=⟨λhb hc _ _ _ ha hs hx h=>BR (r.rn hb hc ha hs hx h)⟩
instance (priority:=high) Rn.blkE [r:Rn k n C L0 L l (Q .normal) b c l' Y]:Rn k n C L0 L l (Exit.inBlock i Q (.exit i)) b c l' Y:=⟨λhb hc _ _ _ ha hs hx h=>blk_e (r.rn hb hc ha hs hx h)⟩
instance Rn.blkF [r:Rn k n C L0 L l (Q (.exit j)) b c l' Y]:Rn k n C L0 L l (Exit.inBlock i Q (.exit j)) (!Nat.beq j i&&b) c l' Y:=⟨λhb hc _ _ _ ha hs hx h=>by
 rw[Bool.and_eq_true,Bool.not_eq_true']at hb
 exact blk_ne hb.1 (r.rn hb.2 hc ha hs hx h)⟩
variable {t u r3:Nat}{v2 v3 zv:Value}{vs cs:List Value}{R:Ending→World→Prop}{bb off e sz by':Nat}{RR:List SP}{dd:TypeDesc}
instance Rn.end0:Rn 0 n C L0 L l (bodyQ P [] R .normal) true True l (RetQ R (.tuple #[])):=⟨λ_ _ _ _ _ ha _ _ h _ hr=>Go.Proofs.YtdilfdkendjjhaaGreat.end0 ha hr (h _ ha)⟩
instance Rn.ret0:Rn 0 n C L0 L l (bodyQ P [] R .ret) true True l (RetQ R (.tuple #[])):=⟨λ_ _ _ _ _ ha _ _ h _ hr=>Go.Proofs.YtdilfdkendjjhaaGreat.ret0 ha hr (h _ ha)⟩
instance Rn.ret1 [Get l t v]:Rn 0 n C L0 L l (bodyQ P [.tmp t] R .ret) true True l (RetQ R v):=⟨λ_ _ _ _ _ ha _ _ h _ hr=>Go.Proofs.YtdilfdkendjjhaaGreat.ret1 ha hr (h _ ha)⟩
instance Rn.ret2 [Get l t v] [Get l u v2]:Rn 0 n C L0 L l (bodyQ P [.tmp t,.tmp u] R .ret) true True l (RetQ R (.tuple #[v,v2])):=⟨λ_ _ _ _ _ ha _ _ h _ hr=>Go.Proofs.YtdilfdkendjjhaaGreat.ret2 ha hr (h _ ha)⟩
instance Rn.ret3 [Get l t v] [Get l u v2] [Get l r3 v3]:Rn 0 n C L0 L l (bodyQ P [.tmp t,.tmp u,.tmp r3] R .ret) true True l (RetQ R (.tuple #[v,v2,v3])):=⟨λ_ _ _ _ _ ha _ _ h _ hr=>Go.Proofs.YtdilfdkendjjhaaGreat.ret3 ha hr (h _ ha)⟩
instance Rn.retCN [Get l t (.pointer (some ⟨bb,off,none⟩))][q:Und P u dd][p2:OneD dd false][hi:TI P u zv sz by'] [Blk L bb e cs RR] [SubC cs off sz vs][p:LenEq vs sz]:Rn 0 n C L0 L l (bodyQ P [.cell t u] R .ret) true True l (RetQ R (.agg vs.toArray)):=⟨λ_ _ _ _ _ ha hs _ h _ hr =>
 Go.Proofs.YtdilfdkendjjhaaGreat.retC1 ha hr (run_loadN q.h p2.h (by rw[p.h];exact hi) (hs.rdN sz)) (h _ ha)⟩
instance Rn.retC2N [Get l t (.pointer (some ⟨bb,off,none⟩))][q:Und P u dd][p2:OneD dd false][hi:TI P u zv sz by'] [Blk L bb e cs RR] [SubC cs off sz vs][p:LenEq vs sz] [Get l r3 v2]:Rn 0 n C L0 L l (bodyQ P [.cell t u,.tmp r3] R .ret) true True l (RetQ R (.tuple #[.agg vs.toArray,v2])):=⟨λ_ _ _ _ _ ha hs _ h _ hr =>
 Go.Proofs.YtdilfdkendjjhaaGreat.retC2 ha hr (run_loadN q.h p2.h (by rw[p.h];exact hi) (hs.rdN sz)) (h _ ha)⟩
instance Rn.cn [r:Rn k n C L0 L l K b c l' Y]:Rn k n C L0 L l (CN b2 C K) b c l' Y:=⟨λhb hc _ _ _ ha hs hx h=>⟨λ_=>hx.2,r.rn hb hc ha hs hx h⟩⟩
instance (priority:=low) Rn.cnF [r:Rn k n C L0 L l K b c l' Y]:Rn k n C L0 L l (CN b2 C2 K) (!b2&&b) c l' Y:=⟨λhb hc _ _ _ ha hs hx h=>by
 rw[Bool.and_eq_true,Bool.not_eq_true']at hb
 exact⟨λe=>(by rw[hb.1]at e;cases e),r.rn hb.2 hc ha hs hx h⟩⟩
instance Rn.one {o}[p:OpAt os i o][r:Rn k n C L0 L l (StepK P os.toArray Q o (CN (need.contains i) C2 (wpO P os.toArray Q C2 need od fuel (bitOn m i)))) b c l' Y] :
   Rn k n C L0 L l (wpO P os.toArray Q C2 need ((i+1000)::od) (fuel+1) m) (readyB os m i&&b) c l' Y:=⟨λhb hc a W w ha hs hx h=>by
 rw[Bool.and_eq_true]at hb
 show wpO P os.toArray Q C2 need (i::od) (fuel+1) m a w
 exact D1 (by rw[List.getElem?_toArray];exact p.h) (r.rn hb.2 hc ha hs hx h) (readyB_of hb.1)⟩
instance (priority:=low) Rn.pure [p:OpAt os i ⟨some d,op,ty,ps,af,g⟩][pk:PkQ Q][e:Gd os l g true][s:Sx P [] l op c1 v][q:Del l d l1][r:Rn k n C L0 L ((d,v)::l1) (wpO P os.toArray Q C2 need od fuel (bitOn m i)) b2 c2 l' Y][qq:AndC c1 c2 c] :
   Rn (k+1) n C L0 L l (wpO P os.toArray Q C2 need (i::od) (fuel+1) m) (takeB os.toArray (lb os.toArray.size m) need true i&&!need.contains i&&okB d n l1&&b2) c l' Y:=⟨λhb hc a W w ha hs hx h=>by
 simp only[Bool.and_eq_true,Bool.not_eq_true']at hb
 obtain⟨h1,h2⟩:=qq.h hc
 exact nt_pure (lb_on _ _ _) (by rw[List.getElem?_toArray];exact p.h) hb.1.1.1 hb.1.1.2 pk.h (ha.del d) (e.h ha) (λw=>s.ex h1 ha (Lk.nil w)) hb.1.2 λa ha=>r.rn hb.2 h2 ha hs hx h⟩
instance (priority:=low) Rn.pureOff {jb}[p:OpAt os i ⟨some d,op,ty,ps,af,some jb⟩][pk:PkQ Q][e:Gd os l (some jb) false][q:Del l d l1][r:Rn k n C L0 L ((d,undef)::l1) (wpO P os.toArray Q C2 need od fuel (bitOn m i)) b2 c l' Y] :
   Rn (k+1) n C L0 L l (wpO P os.toArray Q C2 need (i::od) (fuel+1) m) (takeB os.toArray (lb os.toArray.size m) need true i&&!need.contains i&&okB d n l1&&b2) c l' Y:=⟨λhb hc a W w ha hs hx h=>by
 simp only[Bool.and_eq_true,Bool.not_eq_true']at hb
 exact nt_offU (lb_on _ _ _) (by rw[List.getElem?_toArray];exact p.h) hb.1.1.1 hb.1.1.2 pk.h (ha.del d) (e.h ha) hb.1.2 λa ha=>r.rn hb.2 hc ha hs hx h⟩
instance (priority:=high) Rn.held [p:OpAt os i ⟨some d,op,ty,ps,af,g⟩][pk:PkQ Q][e:Gd os l g true][s:Sx P L0 l op c1 v][q:Del l d l1][r:Rn k n C L0 L ((d,v)::l1) (wpO P os.toArray Q C need od fuel (bitOn m i)) b2 c2 l' Y][qq:AndC c1 c2 c] :
   Rn (k+1) n C L0 L l (wpO P os.toArray Q C need ((i+3000)::od) (fuel+1) m) (takeB os.toArray (lb os.toArray.size m) need false i&&okB d n l1&&b2) c l' Y:=⟨λhb hc a W w ha hs hx h=>by
 simp only[Bool.and_eq_true]at hb
 obtain⟨h1,h2⟩:=qq.h hc
 exact nt_held (lb_on _ _ _) (by rw[List.getElem?_toArray];exact p.h) hb.1.1 pk.h (ha.del d) (e.h ha) (λw hw=>s.ex h1 ha (hx.1 w hw)) hx.2 hb.1.2 λa ha=>r.rn hb.2 h2 ha hs hx h⟩
instance (priority:=high) Rn.heldOff {jb}[p:OpAt os i ⟨some d,op,ty,ps,af,some jb⟩][pk:PkQ Q][e:Gd os l (some jb) false][q:Del l d l1][r:Rn k n C L0 L ((d,undef)::l1) (wpO P os.toArray Q C need od fuel (bitOn m i)) b2 c l' Y] :
   Rn (k+1) n C L0 L l (wpO P os.toArray Q C need ((i+3000)::od) (fuel+1) m) (takeB os.toArray (lb os.toArray.size m) need false i&&okB d n l1&&b2) c l' Y:=⟨λhb hc a W w ha hs hx h=>by
 simp only[Bool.and_eq_true]at hb
 exact nt_offUH (lb_on _ _ _) (by rw[List.getElem?_toArray];exact p.h) hb.1.1 pk.h (ha.del d) (e.h ha) hx.2 hb.1.2 λa ha=>r.rn hb.2 hc ha hs hx h⟩
instance Rn.done [r:Rn k n C L0 L l (Q .normal) b c l' Y]:Rn k n C L0 L l (wpO P os.toArray Q C2 need [] fuel m) (doneB os m&&b) c l' Y:=⟨λhb hc _ _ _ ha hs hx h=>by
 rw[Bool.and_eq_true]at hb
 exact DD (r.rn hb.2 hc ha hs hx h) (List.isEmpty_iff.1 hb.1)⟩
class Zp (vs:List Value)(ks:List Nat)(l:outParam (List (Nat×Value))):Prop where h:ks.zip vs=l
instance Zp.nil {ks}:Zp [] ks []:=⟨by simp⟩
instance Zp.cons {v vs k ks l}[h:Zp vs ks l]:Zp (v::vs) (k::ks) ((k,v)::l):=⟨by rw[List.zip_cons_cons,h.h]⟩
class App (xs ys:List Value)(zs:outParam (List Value)):Prop where h:xs++ys=zs
instance App.nil {ys}:App [] ys ys:=⟨rfl⟩
instance App.cons {x xs ys zs}[h:App xs ys zs]:App (x::xs) ys (x::zs):=⟨by rw[List.cons_append,h.h]⟩
instance Zp.app {xs ys zs ks l}[q:App xs ys zs][h:Zp zs ks l]:Zp (xs++ys) ks l:=⟨by rw[q.h];exact h.h⟩
class PutD (n:Nat)(l:List (Nat×Value))(d:Option Tmp)(b:outParam Bool)(F:outParam (Value→List (Nat×Value))):Prop where h:b=true→∀ {a v},Fr a n l→Fr (a.put d v) n (F v)
instance PutD.some {n l d l1}[q:Del l d l1]:PutD n l (some d) (okB d n l1) (λv=>(d,v)::l1):=⟨λh _ v ha=>(ha.del d).put h v⟩
class Cee (P:Program)(l:List (Nat×Value))(ce:Callee)(args:List Operand)(f:outParam Nat)(vs:outParam (List Value)):Prop where
 h:callable P f=true→∀ {a n w},Fr a n l→∀ {dst tys ty ps af g},(execOp a.eval ⟨dst,.call ⟨ce,args.toArray,tys⟩,ty,ps,af,g⟩).run P w=.ok (.enter f vs.toArray) w
instance Cee.fn {P l f args vs}[ev:EvL l args vs]:Cee P l (.value (.func f)) args f vs:=⟨λhb a n w ha _ _ _ _ _ _=>by
 have h2:a.eval (.func f)=.func (.func f) #[] #[]:=rfl
 simp[execOp,resolve,h2,Deferred.ofValue,invoke,ev.ev a n ha,run_callFunc hb]⟩
instance Cee.fv {P l x f us args vs zs}[ex:Ev l (.tmp x) (.func (.func f) #[] (List.toArray us))][ev:EvL l args vs][q:App vs us zs]:Cee P l (.value (.tmp x)) args f zs:=⟨λhb a n w ha _ _ _ _ _ _=>by
 rw[← q.h];simp[execOp,resolve,ex.ev a n ha,Deferred.ofValue,invoke,ev.ev a n ha,run_callFunc hb]⟩
class OneL (vs:List Value):Prop where h:∀ v∈vs,v.oneCell'=true
instance OneL.nil:OneL []:=⟨by simp⟩
instance OneL.ints {k m g}:OneL (ints k m g):=⟨ints_one⟩
class One (v:Value):Prop where h:v.oneCell'=true
instance {k i}:One (.int k i):=⟨rfl⟩
instance {b}:One (.bool b):=⟨rfl⟩
instance {s}:One (.string s):=⟨rfl⟩
instance {p}:One (.pointer p):=⟨rfl⟩
instance {p n c}:One (.slice p n c):=⟨rfl⟩
instance {t v}:One (.iface t v):=⟨rfl⟩
instance OneL.cons {v vs}[h:One v][k:OneL vs]:OneL (v::vs):=⟨λx hx=>by
 rcases List.mem_cons.1 hx with rfl | hx
 · exact h.h
 · exact k.h x hx⟩
variable {a:Act}{w W:World}{l2:List (Nat×Value)}{p q:Prop}{bp:Bool}{F:Value→List (Nat×Value)}{dst:Option Tmp}{ce:Callee}{args:List Operand}{f:Nat}{tys:Array TypeId}{xo yo:Operand}
abbrev Top:World→Prop:=λ_=>True
theorem topx {w:World}:Hd Top []∧Top w:=⟨Hd.any _,trivial⟩
theorem EN {fn:Func}{cd:Code}{rs:List ResultVar}{X:Ending→World→Prop}(hf:P.funcs[f]?=some fn)(hn:fn.ntmps=m)(hb:fn.body=some cd)(hr:fn.results=rs.toArray)[z:Zp vs [0,1,2,3,4,5,6,7,8,9,10,11] l](h:∀ a,Fr a m l→cd.wp P (bodyQ P rs X) a w)
   (hm:(Nat.ble vs.length m&&Nat.ble vs.length 12)=true:=by rfl):Calls P f vs.toArray w X:=by
 rw[Bool.and_eq_true]at hm
 refine calls_enter hf hb hn (Nat.le_of_ble_eq_true hm.1) λa ha=>wp_mono (h a ?_) λ_ _ _ hq=>hq fn hr
 have h12:=Nat.le_of_ble_eq_true hm.2
 rw[← z.h]
 have e:((List.range vs.length).zip vs)=[0,1,2,3,4,5,6,7,8,9,10,11].zip vs:=by
   have h3:[0,1,2,3,4,5,6,7,8,9,10,11]=List.range (vs.length+(12-vs.length)):=by rw[show vs.length+(12-vs.length)=12 from by omega];rfl
   rw[h3,List.range_add]
   have h4:=List.zip_append (l₁:=List.range vs.length) (l₂:=vs) (r₁:=(List.range (12-vs.length)).map (vs.length+·)) (r₂:=[]) (by simp)
   rw[List.append_nil]at h4
   rw[h4];simp
 rw[← e];exact ha
theorem RN (k:Nat)(ha:Fr a n l)(hs:St W w L)[r:Rn k n Top [] L l X b c l' Y](h:∀ a,Fr a n l'→Y a w)(hb:b=true:=by kernel_rfl)(hc:c:=by (repeat' refine And.intro ?_ ?_) <;> first | exact True.intro | omega | exact (rfl:_=_) | decide):X a w:=r.rn hb hc ha hs topx h
theorem RH (k:Nat)(ha:Fr a n l)(hs:St W w L)(hH:Hd C L0)(hC:C w)[r:Rn k n C L0 L l X b c l' Y](h:∀ a,Fr a n l'→Y a w)(hb:b=true:=by kernel_rfl)(hc:c:=by (repeat' refine And.intro ?_ ?_) <;> first | exact True.intro | omega | exact (rfl:_=_) | decide):X a w:=r.rn hb hc ha hs ⟨hH,hC⟩ h
theorem RT (k:Nat)(ha:Fr a n l)(hs:St W w L)[r:Rn k n Top [] L l X b c l' (RetQ R v)](h:R (.returned v) w)(hb:b=true:=by kernel_rfl)(hc:c:=by (repeat' refine And.intro ?_ ?_) <;> first | exact True.intro | omega | exact (rfl:_=_) | decide):X a w:=r.rn hb hc ha hs topx λ_ _=>h
theorem IF (k:Nat)(ha:Fr a n l)(hs:St W w L)[r:Rn k n Top [] L l X b c l1 ((Code.cond (.tmp t) x y).wp P Q)][g1:Get l1 t (.bool b2)][g2:Del l1 t l2][g3:BP b2 p q]
   (ht:p→∀ a,Fr a n ((t,.bool true)::l2)→x.wp P Q a w) (hf:q→∀ a,Fr a n ((t,.bool false)::l2)→y.wp P Q a w) (hb:b=true:=by kernel_rfl) (hc:c:=by (repeat' refine And.intro ?_ ?_) <;> first | exact True.intro | omega | exact (rfl:_=_) | decide):X a w :=
 r.rn hb hc ha hs topx λa ha=>ha.by (s:=t) (λh ha=>wp_ifT ha (ht h _ ha)) (λh ha=>wp_ifF ha (hf h _ ha))
theorem IFR (k:Nat)(ha:Fr a n l)(hs:St W w L)[r:Rn k n Top [] L l X b c l1 ((Code.cond (.tmp t) x y).wp P Q)][g1:Get l1 t (.bool b2)][g2:Del l1 t l2]
   (ht:b2=true→∀ a,Fr a n ((t,.bool true)::l2)→x.wp P Q a w) (hf:b2=false→∀ a,Fr a n ((t,.bool false)::l2)→y.wp P Q a w) (hb:b=true:=by kernel_rfl) (hc:c:=by (repeat' refine And.intro ?_ ?_) <;> first | exact True.intro | omega | exact (rfl:_=_) | decide):X a w :=
 r.rn hb hc ha hs topx λa ha=>ha.bool (s:=t) (λh ha=>wp_ifT ha (ht h _ ha)) (λh ha=>wp_ifF ha (hf h _ ha))
theorem BY (k:Nat)(ha:Fr a n l)(hs:St W w L)[r:Rn k n Top [] L l X b c l1 (StepK P os.toArray Q ⟨dst,op,ty,ps,af,some (j,bp)⟩ K)][d1:Dst os j t][g1:Get l1 t (.bool b2)][g2:Del l1 t l2][g3:BP b2 p q]
   (ht:p→∀ a,Fr a n ((t,.bool true)::l2)→StepK P os.toArray Q ⟨dst,op,ty,ps,af,some (j,bp)⟩ K a w) (hf:q→∀ a,Fr a n ((t,.bool false)::l2)→StepK P os.toArray Q ⟨dst,op,ty,ps,af,some (j,bp)⟩ K a w)
   (hb:b=true:=by kernel_rfl) (hc:c:=by (repeat' refine And.intro ?_ ?_) <;> first | exact True.intro | omega | exact (rfl:_=_) | decide):X a w :=
 r.rn hb hc ha hs topx λa ha=>ha.by (s:=t) (λh ha=>ht h _ ha) (λh ha=>hf h _ ha)
theorem st_calls (ha:Fr a n l)[e:Gd os l g true][ev:Cee P l ce args f vs][pd:PutD n l dst bp F]{X:Ending→World→Prop}(hc:Calls P f vs.toArray w X)(hbp:bp=true)(hf:callable P f=true)
   (h:∀ e w',X e w'→∃ v,e=.returned v∧∀ a',Fr a' n (F v)→K a' w'):StepK P os.toArray Q ⟨dst,.call ⟨ce,args.toArray,tys⟩,ty,ps,af,g⟩ K a w :=
 st_enter (e.h ha) (ev.h hf ha) hc λe w' hx=>let ⟨v,he,hv⟩:=h e w' hx;⟨v,he,hv _ (pd.h hbp ha)⟩
section
variable {α β γ:Type}{S0:World→Prop}{S1:α→World→Prop}{S2:α→β→World→Prop}{S3:α→β→γ→World→Prop}{v1:α→Value}{w2:α→β→Value}{w3:α→β→γ→Value}
theorem CL (k:Nat)(ha:Fr a n l)(hs:St W w L)[r:Rn k n Top [] L l X b c l1 (StepK P os.toArray Q ⟨dst,.call ⟨ce,args.toArray,tys⟩,ty,ps,af,g⟩ K)][e:Gd os l1 g true][ev:Cee P l1 ce args f vs][pd:PutD n l1 dst bp F]
   (hq:Calls P f vs.toArray w λr w'=>r=.returned v∧S0 w') (h:∀ a w,Fr a n (F v)→S0 w→K a w) (hb:(b&&bp)=true:=by kernel_rfl) (hf:callable P f=true:=by kernel_rfl) (hc:c:=by (repeat' refine And.intro ?_ ?_) <;> first | exact True.intro | omega | exact (rfl:_=_) | decide):X a w:=by
 simp only[Bool.and_eq_true]at hb
 exact r.rn hb.1 hc ha hs topx λa ha=>st_calls ha hq hb.2 hf λe w' ⟨h1,h2⟩=>⟨_,h1,λa ha=>h a w' ha h2⟩
theorem CL1 (k:Nat)(ha:Fr a n l)(hs:St W w L)[r:Rn k n Top [] L l X b c l1 (StepK P os.toArray Q ⟨dst,.call ⟨ce,args.toArray,tys⟩,ty,ps,af,g⟩ K)][e:Gd os l1 g true][ev:Cee P l1 ce args f vs][pd:PutD n l1 dst bp F]
   (hq:Calls P f vs.toArray w λr w'=>∃ x,r=.returned (v1 x)∧S1 x w') (h:∀ x a w,Fr a n (F (v1 x))→S1 x w→K a w) (hb:(b&&bp)=true:=by kernel_rfl) (hf:callable P f=true:=by kernel_rfl) (hc:c:=by (repeat' refine And.intro ?_ ?_) <;> first | exact True.intro | omega | exact (rfl:_=_) | decide):X a w:=by
 simp only[Bool.and_eq_true]at hb
 exact r.rn hb.1 hc ha hs topx λa ha=>st_calls ha hq hb.2 hf λe w' ⟨x,h1,h2⟩=>⟨_,h1,λa ha=>h x a w' ha h2⟩
theorem CL2 (k:Nat)(ha:Fr a n l)(hs:St W w L)[r:Rn k n Top [] L l X b c l1 (StepK P os.toArray Q ⟨dst,.call ⟨ce,args.toArray,tys⟩,ty,ps,af,g⟩ K)][e:Gd os l1 g true][ev:Cee P l1 ce args f vs][pd:PutD n l1 dst bp F]
   (hq:Calls P f vs.toArray w λr w'=>∃ x y,r=.returned (w2 x y)∧S2 x y w') (h:∀ x y a w,Fr a n (F (w2 x y))→S2 x y w→K a w) (hb:(b&&bp)=true:=by kernel_rfl) (hf:callable P f=true:=by kernel_rfl) (hc:c:=by (repeat' refine And.intro ?_ ?_) <;> first | exact True.intro | omega | exact (rfl:_=_) | decide):X a w:=by
 simp only[Bool.and_eq_true]at hb
 exact r.rn hb.1 hc ha hs topx λa ha=>st_calls ha hq hb.2 hf λe w' ⟨x,y,h1,h2⟩=>⟨_,h1,λa ha=>h x y a w' ha h2⟩
theorem CL3 (k:Nat)(ha:Fr a n l)(hs:St W w L)[r:Rn k n Top [] L l X b c l1 (StepK P os.toArray Q ⟨dst,.call ⟨ce,args.toArray,tys⟩,ty,ps,af,g⟩ K)][e:Gd os l1 g true][ev:Cee P l1 ce args f vs][pd:PutD n l1 dst bp F]
   (hq:Calls P f vs.toArray w λr w'=>∃ x y z,r=.returned (w3 x y z)∧S3 x y z w') (h:∀ x y z a w,Fr a n (F (w3 x y z))→S3 x y z w→K a w) (hb:(b&&bp)=true:=by kernel_rfl) (hf:callable P f=true:=by kernel_rfl) (hc:c:=by (repeat' refine And.intro ?_ ?_) <;> first | exact True.intro | omega | exact (rfl:_=_) | decide):X a w:=by
 simp only[Bool.and_eq_true]at hb
 exact r.rn hb.1 hc ha hs topx λa ha=>st_calls ha hq hb.2 hf λe w' ⟨x,y,z,h1,h2⟩=>⟨_,h1,λa ha=>h x y z a w' ha h2⟩
end
theorem CLX (k:Nat)(ha:Fr a n l)(hs:St W w L)[r:Rn k n Top [] L l X b c l1 (StepK P os.toArray Q ⟨dst,.call ⟨ce,args.toArray,tys⟩,ty,ps,af,g⟩ K)][e:Gd os l1 g true][ev:Cee P l1 ce args f vs][pd:PutD n l1 dst bp F]{Z:Ending→World→Prop}
   (hq:Calls P f vs.toArray w Z) (h:∀ e w,Z e w→∃ v,e=.returned v∧∀ a,Fr a n (F v)→K a w) (hb:(b&&bp)=true:=by kernel_rfl) (hf:callable P f=true:=by kernel_rfl) (hc:c:=by (repeat' refine And.intro ?_ ?_) <;> first | exact True.intro | omega | exact (rfl:_=_) | decide):X a w:=by
 simp only[Bool.and_eq_true]at hb
 exact r.rn hb.1 hc ha hs topx λa ha=>st_calls ha hq hb.2 hf h
variable {cs cs':List Value}{eT:TypeId}{S:List SP}
theorem ST (k:Nat)(ha:Fr a n l)(hs:St W w L)[r:Rn k n Top [] L l X b c l1 (StepK P os.toArray Q ⟨none,.store t xo yo,ty,ps,af,g⟩ K)][eg:Gd os l1 g true][ev:Ev l1 xo (.pointer (some ⟨bb,off,none⟩))][ew:Ev l1 yo v][hi:TI P t zv 1 by'][kc:Cells v [v]][o1:One v]
   [kb:Blk L bb eT cs S] [sc:SetC cs off v cs'] (h:∀ a w,Fr a n l1→St W w (blk bb eT cs'::S)→K a w) (hb:b=true:=by kernel_rfl) (hc:c:=by (repeat' refine And.intro ?_ ?_) <;> first | exact True.intro | omega | exact (rfl:_=_) | decide) (hlt:off<cs.length:=by first | exact Nat.lt_of_ble_eq_true rfl | omega | simp):X a w :=
 r.rn hb hc ha hs topx λa ha=>st_store ha (eg.h ha) hs hi o1.h hlt h
theorem SA (k:Nat)(ha:Fr a n l)(hs:St W w L)[r:Rn k n Top [] L l X b c l1 (StepK P os.toArray Q ⟨none,.store t xo yo,ty,ps,af,g⟩ K)][eg:Gd os l1 g true][ev:Ev l1 xo (.pointer (some ⟨bb,0,none⟩))][ew:Ev l1 yo v][hi:TI P t zv m by'][kc:Cells v vs][le:LenEq vs m][o1:OneL vs]
   [kb:Blk L bb eT cs S] [le2:LenEq cs m] (h:∀ a w,Fr a n l1→St W w (blk bb eT vs::S)→K a w) (hb:b=true:=by kernel_rfl) (hc:c:=by (repeat' refine And.intro ?_ ?_) <;> first | exact True.intro | omega | exact (rfl:_=_) | decide):X a w :=
 r.rn hb hc ha hs topx λa ha=>st_storeAll ha (eg.h ha) hs (by rw[le.h];exact hi) o1.h (by rw[le.h,le2.h]) h
theorem AL (k:Nat)(ha:Fr a n l)(hs:St W w L)[r:Rn k n Top [] L l X b c l1 (StepK P os.toArray Q ⟨some d,.alloc t,ty,ps,af,g⟩ K)][eg:Gd os l1 g true][hi:TI P t zv m by'][kc:Cells zv vs][q:Del l1 d l2]
   (h:∀ b a w',Fr a n ((d,.pointer (some ⟨b,0,none⟩))::l2)→St W w' (blk b t vs::L)→K a w') (hb:(b&&okB d n l2)=true:=by kernel_rfl) (hc:c:=by (repeat' refine And.intro ?_ ?_) <;> first | exact True.intro | omega | exact (rfl:_=_) | decide):X a w:=by
 rw[Bool.and_eq_true]at hb
 exact r.rn hb.1 hc ha hs topx λa ha=>st_alloc (ha.del d) (eg.h ha) hs hi hb.2 λb a w ha hs _=>h b a w ha hs
theorem BX (k:Nat)(ha:Fr a n l)(hs:St W w L)[r:Rn k n Top [] L l X b c l1 (StepK P os.toArray Q ⟨some d,.box t xo,ty,ps,af,g⟩ K)][eg:Gd os l1 g true][ev:Ev l1 xo v][kc:Cells v vs][q:Del l1 d l2]
   (h:∀ b a w',Fr a n ((d,.pointer (some ⟨b,0,none⟩))::l2)→St W w' (blk b t vs::L)→K a w') (hb:(b&&okB d n l2)=true:=by kernel_rfl) (hc:c:=by (repeat' refine And.intro ?_ ?_) <;> first | exact True.intro | omega | exact (rfl:_=_) | decide):X a w:=by
 rw[Bool.and_eq_true]at hb
 refine r.rn hb.1 hc ha hs topx λa ha=>?_
 have:=ev.ev a n ha
 refine st_set (v:=.pointer (some ⟨w.heap.size,0,none⟩)) (w':=w.alloc (.cells vs.toArray t)) (ha.del d) (eg.h ha) ?_ hb.2 (λa' ha'=>h _ _ _ ha' (hs.alloc _))
 simp[execOp,Instr.box,this,newVar,newRow,newObj,Sem.run,kc.h,Sem.run_bind]
theorem SX (k:Nat)(ha:Fr a n l)(hs:St W w L)[r:Rn k n Top [] L l X b c l1 (StepK P os.toArray Q ⟨some d,op,ty,ps,af,g⟩ K)][eg:Gd os l1 g true][s:Sx P L l1 op c1 v][q:Del l1 d l2](h1:c1)
   (h:∀ a,Fr a n ((d,v)::l2)→K a w) (hb:(b&&okB d n l2)=true:=by kernel_rfl) (hc:c:=by (repeat' refine And.intro ?_ ?_) <;> first | exact True.intro | omega | exact (rfl:_=_) | decide):X a w:=by
 rw[Bool.and_eq_true]at hb
 exact r.rn hb.1 hc ha hs topx λa ha=>st_set (ha.del d) (eg.h ha) (s.ex h1 ha (Lk.of hs)) hb.2 h
theorem QP [p:OpAt os i ⟨some d,op,ty,ps,af,g⟩][pk:PkQ Q][e:Gd os l g true][q:Del l d l1](ha:Fr a n l)(hr:∀ w,(execOp a.eval ⟨some d,op,ty,ps,af,g⟩).run P w=.ok (.value v) w)
   (h:∀ a,Fr a n ((d,v)::l1)→wpO P os.toArray Q C2 need od fuel (bitOn m i) a w) (hb:(takeB os.toArray (lb os.toArray.size m) need true i&&!need.contains i&&okB d n l1)=true:=by kernel_rfl):wpO P os.toArray Q C2 need (i::od) (fuel+1) m a w:=by
 simp only[Bool.and_eq_true,Bool.not_eq_true']at hb
 exact nt_pure (lb_on _ _ _) (by rw[List.getElem?_toArray];exact p.h) hb.1.1 hb.1.2 pk.h (ha.del d) (e.h ha) hr hb.2 h
theorem QH [p:OpAt os i ⟨some d,op,ty,ps,af,g⟩][pk:PkQ Q][e:Gd os l g true][q:Del l d l1](ha:Fr a n l)(hr:∀ w,C2 w→(execOp a.eval ⟨some d,op,ty,ps,af,g⟩).run P w=.ok (.value v) w)(hC:C2 w)
   (h:∀ a,Fr a n ((d,v)::l1)→wpO P os.toArray Q C2 need od fuel (bitOn m i) a w) (hb:(takeB os.toArray (lb os.toArray.size m) need false i&&okB d n l1)=true:=by kernel_rfl):wpO P os.toArray Q C2 need ((i+3000)::od) (fuel+1) m a w:=by
 simp only[Bool.and_eq_true]at hb
 exact nt_held (lb_on _ _ _) (by rw[List.getElem?_toArray];exact p.h) hb.1 pk.h (ha.del d) (e.h ha) hr hC hb.2 h
theorem DWC (k:Nat)(C:World→World→Prop)(need od:List Nat)(ha:Fr a n l)(hs:St W w L)[r:Rn k n Top [] L l X b c l1 ((Code.region i os.toArray true).wp P Q)][pk:PkQ Q][mx:Mixed P]
   (h:∀ a w,Fr a n l1→St W w L→Hd (C w) []→wpO P os.toArray Q (C w) need od os.length 0 a w) (hb:b=true:=by kernel_rfl) (hc:c:=by (repeat' refine And.intro ?_ ?_) <;> first | exact True.intro | omega | exact (rfl:_=_) | decide):X a w :=
 r.rn hb hc ha hs topx λa ha=>Go.Proofs.YtdilfdkendjjhaaGreat.DW (C w.drew) need od mx.h pk.h (λ_=>h a _ ha hs.drew (Hd.any _)) List.size_toArray
theorem DWG (k:Nat)(C:World→Prop)(need od:List Nat)(ha:Fr a n l)(hs:St W w L)[r:Rn k n Top [] L l X b c l1 ((Code.region i os.toArray true).wp P Q)][pk:PkQ Q][mx:Mixed P]
   (h:∀ a,Fr a n l1→wpO P os.toArray Q C need od os.length 0 a w.drew) (hb:b=true:=by kernel_rfl) (hc:c:=by (repeat' refine And.intro ?_ ?_) <;> first | exact True.intro | omega | exact (rfl:_=_) | decide):X a w :=
 r.rn hb hc ha hs topx λa ha=>Go.Proofs.YtdilfdkendjjhaaGreat.DW C need od mx.h pk.h (λ_=>h a ha) List.size_toArray
theorem DWO (k:Nat)(need od:List Nat)(ha:Fr a n l)(hs:St W w L)[r:Rn k n Top [] L l X b c l1 ((Code.region i os.toArray true).wp P Q)][pk:PkQ Q][mx:Mixed P]
   (h:∀ a w,Fr a n l1→St W w L→Hd (Old w) L→Old w w→wpO P os.toArray Q (Old w) need od os.length 0 a w) (hb:b=true:=by kernel_rfl) (hc:c:=by (repeat' refine And.intro ?_ ?_) <;> first | exact True.intro | omega | exact (rfl:_=_) | decide):X a w :=
 r.rn hb hc ha hs topx λa ha=>Go.Proofs.YtdilfdkendjjhaaGreat.DW (Old w.drew) need od mx.h pk.h (λ_=>h a _ ha hs.drew (Hd.old hs.drew) (Old.refl _)) List.size_toArray
end
section
variable {P:Program}{ops:Array Oper}{Q:Exit→Act→World→Prop}{C:World→Prop}{need:List Nat}{fuel m:Nat}{a:Act}{w:World}
def BrN (P:Program)(ops:Array Oper)(Q:Exit→Act→World→Prop)(C:World→Prop)(need:List Nat)(fuel m:Nat)(a:Act)(w:World):List (Nat×List Nat)→Prop
 | []=>True
 | (i,od)::r=>(∃ o,ops[i]?=some o∧StepK P ops Q o (CN (need.contains i) C (wpO P ops Q C need od fuel (bitOn m i))) a w)∧BrN P ops Q C need fuel m a w r
theorem BrN.get:∀ {l:List (Nat×List Nat)} {i:Nat},BrN P ops Q C need fuel m a w l→i∈l.map (·.1)→∃ (o:Oper) (od:List Nat),ops[i]?=some o∧StepK P ops Q o (CN (need.contains i) C (wpO P ops Q C need od fuel (bitOn m i))) a w
 | [],_,_,h=>by simp at h
 | (j,od)::r,i,⟨⟨o,h1,h2⟩,h3⟩,h=>by
   rw[List.map_cons]at h
   rcases List.mem_cons.1 h with rfl | h
   · exact⟨o,od,h1,h2⟩
   · exact BrN.get h3 h
theorem DN {od:List Nat}(l:List (Nat×List Nat))(hr:Region.ready .any ops (lb ops.size m)=l.map (·.1))(hne:l.isEmpty=false)(h:BrN P ops Q C need fuel m a w l):wpO P ops Q C need od (fuel+1) m a w:=by
 refine⟨λh0=>?_,λj hj=>?_⟩
 · rw[hr]at h0
   cases l with
   | nil=>cases hne
   | cons x r=>cases h0
 · rw[hr]at hj
   obtain⟨o,od,h1,h2⟩:=h.get hj
   simp only[wpOp,h1,lb_on]
   exact h2
end
end
section
abbrev pt (b:Nat):Value:=.pointer (some ⟨b,0,none⟩)
theorem Hd.at {C:World→Prop}{L:List SP}(_:Hd C L)(w:World)(h:C w):C w:=h
theorem ld1 {P:Program}{a:Act}{w:World}{n:Nat}{l:List (Nat × Value)}{x ad t v dst ty ps af g}(ha:Fr a n l)(hc:w.cell? ad=some v)[u:UOne P t][ev:Ev l x (.pointer (some ad))]:(execOp a.eval ⟨dst,.load t x,ty,ps,af,g⟩).run P w=.ok (.value v) w:=by
 obtain ⟨dd,h1,h2⟩:=u.h;exact ex_load1 ha h1 h2 hc
theorem SS {P:Program}{ops:Array Oper}{Q:Exit→Act→World→Prop}{a:Act}{w:World}{K:Act→World→Prop}{n d:Nat}{l:List (Nat × Value)}{v:Value}{op ty ps af g}(ha:Fr a n l)(hr:(execOp a.eval ⟨some d,op,ty,ps,af,g⟩).run P w=.ok (.value v) w)(h:∀ a',Fr a' n ((d,v)::l)→K a' w)(hw:Region.wanted ⟨some d,op,ty,ps,af,g⟩ (yielded ops a.tmps)=true:=by rfl)(hf:okB d n l=true:=by rfl):StepK P ops Q ⟨some d,op,ty,ps,af,g⟩ K a w:=st_set ha hw hr hf h
end
section
instance Ty.t2:TI Tryz.prog 2 (.int .i64 0) 1 8:=TI.of (by kernel_rfl)
instance Ty.t3:TI Tryz.prog 3 (.int .i64 0) 1 8:=TI.of (by kernel_rfl)
instance Ty.t4:TI Tryz.prog 4 (.bool false) 1 1:=TI.of (by kernel_rfl)
instance Ty.t5:TI Tryz.prog 5 (.int .u8 0) 1 1:=TI.of (by kernel_rfl)
instance Ty.t9:TI Tryz.prog 9 (.string ⟨#[]⟩) 1 16:=TI.of (by kernel_rfl)
instance Ty.t21:TI Tryz.prog 21 (.int .i32 0) 1 4:=TI.of (by kernel_rfl)
instance Ty.t22:TI Tryz.prog 22 (.slice none 0 0) 1 24:=TI.of (by kernel_rfl)
instance Ty.t27:TI Tryz.prog 27 (.agg #[.int .i64 0,.int .i64 0,.int .i64 0,.int .i64 0,.int .i64 0,.int .i64 0,.int .i64 0,.int .i64 0,.int .i64 0,.int .i64 0]) 10 80:=TI.of (by kernel_rfl)
instance Ty.t32:TI Tryz.prog 32 (.slice none 0 0) 1 24:=TI.of (by kernel_rfl)
instance Ty.t34:TI Tryz.prog 34 (.agg #[.string ⟨#[]⟩,.slice none 0 0]) 2 40:=TI.of (by kernel_rfl)
instance Ty.t38:TI Tryz.prog 38 (.slice none 0 0) 1 24:=TI.of (by kernel_rfl)
instance Ty.t39:TI Tryz.prog 39 (.pointer none) 1 8:=TI.of (by kernel_rfl)
instance Ty.t42:TI Tryz.prog 42 (.slice none 0 0) 1 24:=TI.of (by kernel_rfl)
instance Ty.t43:TI Tryz.prog 43 (.int .i64 0) 1 8:=TI.of (by kernel_rfl)
instance Ty.t45:TI Tryz.prog 45 (.agg #[.int .i64 0,.int .i64 0,.slice none 0 0,.int .i64 0,.int .i64 0]) 5 56:=TI.of (by kernel_rfl)
instance Ty.t52:TI Tryz.prog 52 (.slice none 0 0) 1 24:=TI.of (by kernel_rfl)
instance Ty.t59:TI Tryz.prog 59 (.pointer none) 1 8:=TI.of (by kernel_rfl)
instance Ty.t61:TI Tryz.prog 61 (.agg #[.int .i64 0,.int .i64 0,.slice none 0 0]) 3 40:=TI.of (by kernel_rfl)
instance Ty.t63:TI Tryz.prog 63 (.agg #[.int .i32 0,.int .i32 0,.int .i32 0,.int .i32 0,.int .i32 0,.int .i32 0,.int .i32 0,.int .i32 0,.int .i32 0,.int .i32 0,.int .i32 0,.int .i32 0,.int .i32 0,.int .i32 0,.int .i32 0,.int .i32 0,.int .i32 0,.int .i32 0,.int .i32 0,.int .i32 0,.int .i32 0,.int .i32 0,.int .i32 0,.int .i32 0,.int .i32 0,.int .i32 0,.int .i32 0,.int .i32 0,.int .i32 0,.int .i32 0,.int .i32 0,.int .i32 0]) 32 128:=TI.of (by kernel_rfl)
instance Ty.t65:TI Tryz.prog 65 (.agg ((.pointer none::.string ⟨#[]⟩::.slice none 0 0::.int .i64 0::.int .i64 0::.slice none 0 0::.int .i32 0::.int .i32 0::.int .i32 0::.int .i32 0::.int .i32 0::.int .i32 0::.int .i32 0::.int .i32 0::.int .i32 0::.int .i32 0::.int .i32 0::.int .i32 0::.int .i32 0::.int .i32 0::.int .i32 0::.int .i32 0::.int .i32 0::.int .i32 0::.int .i32 0::.int .i32 0::.int .i32 0::.int .i32 0::.int .i32 0::.int .i32 0::.int .i32 0::.int .i32 0::.int .i32 0::.int .i32 0::.int .i32 0::.int .i32 0::.int .i32 0::.int .i32 0::[]):List Value).toArray) 38 216:=TI.of (by kernel_rfl)
instance Ty.t68:TI Tryz.prog 68 (.int .u32 0) 1 4:=TI.of (by kernel_rfl)
instance Ty.t70:TI Tryz.prog 70 (.agg #[.int .i64 0,.int .i64 0,.int .i64 0,.int .i64 0,.int .i64 0,.slice none 0 0,.int .i64 0,.int .i64 0,.int .u32 0]) 9 88:=TI.of (by kernel_rfl)
instance Ty.t77:TI Tryz.prog 77 (.slice none 0 0) 1 24:=TI.of (by kernel_rfl)
instance Ty.t78:TI Tryz.prog 78 (.slice none 0 0) 1 24:=TI.of (by kernel_rfl)
instance Ty.t79:TI Tryz.prog 79 (.slice none 0 0) 1 24:=TI.of (by kernel_rfl)
instance Ty.t80:TI Tryz.prog 80 (.slice none 0 0) 1 24:=TI.of (by kernel_rfl)
instance Ty.t81:TI Tryz.prog 81 (.slice none 0 0) 1 24:=TI.of (by kernel_rfl)
instance Ty.t83:TI Tryz.prog 83 (.agg #[.int .i64 0,.int .i64 0,.int .i64 0,.int .i64 0,.int .i64 0,.int .i64 0,.int .i64 0,.int .i64 0,.int .i64 0,.int .i64 0,.slice none 0 0,.int .i64 0,.slice none 0 0,.slice none 0 0,.slice none 0 0,.slice none 0 0,.slice none 0 0,.slice none 0 0,.bool false]) 19 264:=TI.of (by kernel_rfl)
instance Ty.t87:TI Tryz.prog 87 (.slice none 0 0) 1 24:=TI.of (by kernel_rfl)
instance Ty.t89:TI Tryz.prog 89 (.pointer none) 1 8:=TI.of (by kernel_rfl)
instance Ty.t91:TI Tryz.prog 91 (.pointer none) 1 8:=TI.of (by kernel_rfl)
instance Ty.t98:TI Tryz.prog 98 (.agg #[.int .i64 0,.slice none 0 0,.int .i64 0,.int .i64 0,.int .i64 0,.int .i64 0,.int .i64 0,.slice none 0 0,.int .i64 0,.int .i64 0,.int .u32 0,.bool false,.int .u32 0]) 13 128:=TI.of (by kernel_rfl)
instance Ty.t102:TI Tryz.prog 102 (.pointer none) 1 8:=TI.of (by kernel_rfl)
instance Ty.t106:TI Tryz.prog 106 (.pointer none) 1 8:=TI.of (by kernel_rfl)
instance Ty.t108:TI Tryz.prog 108 (.slice none 0 0) 1 24:=TI.of (by kernel_rfl)
instance Ty.t110:TI Tryz.prog 110 (.agg #[.pointer none,.string ⟨#[]⟩,.slice none 0 0,.pointer none,.pointer none,.pointer none,.slice none 0 0,.int .i64 0,.int .i64 0]) 9 112:=TI.of (by kernel_rfl)
instance Ty.t112:TI Tryz.prog 112 (.pointer none) 1 8:=TI.of (by kernel_rfl)
instance Ty.t116:TI Tryz.prog 116 (.agg #[.int .i32 0,.int .i32 0,.int .i32 0,.int .i32 0,.int .i32 0,.int .i32 0,.int .i32 0,.int .i32 0,.int .i32 0,.int .i32 0,.int .i32 0,.int .i32 0,.int .i32 0,.int .i32 0,.int .i32 0,.int .i32 0,.int .i32 0,.int .i32 0,.int .i32 0,.int .i32 0,.int .i32 0,.int .i32 0,.int .i32 0,.int .i32 0,.int .i32 0,.int .i32 0,.int .i32 0,.int .i32 0,.int .i32 0,.int .i32 0,.int .i32 0,.int .i32 0]) 32 128:=TI.of (by kernel_rfl)
instance Ty.t119:TI Tryz.prog 119 (.agg #[.int .i64 0,.int .i64 0,.int .i64 0,.int .i64 0]) 4 32:=TI.of (by kernel_rfl)
instance Ty.t122:TI Tryz.prog 122 (.agg #[.pointer none,.int .i64 0,.slice none 0 0,.int .i64 0,.int .i64 0]) 5 56:=TI.of (by kernel_rfl)
instance Ty.t128:TI Tryz.prog 128 (.agg #[.slice none 0 0]) 1 24:=TI.of (by kernel_rfl)
instance Ty.t132:TI Tryz.prog 132 (.pointer none) 1 8:=TI.of (by kernel_rfl)
instance Ty.t134:TI Tryz.prog 134 (.agg (List.replicate 201 (.int .i64 0)).toArray) 201 1608:=TI.of (by kernel_rfl)
instance Ty.t138:TI Tryz.prog 138 (.agg #[.int .i64 0,.int .i64 0,.slice none 0 0]) 3 40:=TI.of (by kernel_rfl)
instance Ty.t139:TI Tryz.prog 139 (.agg #[.int .i64 0,.int .i64 0,.slice none 0 0]) 3 40:=TI.of (by kernel_rfl)
instance Ty.t147:TI Tryz.prog 147 (.pointer none) 1 8:=TI.of (by kernel_rfl)
instance Ty.t150:TI Tryz.prog 150 (.agg #[.int .i64 0,.int .i64 0,.slice none 0 0]) 3 40:=TI.of (by kernel_rfl)
instance Ty.t171:TI Tryz.prog 171 (.map none) 1 8:=TI.of (by kernel_rfl)
instance Ty.t172:TI Tryz.prog 172 (.pointer none) 1 8:=TI.of (by kernel_rfl)
instance Ty.t174:TI Tryz.prog 174 (.agg #[.pointer none,.map none,.int .i64 0]) 3 24:=TI.of (by kernel_rfl)
instance Ty.t180:TI Tryz.prog 180 (.agg ((.pointer none::.string ⟨#[]⟩::.slice none 0 0::.int .i64 0::.int .i64 0::.slice none 0 0::.int .i32 0::.int .i32 0::.int .i32 0::.int .i32 0::.int .i32 0::.int .i32 0::.int .i32 0::.int .i32 0::.int .i32 0::.int .i32 0::.int .i32 0::.int .i32 0::.int .i32 0::.int .i32 0::.int .i32 0::.int .i32 0::.int .i32 0::.int .i32 0::.int .i32 0::.int .i32 0::.int .i32 0::.int .i32 0::.int .i32 0::.int .i32 0::.int .i32 0::.int .i32 0::.int .i32 0::.int .i32 0::.int .i32 0::.int .i32 0::.int .i32 0::.int .i32 0::[]):List Value).toArray) 38 216:=TI.of (by kernel_rfl)
instance Ty.t182:TI Tryz.prog 182 (.slice none 0 0) 1 24:=TI.of (by kernel_rfl)
instance Ty.t184:TI Tryz.prog 184 (.agg #[.slice none 0 0]) 1 24:=TI.of (by kernel_rfl)
instance Ty.t186:TI Tryz.prog 186 (.agg #[.int .i64 0,.int .i64 0]) 2 16:=TI.of (by kernel_rfl)
instance Ty.t188:TI Tryz.prog 188 (.agg #[.string ⟨#[]⟩,.slice none 0 0,.pointer none,.pointer none,.pointer none,.bool false,.int .i64 0,.int .i64 0,.int .i64 0,.int .i64 0,.bool false]) 11 112:=TI.of (by kernel_rfl)
instance Ty.t189:TI Tryz.prog 189 (.agg #[.int .i64 0,.int .i64 0,.int .i64 0,.int .i64 0]) 4 32:=TI.of (by kernel_rfl)
instance Ty.t191:TI Tryz.prog 191 (.agg #[.int .i64 0,.int .i64 0,.int .i64 0,.int .i64 0,.int .i64 0]) 5 40:=TI.of (by kernel_rfl)
instance Ty.t194:TI Tryz.prog 194 (.agg #[.int .i32 0,.int .i32 0,.int .i32 0,.int .i32 0,.int .i32 0,.int .i32 0,.int .i32 0,.int .i32 0]) 8 32:=TI.of (by kernel_rfl)
instance Ty.t214:TI Tryz.prog 214 (.slice none 0 0) 1 24:=TI.of (by kernel_rfl)
instance Ty.t216:TI Tryz.prog 216 (.agg #[.slice none 0 0]) 1 24:=TI.of (by kernel_rfl)
instance Ty.t218:TI Tryz.prog 218 (.agg #[.int .i32 0,.int .i32 0,.int .i32 0,.int .i32 0,.int .i32 0,.int .i32 0,.int .i32 0,.int .i32 0,.int .i64 0]) 9 40:=TI.of (by kernel_rfl)
instance Ty.t223:TI Tryz.prog 223 (.agg #[.int .i64 0,.int .i64 0,.int .i64 0]) 3 24:=TI.of (by kernel_rfl)
instance Ty.t226:TI Tryz.prog 226 (.pointer none) 1 8:=TI.of (by kernel_rfl)
instance Ty.t229:TI Tryz.prog 229 (.slice none 0 0) 1 24:=TI.of (by kernel_rfl)
instance Ty.t231:TI Tryz.prog 231 (.agg #[.int .i64 0,.int .i64 0,.int .i64 0,.int .i64 0,.int .i64 0,.int .i64 0,.int .i64 0,.int .i64 0,.int .i64 0,.int .i64 0,.pointer none,.slice none 0 0,.slice none 0 0,.slice none 0 0,.int .i64 0,.bool false]) 16 176:=TI.of (by kernel_rfl)
instance Ty.t232:TI Tryz.prog 232 (.slice none 0 0) 1 24:=TI.of (by kernel_rfl)
instance Ty.t234:TI Tryz.prog 234 (.agg #[.slice none 0 0]) 1 24:=TI.of (by kernel_rfl)
instance Ty.t244:TI Tryz.prog 244 (.agg #[.int .i64 0,.int .u32 0]) 2 16:=TI.of (by kernel_rfl)
instance Ty.t245:TI Tryz.prog 245 (.agg (List.replicate 256 (.int .i64 0)).toArray) 256 2048:=TI.of (by kernel_rfl)
instance Ty.t247:TI Tryz.prog 247 (.agg (List.replicate 256 (.bool false)).toArray) 256 256:=TI.of (by kernel_rfl)
instance Ty.t254:TI Tryz.prog 254 (.nilIface) 1 16:=TI.of (by kernel_rfl)
instance Ty.t256:TI Tryz.prog 256 (.agg #[.nilIface]) 1 16:=TI.of (by kernel_rfl)
instance Ty.t261:TI Tryz.prog 261 (.agg #[.int .i64 0,.int .i64 0,.int .i64 0,.int .u32 0,.bool false]) 5 32:=TI.of (by kernel_rfl)
instance Ty.t278:TI Tryz.prog 278 (.agg #[.pointer none,.int .i64 0,.bool false]) 3 24:=TI.of (by kernel_rfl)
instance Ty.t296:TI Tryz.prog 296 (.agg #[.slice none 0 0]) 1 24:=TI.of (by kernel_rfl)
instance Ty.t302:TI Tryz.prog 302 (.agg ((.int .i32 0::.int .i32 0::.int .i32 0::.int .i32 0::.int .i32 0::.int .i32 0::.int .i32 0::.int .i32 0::.int .i32 0::.int .i32 0::.int .i32 0::.int .i32 0::.int .i32 0::.int .i32 0::.int .i32 0::.int .i32 0::.int .i32 0::.int .i32 0::.int .i32 0::.int .i32 0::.int .i32 0::.int .i32 0::.int .i32 0::.int .i32 0::.int .i32 0::.int .i32 0::.int .i32 0::.int .i32 0::.int .i32 0::.int .i32 0::.int .i32 0::.int .i32 0::[]):List Value).toArray) 32 128:=TI.of (by kernel_rfl)
instance Ty.t303:TI Tryz.prog 303 (.agg #[.int .i64 0,.int .i64 0,.int .i64 0,.int .i64 0]) 4 32:=TI.of (by kernel_rfl)
instance Ty.t310:TI Tryz.prog 310 (.agg #[.int .i64 0]) 1 8:=TI.of (by kernel_rfl)
instance Ty.t311:TI Tryz.prog 311 (.agg #[.int .i64 0]) 1 8:=TI.of (by kernel_rfl)
instance Ty.t313:TI Tryz.prog 313 (.agg #[.int .i64 0,.int .i64 0]) 2 16:=TI.of (by kernel_rfl)
instance Ty.t322:TI Tryz.prog 322 (.nilIface) 1 16:=TI.of (by kernel_rfl)
instance Ty.t325:TI Tryz.prog 325 (.agg #[.string ⟨#[]⟩,.slice none 0 0,.nilIface,.int .i64 0,.slice none 0 0,.int .i64 0]) 6 96:=TI.of (by kernel_rfl)
instance Ty.t334:TI Tryz.prog 334 (.agg #[.slice none 0 0,.bool false]) 2 32:=TI.of (by kernel_rfl)
instance Ty.t339:TI Tryz.prog 339 (.agg #[.int .u8 0,.int .u8 0]) 2 2:=TI.of (by kernel_rfl)
instance Ty.t359:TI Tryz.prog 359 (.agg #[.int .i64 0,.int .i64 0,.int .i64 0]) 3 24:=TI.of (by kernel_rfl)
instance Ty.b27:BuildT Tryz.prog 27 [(0,1),(1,1),(2,1),(3,1),(4,1),(5,1),(6,1),(7,1),(8,1),(9,1)]:=⟨_,Tryz.underlying27,λw=>by kernel_rfl⟩
instance Ty.b34:BuildT Tryz.prog 34 [(0,1),(1,1)]:=⟨_,Tryz.underlying34,λw=>by kernel_rfl⟩
instance Ty.b45:BuildT Tryz.prog 45 [(0,1),(1,1),(2,1),(3,1),(4,1)]:=⟨_,Tryz.underlying45,λw=>by kernel_rfl⟩
instance Ty.b61:BuildT Tryz.prog 61 [(0,1),(1,1),(2,1)]:=⟨_,Tryz.underlying61,λw=>by kernel_rfl⟩
instance Ty.b65:BuildT Tryz.prog 65 [(0,1),(1,2),(3,3),(6,32)]:=⟨_,Tryz.underlying65,λw=>by kernel_rfl⟩
instance Ty.b70:BuildT Tryz.prog 70 [(0,1),(1,1),(2,1),(3,1),(4,1),(5,1),(6,1),(7,1),(8,1)]:=⟨_,Tryz.underlying70,λw=>by kernel_rfl⟩
instance Ty.b83:BuildT Tryz.prog 83 [(0,10),(10,1),(11,1),(12,1),(13,1),(14,1),(15,1),(16,1),(17,1),(18,1)]:=⟨_,Tryz.underlying83,λw=>by kernel_rfl⟩
instance Ty.b110:BuildT Tryz.prog 110 [(0,1),(1,2),(3,1),(4,1),(5,1),(6,1),(7,1),(8,1)]:=⟨_,Tryz.underlying110,λw=>by kernel_rfl⟩
instance Ty.b119:BuildT Tryz.prog 119 [(0,1),(1,1),(2,1),(3,1)]:=⟨_,Tryz.underlying119,λw=>by kernel_rfl⟩
instance Ty.b122:BuildT Tryz.prog 122 [(0,1),(1,1),(2,1),(3,1),(4,1)]:=⟨_,Tryz.underlying122,λw=>by kernel_rfl⟩
instance Ty.b128:BuildT Tryz.prog 128 [(0,1)]:=⟨_,Tryz.underlying128,λw=>by kernel_rfl⟩
instance Ty.b138:BuildT Tryz.prog 138 [(0,1),(1,1),(2,1)]:=⟨_,Tryz.underlying138,λw=>by kernel_rfl⟩
instance Ty.b139:BuildT Tryz.prog 139 [(0,1),(1,1),(2,1)]:=⟨_,Tryz.underlying139,λw=>by kernel_rfl⟩
instance Ty.b150:BuildT Tryz.prog 150 [(0,1),(1,1),(2,1)]:=⟨_,Tryz.underlying150,λw=>by kernel_rfl⟩
instance Ty.b174:BuildT Tryz.prog 174 [(0,1),(1,1),(2,1)]:=⟨_,Tryz.underlying174,λw=>by kernel_rfl⟩
instance Ty.b180:BuildT Tryz.prog 180 [(0,1),(1,2),(3,3),(6,32)]:=⟨_,Tryz.underlying180,λw=>by kernel_rfl⟩
instance Ty.b184:BuildT Tryz.prog 184 [(0,1)]:=⟨_,Tryz.underlying184,λw=>by kernel_rfl⟩
instance Ty.b186:BuildT Tryz.prog 186 [(0,1),(1,1)]:=⟨_,Tryz.underlying186,λw=>by kernel_rfl⟩
instance Ty.b188:BuildT Tryz.prog 188 [(0,2),(2,1),(3,1),(4,1),(5,1),(6,2),(8,1),(9,1),(10,1)]:=⟨_,Tryz.underlying188,λw=>by kernel_rfl⟩
instance Ty.b216:BuildT Tryz.prog 216 [(0,1)]:=⟨_,Tryz.underlying216,λw=>by kernel_rfl⟩
instance Ty.b218:BuildT Tryz.prog 218 [(0,8),(8,1)]:=⟨_,Tryz.underlying218,λw=>by kernel_rfl⟩
instance Ty.b223:BuildT Tryz.prog 223 [(0,1),(1,1),(2,1)]:=⟨_,Tryz.underlying223,λw=>by kernel_rfl⟩
instance Ty.b231:BuildT Tryz.prog 231 [(0,10),(10,1),(11,1),(12,1),(13,1),(14,1),(15,1)]:=⟨_,Tryz.underlying231,λw=>by kernel_rfl⟩
instance Ty.b234:BuildT Tryz.prog 234 [(0,1)]:=⟨_,Tryz.underlying234,λw=>by kernel_rfl⟩
instance Ty.b244:BuildT Tryz.prog 244 [(0,1),(1,1)]:=⟨_,Tryz.underlying244,λw=>by kernel_rfl⟩
instance Ty.b256:BuildT Tryz.prog 256 [(0,1)]:=⟨_,Tryz.underlying256,λw=>by kernel_rfl⟩
instance Ty.b261:BuildT Tryz.prog 261 [(0,1),(1,1),(2,1),(3,1),(4,1)]:=⟨_,Tryz.underlying261,λw=>by kernel_rfl⟩
instance Ty.b278:BuildT Tryz.prog 278 [(0,1),(1,1),(2,1)]:=⟨_,Tryz.underlying278,λw=>by kernel_rfl⟩
instance Ty.b296:BuildT Tryz.prog 296 [(0,1)]:=⟨_,Tryz.underlying296,λw=>by kernel_rfl⟩
instance Ty.b302:BuildT Tryz.prog 302 [(0,32)]:=⟨_,Tryz.underlying302,λw=>by kernel_rfl⟩
instance Ty.b310:BuildT Tryz.prog 310 [(0,1)]:=⟨_,Tryz.underlying310,λw=>by kernel_rfl⟩
instance Ty.b311:BuildT Tryz.prog 311 [(0,1)]:=⟨_,Tryz.underlying311,λw=>by kernel_rfl⟩
instance Ty.b313:BuildT Tryz.prog 313 [(0,1),(1,1)]:=⟨_,Tryz.underlying313,λw=>by kernel_rfl⟩
instance Ty.b325:BuildT Tryz.prog 325 [(0,2),(2,1),(3,1),(4,1),(5,1)]:=⟨_,Tryz.underlying325,λw=>by kernel_rfl⟩
instance Ty.b334:BuildT Tryz.prog 334 [(0,1),(1,1)]:=⟨_,Tryz.underlying334,λw=>by kernel_rfl⟩
abbrev U2:=Und.of Tryz.underlying2
abbrev U3:=Und.of Tryz.underlying3
abbrev U4:=Und.of Tryz.underlying4
abbrev U5:=Und.of Tryz.underlying5
abbrev U9:=Und.of Tryz.underlying9
abbrev U21:=Und.of Tryz.underlying21
abbrev U22:=Und.of Tryz.underlying22
abbrev U27:=Und.of Tryz.underlying27
abbrev U28:=Und.of Tryz.underlying28
abbrev U29:=Und.of Tryz.underlying29
abbrev U32:=Und.of Tryz.underlying32
abbrev U34:=Und.of Tryz.underlying34
abbrev U38:=Und.of Tryz.underlying38
abbrev U39:=Und.of Tryz.underlying39
abbrev U42:=Und.of Tryz.underlying42
abbrev U43:=Und.of Tryz.underlying43
abbrev U45:=Und.of Tryz.underlying45
abbrev U52:=Und.of Tryz.underlying52
abbrev U54:=Und.of Tryz.underlying54
abbrev U56:=Und.of Tryz.underlying56
abbrev U59:=Und.of Tryz.underlying59
abbrev U61:=Und.of Tryz.underlying61
abbrev U63:=Und.of Tryz.underlying63
abbrev U65:=Und.of Tryz.underlying65
abbrev U68:=Und.of Tryz.underlying68
abbrev U70:=Und.of Tryz.underlying70
abbrev U77:=Und.of Tryz.underlying77
abbrev U78:=Und.of Tryz.underlying78
abbrev U79:=Und.of Tryz.underlying79
abbrev U80:=Und.of Tryz.underlying80
abbrev U81:=Und.of Tryz.underlying81
abbrev U83:=Und.of Tryz.underlying83
abbrev U87:=Und.of Tryz.underlying87
abbrev U89:=Und.of Tryz.underlying89
abbrev U91:=Und.of Tryz.underlying91
abbrev U93:=Und.of Tryz.underlying93
abbrev U98:=Und.of Tryz.underlying98
abbrev U100:=Und.of Tryz.underlying100
abbrev U102:=Und.of Tryz.underlying102
abbrev U106:=Und.of Tryz.underlying106
abbrev U108:=Und.of Tryz.underlying108
abbrev U110:=Und.of Tryz.underlying110
abbrev U112:=Und.of Tryz.underlying112
abbrev U116:=Und.of Tryz.underlying116
abbrev U119:=Und.of Tryz.underlying119
abbrev U122:=Und.of Tryz.underlying122
abbrev U128:=Und.of Tryz.underlying128
abbrev U132:=Und.of Tryz.underlying132
abbrev U134:=Und.of Tryz.underlying134
abbrev U138:=Und.of Tryz.underlying138
abbrev U139:=Und.of Tryz.underlying139
abbrev U147:=Und.of Tryz.underlying147
abbrev U150:=Und.of Tryz.underlying150
abbrev U171:=Und.of Tryz.underlying171
abbrev U172:=Und.of Tryz.underlying172
abbrev U174:=Und.of Tryz.underlying174
abbrev U180:=Und.of Tryz.underlying180
abbrev U182:=Und.of Tryz.underlying182
abbrev U184:=Und.of Tryz.underlying184
abbrev U186:=Und.of Tryz.underlying186
abbrev U188:=Und.of Tryz.underlying188
abbrev U189:=Und.of Tryz.underlying189
abbrev U191:=Und.of Tryz.underlying191
abbrev U194:=Und.of Tryz.underlying194
abbrev U199:=Und.of Tryz.underlying199
abbrev U214:=Und.of Tryz.underlying214
abbrev U216:=Und.of Tryz.underlying216
abbrev U218:=Und.of Tryz.underlying218
abbrev U220:=Und.of Tryz.underlying220
abbrev U223:=Und.of Tryz.underlying223
abbrev U224:=Und.of Tryz.underlying224
abbrev U225:=Und.of Tryz.underlying225
abbrev U226:=Und.of Tryz.underlying226
abbrev U229:=Und.of Tryz.underlying229
abbrev U231:=Und.of Tryz.underlying231
abbrev U232:=Und.of Tryz.underlying232
abbrev U234:=Und.of Tryz.underlying234
abbrev U244:=Und.of Tryz.underlying244
abbrev U245:=Und.of Tryz.underlying245
abbrev U247:=Und.of Tryz.underlying247
abbrev U254:=Und.of Tryz.underlying254
abbrev U256:=Und.of Tryz.underlying256
abbrev U261:=Und.of Tryz.underlying261
abbrev U265:=Und.of Tryz.underlying265
abbrev U276:=Und.of Tryz.underlying276
abbrev U278:=Und.of Tryz.underlying278
abbrev U296:=Und.of Tryz.underlying296
abbrev U300:=Und.of Tryz.underlying300
abbrev U302:=Und.of Tryz.underlying302
abbrev U303:=Und.of Tryz.underlying303
abbrev U310:=Und.of Tryz.underlying310
abbrev U311:=Und.of Tryz.underlying311
abbrev U313:=Und.of Tryz.underlying313
abbrev U322:=Und.of Tryz.underlying322
abbrev U325:=Und.of Tryz.underlying325
abbrev U334:=Und.of Tryz.underlying334
abbrev U339:=Und.of Tryz.underlying339
abbrev U342:=Und.of Tryz.underlying342
abbrev U359:=Und.of Tryz.underlying359
abbrev U361:=Und.of Tryz.underlying361
attribute [instance] U2 U3 U4 U5 U9 U21 U22 U27 U28 U29 U32 U34 U38 U39 U42 U43 U45 U52 U54 U56 U59 U61 U63 U65 U68 U70 U77 U78 U79 U80 U81 U83 U87 U89 U91 U93 U98 U100 U102 U106 U108 U110 U112 U116 U119 U122 U128 U132 U134 U138 U139 U147 U150 U171 U172 U174 U180 U182 U184 U186 U188 U189 U191 U194 U199 U214 U216 U218 U220 U223 U224 U225 U226 U229 U231 U232 U234 U244 U245 U247 U254 U256 U261 U265 U276 U278 U296 U300 U302 U303 U310 U311 U313 U322 U325 U334 U339 U342 U359 U361
theorem Ty.mixed:Tryz.prog.follows .mixedOrders=true:=by kernel_rfl
instance:Mixed Tryz.prog:=⟨Ty.mixed⟩
end
section
theorem St.rdB {W w:World}{L R:List SP}{n c e:Nat}{cs:List Value}(hs:St W w L)(ad:Option Addr)(bs:List UInt8)[k:PickSl L ad n c e 1 cs R](h:cs=bc bs)(hn:bs.length=n):RdB w ad n bs:=by
 subst h
 refine⟨hn,λe=>?_,λx hx hp=>?_⟩
 · rcases Nat.eq_zero_or_pos n with h0 | h0
   · exact h0
   · obtain⟨b,off,e2,_⟩:=hs.slRd ad h0
     rw[e]at e2;cases e2
 · obtain⟨b,off,e2,hr⟩:=hs.slRd ad hp
   exact⟨b,off,by rw[hx]at e2;cases e2;rfl,hr⟩
theorem RdB.nil {w:World}{ad:Option Addr}:RdB w ad 0 []:=⟨rfl,λ_=>rfl,λ_ _ h=>absurd h (by decide)⟩
theorem RdB.old {W w:World}{L:List SP}{ad:Option Addr}{m:Nat}{bs:List UInt8}(h:RdB W ad m bs)(hs:St W w L):RdB w ad m bs:=by
 refine⟨h.1,h.2.1,λx hx h0=>?_⟩
 obtain⟨b,off,rfl,hr⟩:=h.2.2 x hx h0
 refine⟨b,off,rfl,λj v hj=>?_⟩
 have h1:=hr j v hj
 rw[hs.old (a:=⟨b,off+j,none⟩) (World.block_lt_of_cell? _ _ h1)]
 exact h1
theorem cutAd_zero (ad:Option Addr)(c sz:Nat):cutAd ad 0 c sz=ad:=by
 unfold cutAd
 split
 · rfl
 · cases ad with
   | none=>rfl
   | some a=>simp[Addr.add]
def RdBB (w:World)(ad:Option Addr)(m:Nat)(p:List (List UInt8)):Prop :=
 p.length=m∧(0<m→∃ b off,ad=some ⟨b,off,none⟩∧∀ j bs,p[j]?=some bs→∃ ad' c',w.cell? ⟨b,off+j,none⟩=some (.slice ad' bs.length c')∧RdB w ad' bs.length bs)
theorem RdBB.take {w:World}{ad:Option Addr}{m n:Nat}{p:List (List UInt8)}(h:RdBB w ad m p)(hn:n≤m):RdBB w ad n (p.take n):=by
 refine⟨by rw[List.length_take,h.1];omega,λh0=>?_⟩
 obtain⟨b,off,h1,h2⟩:=h.2 (by omega)
 refine⟨b,off,h1,λj bs hj=>?_⟩
 rw[List.getElem?_take]at hj
 by_cases hjn:j<n
 · rw[if_pos hjn]at hj;exact h2 j bs hj
 · rw[if_neg hjn]at hj;cases hj
abbrev BBx:=Option Addr×Nat×List UInt8
def bbv (x:BBx):Value:=.slice x.1 x.2.2.length x.2.1
def bbo (x:BBx):SP:=Sl 5 1 x.1 x.2.2.length x.2.1 (bc x.2.2)
def OwnBB (ad:Option Addr)(n c:Nat)(p:List (List UInt8)):SP:=λh=>∃ xs:List BBx,(xs.map (·.2.2)=p∧p.length=n)∧sepL [Sl 22 1 ad n c (xs.map bbv),All bbo xs] h
section
variable {W w:World}{L L' R:List SP}{ad:Option Addr}{n c:Nat}{p:List (List UInt8)}{xs:List BBx}
theorem OwnBB.open (hs:St W w (OwnBB ad n c p::L)):∃ xs:List BBx,xs.map (·.2.2)=p∧p.length=n∧St W w (Sl 22 1 ad n c (xs.map bbv)::All bbo xs::L):=by
 obtain⟨xs,⟨h1,h2⟩,h3⟩:=hs.exi (ι:=List BBx) (p:=λxs=>xs.map (·.2.2)=p∧p.length=n) (B:=λxs h=>sepL [Sl 22 1 ad n c (xs.map bbv),All bbo xs] h) (λh ⟨xs,h1,h2⟩=>⟨xs,h1,h2⟩)
 exact⟨xs,h1,h2,h3.open λ_ h=>h⟩
theorem OwnBB.close (hs:St W w L)[k:Arr L (Sl 22 1 ad n c (xs.map bbv)::All bbo xs::L') R](h1:xs.map (·.2.2)=p)(h2:p.length=n):St W w (OwnBB ad n c p::L') :=
 St.shut (M:=[_,_]) (hs.sub (M:=Sl 22 1 ad n c (xs.map bbv)::All bbo xs::L')) (λ_ x=>⟨xs,⟨h1,h2⟩,x⟩)
theorem OwnBB.le (hs:St W w (OwnBB ad n c p::L)):p.length=n∧n≤c:=by
 obtain⟨xs,h1,h2,h3⟩:=OwnBB.open hs
 exact⟨h2,(h3.sl ad).2⟩
theorem OwnBB.nil (hs:St W w L):St W w (OwnBB none 0 0 []::L):=by
 have h:St W w (Sl 22 1 none 0 0 (([]:List BBx).map bbv)::All bbo []::L):=(hs.allNil (f:=bbo)).sl0 22 1 none
 exact OwnBB.close (xs:=[]) h rfl rfl
theorem OwnBB.rd (hs:St W w (OwnBB ad n c p::L)):RdBB w ad n p:=by
 obtain⟨xs,h1,h2,h3⟩:=OwnBB.open hs
 refine⟨h2,λh0=>?_⟩
 obtain⟨b,off,rfl,hr⟩:=h3.slRd ad h0
 refine⟨b,off,rfl,λj bs hj=>?_⟩
 rw[← h1,List.getElem?_map]at hj
 obtain⟨x,hx,rfl⟩:=Option.map_eq_some_iff.1 hj
 obtain⟨hxl,hxe⟩:=List.getElem?_eq_some_iff.1 hx
 refine⟨x.1,x.2.1,hr j _ (by rw[List.getElem?_map,hx];rfl),?_⟩
 have h4:=(h3.perm (List.Perm.swap _ _ _)).allOut hxl
 rw[hxe]at h4
 have h5:St W w (Sl 5 1 x.1 x.2.2.length x.2.1 (bc x.2.2)::_):=h4
 exact h5.rdB x.1 x.2.2 rfl rfl
theorem bytes_clone {bs:List UInt8}{m:Nat}(hs:St W w L)(hr:∀ w',St W w' L→RdB w' ad m bs)(hb:m≤1099511627776) :
   Calls Tryz.prog 109 #[.slice ad m c] w λe w'=>∃ ad' c',e=.returned (.slice ad' m c')∧St W w' (Sl 5 1 ad' m c' (bc bs)::L):=by
 obtain⟨h1,h2,h3⟩:=hr _ hs
 cases ad with
 | none =>
   obtain rfl:=h2 rfl
   obtain rfl:bs=[]:=List.eq_nil_of_length_eq_zero h1
   refine EN Tryz.func109 Tryz.ntmps109 rfl rfl λa ha=>?_
   refine RN 6 ha hs λa ha=>?_
   replace ha:=ha.isT 4
   refine RT 3 ha hs ?_
   exact⟨_,_,rfl,hs.sl0 _ _ _⟩
 | some a =>
   rcases Nat.eq_zero_or_pos m with h0 | h0
   · subst h0
     obtain rfl:bs=[]:=List.eq_nil_of_length_eq_zero h1
     refine EN Tryz.func109 Tryz.ntmps109 rfl rfl λa ha=>?_
     refine RN 6 ha hs λa ha=>?_
     replace ha:=ha.isF 4
     refine RN 2 ha hs λa ha=>?_
     refine st_buildSlice0 ha rfl hs Tryz.underlying22 Ty.t5 rfl λb5 a w ha hs ho=>?_
     clear ho
     refine RN 1 ha hs λa ha=>?_
     refine st_append0 ha rfl Tryz.underlying22 Ty.t5 rfl (Nat.le_refl _) λa ha=>?_
     refine RT 1 ha hs ?_
     exact⟨_,_,rfl,hs⟩
   · obtain⟨b,off,rfl,_⟩:=h3 a rfl h0
     refine EN Tryz.func109 Tryz.ntmps109 rfl rfl λa ha=>?_
     refine RN 6 ha hs λa ha=>?_
     replace ha:=ha.isF 4
     refine RN 2 ha hs λa ha=>?_
     refine st_buildSlice0 ha rfl hs Tryz.underlying22 Ty.t5 rfl λb5 a w ha hs ho=>?_
     clear ho
     refine RN 1 ha hs λa ha=>?_
     obtain⟨b',off',hx,hrd⟩:=(hr _ hs.tail).2.2 _ rfl h0
     cases hx
     refine st_append ha rfl hs Tryz.underlying22 Ty.t5 rfl rfl hrd (by rw[bc_len,h1,Nat.mul_one]) (bc_one bs) h0 (by decide) (by omega) λad7 c7 a w ha hs=>?_
     rw[Nat.zero_add]at ha hs
     refine RT 1 ha hs ?_
     exact⟨_,_,rfl,hs⟩
theorem str_beq (a b:List UInt8):((⟨a.toArray⟩:ByteArray).data.toList==(⟨b.toArray⟩:ByteArray).data.toList)=(a==b):=rfl
theorem bytes_equal {a b:List UInt8}{ad2:Option Addr}{m n c2:Nat}(ha':RdB w ad m a)(hb':RdB w ad2 n b) :
   Calls Tryz.prog 211 #[.slice ad m c,.slice ad2 n c2] w λe w'=>e=.returned (.bool (a==b))∧w'=w:=by
 have hs:=St.start w
 refine EN Tryz.func211 Tryz.ntmps211 rfl rfl λa ha=>?_
 refine RN 4 ha hs λa ha=>?_
 refine SS ha (ex_toString ha Tryz.underlying22 Tryz.underlying5 Tryz.underlying9 (ha')) λa ha=>?_
 refine RN 1 ha hs λa ha=>?_
 refine SS ha (ex_toString ha Tryz.underlying22 Tryz.underlying5 Tryz.underlying9 (hb')) λa ha=>?_
 refine RN 0 ha hs λa ha=>?_
 refine SS ha (ex_eqlS ha) λa ha=>?_
 refine RT 1 ha hs ?_
 exact⟨by rw[str_beq],rfl⟩
theorem take_eq_succ {p q:List (List UInt8)}{k:Nat}{x y:List UInt8}(h:p.take k=q.take k)(hx:p[k]?=some x)(hy:q[k]?=some y):(p.take (k+1)=q.take (k+1))↔x=y:=by
 obtain⟨h1,rfl⟩:=List.getElem?_eq_some_iff.1 hx
 obtain⟨h2,rfl⟩:=List.getElem?_eq_some_iff.1 hy
 rw[List.take_succ_eq_append_getElem h1,List.take_succ_eq_append_getElem h2,h]
 exact⟨λe=>by have:=List.append_cancel_left e;simpa using this,λe=>by rw[e]⟩
theorem equal_func {p q:List (List UInt8)}{ad2:Option Addr}{m c2:Nat}(hp:RdBB w ad m p)(hq:RdBB w ad2 m q)(hb:m≤1099511627776) :
   Calls Tryz.prog 210 #[.slice ad m c,.slice ad2 m c2,.func (.func 211) #[] #[]] w λe w'=>e=.returned (.bool (p==q))∧w'=w:=by
 have hpl:=hp.1
 have hql:=hq.1
 obtain⟨W,hw0⟩:∃ W,w=W:=⟨w,rfl⟩
 have hs:St W w []:=hw0 ▸ St.start w
 refine EN Tryz.func210 Tryz.ntmps210 rfl rfl λa ha=>?_
 refine RN 9 ha hs λa ha=>?_
 rw[dneI]at ha
 replace ha:=ha.isF 14
 refine RN 6 ha hs λa ha=>?_
 refine wp_loop_ghost (λμ a w=>∃ k:Nat,(μ=m-k∧k≤m∧p.take k=q.take k∧w=W)∧Fr a 32 [(1,.slice ad2 m c2),(2,.func (.func 211) #[] #[]),(15,.slice ad m c),(16,.int .i64 m),(17,.int .i64 k)]∧St W w []) (m) (⟨0,⟨by simp,by simp,by simp,hw0⟩,ha.keep [1,2,15,16,17],hs⟩) ?_
 clear ha hs
 rintro μ a w ⟨k,⟨rfl,hk,hkt,hww⟩,ha,hs⟩
 subst hww hw0
 refine IF 3 ha hs (λhc1 a ha=>?_) λhc1 a ha=>?_
 ·
  refine RN 2 ha hs λa ha=>?_
  obtain⟨b1,o1,rfl,h1⟩:=hp.2 (by omega)
  obtain⟨b2,o2,rfl,h2⟩:=hq.2 (by omega)
  have hx1:p[k]?=some p[k]:=List.getElem?_eq_getElem (by omega)
  have hx2:q[k]?=some q[k]:=List.getElem?_eq_getElem (by omega)
  obtain⟨a1,c1',hc1',hr1⟩:=h1 k _ hx1
  obtain⟨a2,c2',hc2',hr2⟩:=h2 k _ hx2
  have hiff:=take_eq_succ hkt hx1 hx2
  refine RN 2 ha hs λa ha=>?_
  refine SS ha (ld1 ha (hc1')) λa ha=>?_
  refine RN 6 ha hs λa ha=>?_
  refine SS ha (ld1 ha (hc2')) λa ha=>?_
  refine CL 5 ha hs (bytes_equal hr1 hr2) λa w ha hx=>?_
  obtain rfl:=hx
  refine IF 1 ha (St.start _) (λhc2 a ha=>?_) λhc2 a ha=>?_
  ·
   have hne:¬ p[k]=q[k]:=by simpa using hc2
   refine RT 2 ha (St.start _) ?_
   refine⟨?_,rfl⟩
   have:(p==q)=false:=by
     rw[beq_eq_false_iff_ne]
     intro e
     exact hne (hiff.1 (by rw[e]))
   rw[this]
  have heq:p[k]=q[k]:=by simpa using hc2
  refine RN 2 ha (St.start _) λa ha=>?_
  exact⟨m-(k+1),by omega,k+1,⟨rfl,by omega,hiff.2 heq,rfl⟩,ha.keep [1,2,15,16,17],St.start _⟩
 refine RT 2 ha hs ?_
 obtain rfl:k=m:=by omega
 rw[List.take_of_length_le (by omega),List.take_of_length_le (by omega)]at hkt
 subst hkt
 exact⟨by rw[beq_self_eq_true],rfl⟩
def RdX (w:World)(ad:Option Addr)(xs:List BBx):Prop:=(0<xs.length→∃ b off,ad=some ⟨b,off,none⟩∧Rd w b off (xs.map bbv))∧∀ x∈xs,RdB w x.1 x.2.2.length x.2.2
theorem RdX.bb (h:RdX w ad xs):RdBB w ad xs.length (xs.map (·.2.2)):=by
 refine⟨by simp,λh0=>?_⟩
 obtain⟨b,off,h1,h2⟩:=h.1 h0
 refine⟨b,off,h1,λj bs hj=>?_⟩
 rw[List.getElem?_map]at hj
 obtain⟨x,hx,rfl⟩:=Option.map_eq_some_iff.1 hj
 exact⟨x.1,x.2.1,h2 j _ (by rw[List.getElem?_map,hx];rfl),h.2 x (List.mem_of_getElem? hx)⟩
theorem St.rdX {m:Nat}(hs:St W w (Sl 22 1 ad m c (xs.map bbv)::All bbo xs::L)):RdX w ad xs:=by
 have hm:xs.length=m:=by have:=(hs.sl ad).1;simpa using this
 refine⟨λh0=>hs.slRd ad (by omega),λx hx=>?_⟩
 obtain⟨i,hi,rfl⟩:=List.mem_iff_getElem.1 hx
 have h4:=(hs.perm (List.Perm.swap _ _ _)).allOut hi
 have h5:St W w (Sl 5 1 xs[i].1 xs[i].2.2.length xs[i].2.1 (bc xs[i].2.2)::_):=h4
 exact h5.rdB xs[i].1 xs[i].2.2 rfl rfl
end
end
section
structure Pg where
 g:Nat→Int
 refs:Nat
def Pg.cells (p:Pg):List Value:=ints .i32 8 p.g++[.int .i64 p.refs]
def pgc (ps:List Pg):List Value:=rows Pg.cells ps
def pg0:Pg:=⟨λ_=>0,0⟩
def pg1:Pg:=⟨λ_=>0,1⟩
theorem Pg.len (p:Pg):p.cells.length=9:=by simp[Pg.cells,ints_len]
theorem pgc_len (ps:List Pg):(pgc ps).length=ps.length*9:=rows_len Pg.len ps
theorem Pg.one (p:Pg):∀ v∈p.cells,v.oneCell'=true:=by
 intro v hv
 rcases List.mem_append.1 hv with h | h
 · exact ints_one v h
 · simp at h;subst h;rfl
theorem pgc_ref {ps:List Pg}{i:Nat}(h:i<ps.length):(pgc ps)[i*9+8]?=some (.int .i64 ps[i].refs):=rows_get Pg.len ps h (by simp[Pg.cells,ints_len])
theorem pgc_at {ps:List Pg}{i k:Nat}(h:i<ps.length)(hk:k<8):(pgc ps)[i*9+k]?=some (.int .i32 (ps[i].g k)):=rows_get Pg.len ps h (by
 rw[Pg.cells,List.getElem?_append_left (by rw[ints_len];exact hk),ints_get _ hk])
theorem pgc_setref {ps:List Pg}{i r:Nat}(h:i<ps.length):(pgc ps).set (i*9+8) (.int .i64 r)=pgc (ps.set i ⟨ps[i].g,r⟩):=rows_set1 Pg.len ps _ h (by decide) (by
 rw[Pg.cells,List.set_append_right _ _ (by rw[ints_len];exact Nat.le_refl _),ints_len];rfl)
theorem pgc_setat {ps:List Pg}{i k:Nat}{v:Int}(h:i<ps.length)(hk:k<8):(pgc ps).set (i*9+k) (.int .i32 v)=pgc (ps.set i ⟨λj=>if j=k then v else ps[i].g j,ps[i].refs⟩):=rows_set1 Pg.len ps _ h (by omega) (by
 rw[Pg.cells,List.set_append_left _ _ (by rw[ints_len];exact hk),ints_set];rfl)
theorem pgc_setpage {ps:List Pg}{i:Nat}(p:Pg)(h:i<ps.length):splice (pgc ps) (i*9) p.cells=pgc (ps.set i p):=rows_set Pg.len ps p h
theorem pgc_cells {ps:List Pg}{i:Nat}(h:i<ps.length):((pgc ps).drop (i*9)).take 8=ints .i32 8 ps[i].g:=by
 have:=rows_sub (k:=0) (m:=8) Pg.len ps h (by decide)
 simp only[Nat.add_zero,List.drop_zero]at this
 rw[pgc,this,Pg.cells,List.take_left' (ints_len _ _ _)]
theorem pgc_setcells {ps:List Pg}{i:Nat}{g:Nat→Int}(h:i<ps.length):splice (pgc ps) (i*9) (ints .i32 8 g)=pgc (ps.set i ⟨g,ps[i].refs⟩):=by
 have:=splice_at (k:=0) (vs:=ints .i32 8 g) Pg.len ps ⟨g,ps[i].refs⟩ h (by rw[ints_len];decide) (by
   simp only[splice,Pg.cells,List.take_zero,List.nil_append,ints_len,Nat.zero_add]
   rw[List.drop_left' (ints_len _ _ _)])
 rw[Nat.add_zero]at this;exact this
def Room (q b:Nat)(ps:List Pg):SP:=λh=>(ps.length≤200∧∀ p∈ps,p.refs<4611686018427387904)∧sepL [blk q 216 [.slice (some ⟨b,0,none⟩) ps.length ps.length],blk b 218 (pgc ps)] h
theorem Room.open {W w:World}{L:List SP}{q b:Nat}{ps:List Pg}(hs:St W w (Room q b ps::L)):(ps.length≤200∧∀ p∈ps,p.refs<4611686018427387904) ∧
   St W w (blk q 216 [.slice (some ⟨b,0,none⟩) ps.length ps.length]::blk b 218 (pgc ps)::L) :=
 ⟨hs.tell λ_ h=>h.1,hs.open λ_ h=>h.2⟩
theorem Room.close {W w:World}{L L' R:List SP}{q b n:Nat}{ps:List Pg}(hs:St W w L)(hn:ps.length=n)(h:ps.length≤200∧∀ p∈ps,p.refs<4611686018427387904)
   [k:Arr L (blk q 216 [.slice (some ⟨b,0,none⟩) n n]::blk b 218 (pgc ps)::L') R]:St W w (Room q b ps::L'):=by
 subst hn
 exact St.shut (M:=[_,_]) (hs.sub (M:=blk q 216 [.slice (some ⟨b,0,none⟩) ps.length ps.length]::blk b 218 (pgc ps)::L')) (λ_ x=>⟨h,x⟩)
theorem made9 (n:Nat):(madeCells (Value.cells (.agg #[.int .i32 0,.int .i32 0,.int .i32 0,.int .i32 0,.int .i32 0,.int .i32 0,.int .i32 0,.int .i32 0,.int .i64 0])) (n*9)).toList=pgc (List.replicate n pg0):=by
 apply List.ext_getElem?
 intro i
 by_cases hi:i<n*9
 · obtain⟨j,k,hk,rfl⟩:∃ j k,k<9∧i=j*9+k:=⟨i/9,i%9,Nat.mod_lt _ (by decide),by omega⟩
   have hj:j<(List.replicate n pg0).length:=by simp;omega
   have hv:(Pg.cells pg0)[k]?=some ((Pg.cells pg0)[k]'(by rw[Pg.len];exact hk)):=List.getElem?_eq_getElem _
   rw[pgc,rows_get Pg.len _ hj (by rw[List.getElem_replicate];exact hv)]
   simp only[madeCells,Value.cells,Array.toList_map,List.getElem?_map]
   rw[Array.toList_range,List.getElem?_range hi]
   have h1:(j*9+k)%9=k:=by omega
   simp only[Option.map_some,List.size_toArray,List.length_cons,List.length_nil,Nat.reduceAdd,h1,Option.some.injEq]
   rcases k with _ | _ | _ | _ | _ | _ | _ | _ | _ | k <;> first | rfl | omega
 · rw[List.getElem?_eq_none,List.getElem?_eq_none]
   · rw[pgc_len];simp;omega
   · simp[madeCells];omega
theorem page_new {W w:World}{L:List SP}{n:Nat}(hs:St W w L)(hn:n≤200) :
   Calls Tryz.prog 114 #[.int .i64 n] w λe w'=>∃ q b,e=.returned (pt q)∧St W w' (Room q b (List.replicate n pg0)::L):=by
 refine EN Tryz.func114 Tryz.ntmps114 rfl rfl λa ha=>?_
 refine RN 6 ha hs λa ha=>?_
 rw[show min (max (n:Int) 0) 200=(n:Int) from by omega]at ha
 refine st_makeSlice ha rfl hs Tryz.underlying214 Ty.t218 rfl (by omega) (by omega) λb6 a w ha hs ho=>?_
 clear ho
 rw[made9]at hs
 refine BX 1 ha hs λb8 a w ha hs=>?_
 refine RT 1 ha hs ?_
 refine⟨b8,b6,rfl,(Room.close (n:=_) hs List.length_replicate ⟨by simp;exact hn,?_⟩)⟩
 intro p hp
 rw[(List.mem_replicate.1 hp).2];decide
section
variable {W w:World}{L:List SP}{q b i:Nat}{ps:List Pg}
theorem page_at (hs:St W w (Room q b ps::L))(hi:i<ps.length)(hr:0<ps[i].refs) :
   Calls Tryz.prog 140 #[pt q,.int .i64 ((i:Int)+1)] w λe w'=>e=.returned (.pointer (some ⟨b,i*9,none⟩))∧St W w' (Room q b ps::L):=by
 obtain⟨hp,hs⟩:=Room.open hs
 refine EN Tryz.func140 Tryz.ntmps140 rfl rfl λa ha=>?_
 refine RN 7 ha hs λa ha=>?_
 replace ha:=ha.isF 7
 refine RN 4 ha hs λa ha=>?_
 rw[decide_eq_false (by omega)]at ha
 refine RN 9 ha hs λa ha=>?_
 rw[decide_eq_false (by omega)]at ha
 refine RN 6 ha hs λa ha=>?_
 rw[show (i:Int)+1-1=(i:Int) from by omega]at ha
 refine RN 2 ha hs λa ha=>?_
 refine st_set ha (wgT ha rfl (s:=20)) (ld1 ha (hs.rd1 (pgc_ref hi))) rfl λa ha=>?_
 refine RN 2 ha hs λa ha=>?_
 rw[decide_eq_false (by omega)]at ha
 refine RN 8 ha hs λa ha=>?_
 rw[show (i:Int)+1-1=(i:Int) from by omega]at ha
 refine RT 2 ha hs ?_
 exact⟨rfl,(Room.close (n:=_) hs rfl hp)⟩
theorem St.pgRd {R:List SP}{e:Nat}(hs:St W w L)[k:Blk L b e (pgc ps) R](hi:i<ps.length):Rd w b (i*9) (ints .i32 8 ps[i].g):=by
 rw[← pgc_cells hi];exact hs.rdN 8
theorem St.pgRd9 {R:List SP}{e:Nat}(hs:St W w L)[k:Blk L b e (pgc ps) R](hi:i<ps.length):Rd w b (i*9) ps[i].cells:=by
 rw[← rows_at Pg.len ps i hi];exact hs.rdN 9
theorem page_refs (hs:St W w (Room q b ps::L))(hi:i<ps.length)(hr:0<ps[i].refs) :
   Calls Tryz.prog 70 #[pt q,.int .i64 ((i:Int)+1)] w λe w'=>e=.returned (.int .i64 ps[i].refs)∧St W w' (Room q b ps::L):=by
 refine EN Tryz.func70 Tryz.ntmps70 rfl rfl λa ha=>?_
 refine CL 5 ha hs (page_at hs hi hr) λa w ha hs=>?_
 refine RN 5 ha hs λa ha=>?_
 replace ha:=ha.isF 10
 refine RN 2 ha hs λa ha=>?_
 obtain⟨hp,hs⟩:=Room.open hs
 refine RN 3 ha hs λa ha=>?_
 refine SS ha (ld1 ha (hs.rd1 (pgc_ref hi))) λa ha=>?_
 refine RT 1 ha hs ?_
 exact⟨rfl,(Room.close (n:=_) hs rfl hp)⟩
theorem refsSet {ps:List Pg}{i r:Nat}{g:Nat→Int}(hp:ps.length≤200∧∀ p∈ps,p.refs<4611686018427387904)(hr:r<4611686018427387904) :
   (ps.set i ⟨g,r⟩).length≤200∧∀ p∈ps.set i ⟨g,r⟩,p.refs<4611686018427387904:=by
 refine⟨by rw[List.length_set];exact hp.1,λp h=>?_⟩
 rcases List.mem_or_eq_of_mem_set h with h | h
 · exact hp.2 p h
 · rw[h];exact hr
theorem page_hold (hs:St W w (Room q b ps::L))(hi:i<ps.length)(hr:0<ps[i].refs)(hb:ps[i].refs+1<4611686018427387904) :
   Calls Tryz.prog 232 #[pt q,.int .i64 ((i:Int)+1)] w λe w'=>e=.returned (.bool true)∧St W w' (Room q b (ps.set i ⟨ps[i].g,ps[i].refs+1⟩)::L):=by
 refine EN Tryz.func232 Tryz.ntmps232 rfl rfl λa ha=>?_
 refine CL 5 ha hs (page_at hs hi hr) λa w ha hs=>?_
 refine RN 5 ha hs λa ha=>?_
 replace ha:=ha.isT 10
 refine RN 1 ha hs λa ha=>?_
 obtain⟨hp,hs⟩:=Room.open hs
 refine RN 3 ha hs λa ha=>?_
 refine SS ha (ld1 ha (hs.rd1 (pgc_ref hi))) λa ha=>?_
 refine ST 3 ha hs (λa w ha hs=>?_) (hlt:=(by rw[pgc_len];omega))
 rw[show ((ps[i].refs:Int)+1)=((ps[i].refs+1:Nat):Int) from rfl,pgc_setref hi]at hs
 refine RT 4 ha hs ?_
 exact⟨rfl,(Room.close (n:=ps.length) hs List.length_set (refsSet hp hb))⟩
theorem page_drop (hs:St W w (Room q b ps::L))(hi:i<ps.length)(hr:0<ps[i].refs) :
   Calls Tryz.prog 226 #[pt q,.int .i64 ((i:Int)+1)] w λe w'=>e=.returned (.bool true)∧St W w' (Room q b (ps.set i ⟨ps[i].g,ps[i].refs-1⟩)::L):=by
 refine EN Tryz.func226 Tryz.ntmps226 rfl rfl λa ha=>?_
 refine CL 5 ha hs (page_at hs hi hr) λa w ha hs=>?_
 refine RN 5 ha hs λa ha=>?_
 replace ha:=ha.isT 10
 refine RN 1 ha hs λa ha=>?_
 obtain⟨hp,hs⟩:=Room.open hs
 have hb:=hp.2 _ (List.getElem_mem hi)
 refine RN 3 ha hs λa ha=>?_
 refine SS ha (ld1 ha (hs.rd1 (pgc_ref hi))) λa ha=>?_
 refine ST 3 ha hs (λa w ha hs=>?_) (hlt:=(by rw[pgc_len];omega))
 rw[show ((ps[i].refs:Int)-1)=((ps[i].refs-1:Nat):Int) from by omega,pgc_setref hi]at hs
 refine RT 4 ha hs ?_
 exact⟨rfl,(Room.close (n:=ps.length) hs List.length_set (refsSet hp (by omega)))⟩
theorem page_get {k:Nat}(hs:St W w (Room q b ps::L))(hi:i<ps.length)(hr:0<ps[i].refs)(hk:k<8) :
   Calls Tryz.prog 199 #[pt q,.int .i64 ((i:Int)+1),.int .i64 k] w λe w'=>e=.returned (.tuple #[.int .i32 (ps[i].g k),.bool true])∧St W w' (Room q b ps::L):=by
 refine EN Tryz.func199 Tryz.ntmps199 rfl rfl λa ha=>?_
 refine CL 6 ha hs (page_at hs hi hr) λa w ha hs=>?_
 refine RN 6 ha hs λa ha=>?_
 replace ha:=ha.isF 14
 refine RN 4 ha hs λa ha=>?_
 rw[decide_eq_false (by omega)]at ha
 refine RN 3 ha hs λa ha=>?_
 rw[decide_eq_false (by omega)]at ha
 refine RN 2 ha hs λa ha=>?_
 obtain⟨hp,hs⟩:=Room.open hs
 refine RN 5 ha hs λa ha=>?_
 refine SS ha (ld1 ha (hs.rd1 (pgc_at hi hk))) λa ha=>?_
 refine RT 2 ha hs ?_
 exact⟨rfl,(Room.close (n:=_) hs rfl hp)⟩
theorem page_set {k:Nat}{v:Int}(hs:St W w (Room q b ps::L))(hi:i<ps.length)(hr:ps[i].refs=1)(hk:k<8) :
   Calls Tryz.prog 118 #[pt q,.int .i64 ((i:Int)+1),.int .i64 k,.int .i32 v] w λe w'=>e=.returned (.bool true)∧St W w' (Room q b (ps.set i ⟨λj=>if j=k then v else ps[i].g j,1⟩)::L):=by
 refine EN Tryz.func118 Tryz.ntmps118 rfl rfl λa ha=>?_
 refine CL 5 ha hs (page_at hs hi (by omega)) λa w ha hs=>?_
 refine RN 6 ha hs λa ha=>?_
 replace ha:=ha.isF 15
 refine RN 4 ha hs λa ha=>?_
 rw[decide_eq_false (by omega)]at ha
 refine RN 4 ha hs λa ha=>?_
 obtain⟨hp,hs⟩:=Room.open hs
 rw[decide_eq_false (by omega)]at ha
 refine RN 3 ha hs λa ha=>?_
 refine st_set ha (wgT ha rfl (s:=23)) (ld1 ha (hs.rd1 (pgc_ref hi))) rfl λa ha=>?_
 refine RN 2 ha hs λa ha=>?_
 rw[decide_eq_false (by omega)]at ha
 refine ST 8 ha hs (λa w ha hs=>?_) (hlt:=(by rw[pgc_len];omega))
 rw[pgc_setat hi hk,hr]at hs
 refine RT 2 ha hs ?_
 exact⟨rfl,(Room.close (n:=ps.length) hs List.length_set (refsSet hp (by omega)))⟩
def freeI (ps:List Pg)(i:Nat):Prop:=∃ h:i<ps.length,ps[i].refs=0∧∀ j,(hj:j<i)→0<ps[j].refs
def noneFree (ps:List Pg):Prop:=∀ j,(h:j<ps.length)→0<ps[j].refs
theorem free_cases (ps:List Pg):noneFree ps∨∃ i,freeI ps i:=by
 have aux:∀ n,(∀ j,(h:j<ps.length)→j<n→0<ps[j].refs)∨∃ i,freeI ps i:=by
   intro n
   induction n with
   | zero=>exact .inl λj _ h=>by omega
   | succ n ih =>
     rcases ih with h | h
     · by_cases hn:n<ps.length
       · by_cases h0:ps[n].refs=0
         · exact .inr ⟨n,hn,h0,λj hj=>h j (by omega) hj⟩
         · refine .inl λj hj hjn=>?_
           rcases Nat.lt_or_ge j n with h1 | h1
           · exact h j hj h1
           · obtain rfl:j=n:=by omega
             omega
       · exact .inl λj hj hjn=>h j hj (by omega)
     · exact .inr h
 rcases aux ps.length with h | h
 · exact .inl λj hj=>h j hj hj
 · exact .inr h
theorem page_take_some (hs:St W w (Room q b ps::L))(hf:freeI ps i) :
   Calls Tryz.prog 116 #[pt q] w λe w'=>e=.returned (.tuple #[.int .i64 ((i:Int)+1),.bool true])∧St W w' (Room q b (ps.set i pg1)::L):=by
 obtain⟨hi,h0,hlow⟩:=hf
 obtain⟨hp,hs⟩:=Room.open hs
 refine EN Tryz.func116 Tryz.ntmps116 rfl rfl λa ha=>?_
 refine RN 7 ha hs λa ha=>?_
 replace ha:=ha.isF 6
 refine RN 9 ha hs λa ha=>?_
 refine wp_loop_ghost (λμ a w=>∃ k:Nat,(μ=i-k∧k≤i)∧Fr a 34 [(0,pt q),(11,.int .i64 ps.length),(12,.int .i64 k)]∧St W w (blk q 216 [.slice (some ⟨b,0,none⟩) ps.length ps.length]::blk b 218 (pgc ps)::L)) (i) (⟨0,⟨by simp,by simp⟩,ha.keep [0,11,12],hs.sub⟩) ?_
 clear ha hs
 rintro μ a w ⟨k,⟨rfl,hk⟩,ha,hs⟩
 refine RN 3 ha hs λa ha=>?_
 rw[decide_eq_true (by omega)]at ha
 refine RN 13 ha hs λa ha=>?_
 refine SS ha (ld1 ha (hs.rd1 (pgc_ref (by omega)))) λa ha=>?_
 refine IF 1 ha hs (λhc2 a ha=>?_) λhc2 a ha=>?_
 ·
  obtain rfl : k = i := by
      rcases Nat.lt_or_ge k i with h | h
      · have:=hlow k h;omega
      · omega
  refine RN 8 ha hs λa ha=>?_
  refine st_storeN ha rfl hs Ty.t218 (by simp[Value.oneCell']) (by rw[pgc_len];simp;omega) λa w ha hs=>?_
  replace hs:=hs.bring b
  change St W w (blk b 218 (splice (pgc ps) (k*9) pg1.cells)::_) at hs
  rw[pgc_setpage pg1 hi]at hs
  refine RT 5 ha hs ?_
  exact⟨rfl,(Room.close (n:=ps.length) hs List.length_set (refsSet (g:=λ_=>0) (r:=1) hp (by omega)))⟩
 have hki : k < i := by
     rcases Nat.lt_or_ge k i with h | h
     · exact h
     · obtain rfl:k=i:=by omega
       omega
 refine RN 2 ha hs λa ha=>?_
 exact⟨i-(k+1),by omega,k+1,⟨rfl,by omega⟩,ha.keep [0,11,12],hs.sub⟩
theorem page_take_none (hs:St W w (Room q b ps::L))(hf:noneFree ps) :
   Calls Tryz.prog 116 #[pt q] w λe w'=>e=.returned (.tuple #[.int .i64 0,.bool false])∧St W w' (Room q b ps::L):=by
 obtain⟨hp,hs⟩:=Room.open hs
 refine EN Tryz.func116 Tryz.ntmps116 rfl rfl λa ha=>?_
 refine RN 7 ha hs λa ha=>?_
 replace ha:=ha.isF 6
 refine RN 9 ha hs λa ha=>?_
 refine wp_loop_ghost (λμ a w=>∃ k:Nat,(μ=ps.length-k∧k≤ps.length)∧Fr a 34 [(0,pt q),(11,.int .i64 ps.length),(12,.int .i64 k)]∧St W w (blk q 216 [.slice (some ⟨b,0,none⟩) ps.length ps.length]::blk b 218 (pgc ps)::L)) (ps.length) (⟨0,⟨by simp,by simp⟩,ha.keep [0,11,12],hs.sub⟩) ?_
 clear ha hs
 rintro μ a w ⟨k,⟨rfl,hk⟩,ha,hs⟩
 refine IF 3 ha hs (λhc1 a ha=>?_) λhc1 a ha=>?_
 ·
  refine RN 12 ha hs λa ha=>?_
  have hk2:=hf k (by omega)
  refine SS ha (ld1 ha (hs.rd1 (pgc_ref (by omega)))) λa ha=>?_
  refine RN 1 ha hs λa ha=>?_
  rw[decide_eq_false (by omega)]at ha
  refine RN 3 ha hs λa ha=>?_
  exact⟨ps.length-(k+1),by omega,k+1,⟨rfl,by omega⟩,ha.keep [0,11,12],hs.sub⟩
 refine RT 3 ha hs ?_
 exact⟨rfl,(Room.close (n:=_) hs rfl hp)⟩
theorem page_copy_none (hs:St W w (Room q b ps::L))(hi:i<ps.length)(hr:0<ps[i].refs)(hf:noneFree ps) :
   Calls Tryz.prog 315 #[pt q,.int .i64 ((i:Int)+1)] w λe w'=>e=.returned (.tuple #[.int .i64 0,.bool false])∧St W w' (Room q b ps::L):=by
 refine EN Tryz.func315 Tryz.ntmps315 rfl rfl λa ha=>?_
 refine CL 6 ha hs (page_at hs hi hr) λa w ha hs=>?_
 refine RN 5 ha hs λa ha=>?_
 replace ha:=ha.isF 13
 refine CL 3 ha hs (page_take_none hs hf) λa w ha hs=>?_
 refine RN 8 ha hs λa ha=>?_
 replace ha:=ha.isF 19
 refine RT 6 ha hs ?_
 exact⟨rfl,hs⟩
theorem page_copy_some {k:Nat}(hs:St W w (Room q b ps::L))(hi:i<ps.length)(hr:0<ps[i].refs)(hf:freeI ps k) :
   Calls Tryz.prog 315 #[pt q,.int .i64 ((i:Int)+1)] w λe w'=>e=.returned (.tuple #[.int .i64 ((k:Int)+1),.bool true])∧St W w' (Room q b (ps.set k ⟨ps[i].g,1⟩)::L):=by
 have hk:=hf.1
 have hne:k≠i:=by
   rintro rfl
   obtain⟨_,h,_⟩:=hf
   omega
 have hkl:k<(ps.set k pg1).length:=by rw[List.length_set];exact hk
 have hil:i<(ps.set k pg1).length:=by rw[List.length_set];exact hi
 have e1:(ps.set k pg1)[k]=pg1:=by rw[List.getElem_set_self]
 have e2:(ps.set k pg1)[i]=ps[i]:=by rw[List.getElem_set_ne hne]
 refine EN Tryz.func315 Tryz.ntmps315 rfl rfl λa ha=>?_
 refine CL 6 ha hs (page_at hs hi hr) λa w ha hs=>?_
 refine RN 5 ha hs λa ha=>?_
 replace ha:=ha.isF 13
 refine CL 3 ha hs (page_take_some hs hf) λa w ha hs=>?_
 refine RN 8 ha hs λa ha=>?_
 replace ha:=ha.isT 19
 refine DWC 1 (λw0 w'=>Rd w' b (i*9) (ints .i32 8 ps[i].g)) [2] [0,1,3,4,5,3006,1002,7,8,1009] ha hs λa w ha hs hH=>?_
 have hC : Rd w b (i * 9) (ints .i32 8 ps[i].g) := by
     have:=St.pgRd (b:=b) (e:=218) (Room.open hs).2 hil
     rwa [e2]at this
 refine RH 5 ha hs hH hC λa ha=>?_
 refine QH ha (λw hc=>ex_loadN ha Tryz.underlying194 rfl Ty.t194 (hc)) hC λa ha=>?_
 refine RH 0 ha hs hH hC λa ha=>?_
 refine CL 0 ha hs (page_at hs hkl (by rw[e1];decide)) λa w ha hs=>?_
 replace hC : (fun w' => Rd w' b (i * 9) (ints .i32 8 ps[i].g)) w := by
     have:=St.pgRd (b:=b) (e:=218) (Room.open hs).2 hil
     rwa [e2]at this
 refine RH 2 ha hs hH hC λa ha=>?_
 obtain⟨hp,hs⟩:=Room.open hs
 refine st_storeN ha rfl hs Ty.t194 ints_one (by rw[pgc_len,ints_len];omega) λa w ha hs=>?_
 rw[pgc_setcells hkl,List.set_set,e1,show pg1.refs=1 from rfl]at hs
 refine RT 5 ha hs ?_
 exact⟨rfl,(Room.close (n:=(ps.set k pg1).length) hs (by rw[List.length_set,List.length_set]) (by have:=refsSet (g:=ps[i].g) (r:=1) (i:=k) hp (by decide);rwa [List.set_set]at this))⟩
def usedN (ps:List Pg):Nat:=ps.countP λp=>decide (0<p.refs)
theorem used_le (ps:List Pg):usedN ps≤ps.length:=List.countP_le_length
theorem used_succ {ps:List Pg}{k:Nat}(h:k<ps.length):usedN (ps.take (k+1))=usedN (ps.take k)+if 0<ps[k].refs then 1 else 0:=by
 rw[usedN,List.take_succ_eq_append_getElem h,List.countP_append,usedN,List.countP_singleton]
 by_cases h:0<ps[k].refs <;> simp[h]
theorem page_used (hs:St W w (Room q b ps::L)) :
   Calls Tryz.prog 68 #[pt q] w λe w'=>e=.returned (.int .i64 (usedN ps))∧St W w' (Room q b ps::L):=by
 obtain⟨hp,hs⟩:=Room.open hs
 refine EN Tryz.func68 Tryz.ntmps68 rfl rfl λa ha=>?_
 refine RN 6 ha hs λa ha=>?_
 replace ha:=ha.isF 7
 refine RN 11 ha hs λa ha=>?_
 refine wp_loop_ghost (λμ a w=>∃ k:Nat,(μ=ps.length-k∧k≤ps.length)∧Fr a 24 [(3,.int .i64 (usedN (ps.take k))),(11,.slice (some ⟨b,0,none⟩) ps.length ps.length),(12,.int .i64 ps.length),(13,.int .i64 k)]∧St W w (blk q 216 [.slice (some ⟨b,0,none⟩) ps.length ps.length]::blk b 218 (pgc ps)::L)) (ps.length) (⟨0,⟨by simp,by simp⟩,ha.keep [3,11,12,13],hs.sub⟩) ?_
 clear ha hs
 rintro μ a w ⟨k,⟨rfl,hk⟩,ha,hs⟩
 have hul:=used_le (ps.take k)
 rw[List.length_take]at hul
 refine IF 3 ha hs (λhc1 a ha=>?_) λhc1 a ha=>?_
 ·
  have hk3:k<ps.length:=by omega
  have hul2:=used_succ hk3
  refine RN 3 ha hs λa ha=>?_
  refine SS ha (ex_loadN ha Tryz.underlying218 rfl Ty.t218 (hs.pgRd9 hk3)) λa ha=>?_
  refine AL 0 ha hs λb5 a w ha hs=>?_
  refine RN 0 ha hs λa ha=>?_
  refine st_storeN ha rfl hs Ty.t218 (Pg.one _) (by rw[Pg.len];exact Nat.le_refl _) λa w ha hs=>?_
  rw[show splice _ 0 ps[k].cells=ps[k].cells from by simp[splice,Pg.len]]at hs
  refine RN 2 ha hs λa ha=>?_
  refine SS ha (ld1 ha (hs.rd1 (show ps[k].cells[8]?=some (.int .i64 ps[k].refs) from by simp[Pg.cells,ints_len]))) λa ha=>?_
  refine IF 1 ha hs (λhc2 a ha=>?_) λhc2 a ha=>?_
  ·
   rw[if_pos (by omega)]at hul2
   refine RN 5 ha hs λa ha=>?_
   exact⟨ps.length-(k+1),by omega,k+1,⟨rfl,by omega⟩,by rw[hul2];exact ha.keep [3,11,12,13],hs.sub⟩
  rw[if_neg (by omega)]at hul2
  refine RN 2 ha hs λa ha=>?_
  exact⟨ps.length-(k+1),by omega,k+1,⟨rfl,by omega⟩,by rw[hul2];exact ha.keep [3,11,12,13],hs.sub⟩
 refine RT 3 ha hs ?_
 obtain rfl:k=ps.length:=by omega
 rw[List.take_length]
 exact⟨rfl,(Room.close (n:=_) hs rfl hp)⟩
theorem page_free (hs:St W w (Room q b ps::L)) :
   Calls Tryz.prog 176 #[pt q] w λe w'=>e=.returned (.int .i64 ((ps.length-usedN ps:Nat):Int))∧St W w' (Room q b ps::L):=by
 have hul:=used_le ps
 have hp:=(Room.open hs).1
 refine EN Tryz.func176 Tryz.ntmps176 rfl rfl λa ha=>?_
 refine RN 6 ha hs λa ha=>?_
 replace ha:=ha.isF 4
 refine DWC 2 (λw0 w'=>w'.cell? ⟨q,0,none⟩=some (.slice (some ⟨b,0,none⟩) ps.length ps.length)) [6] [0,1,2,5,3003,4,1006,7,8] ha hs λa w ha hs hH=>?_
 have hC:=hH.at w ((Room.open hs).2.rd1 rfl)
 refine RH 4 ha hs hH hC λa ha=>?_
 refine QH ha (λw hc=>ld1 ha (hc)) hC λa ha=>?_
 refine RH 1 ha hs hH hC λa ha=>?_
 refine CL 0 ha hs (page_used hs) λa w ha hs=>?_
 replace hC:=hH.at w ((Room.open hs).2.rd1 rfl)
 refine RH 2 ha hs hH hC λa ha=>?_
 refine RT 0 ha hs ?_
 exact⟨by rw[show ((ps.length-usedN ps:Nat):Int)=(ps.length:Int)-(usedN ps:Int) from by omega],hs⟩
end
end
section
def MapIs (es:Array MapEntry)(clock:Nat)(kvs:List (Int×Value)):Prop :=
 es.toList.map (λe=>(e.key,e.val))=kvs.map (λp=>(Value.int .i64 p.1,p.2))∧MapKept.Stamped es clock∧∀ p∈kvs,(Lit.int .i64 p.1).wf=true
def mp (b:Nat)(kvs:List (Int×Value)):SP:=λh=>∃ es clock,h b=some (.map es clock)∧MapIs es clock kvs
def findP:List (Int×Value)→Int→Nat→Option (Nat×Value)
 | [],_,_=>none
 | p::r,k,i=>if p.1=k then some (i,p.2) else findP r k (i+1)
theorem findP_none {kvs:List (Int×Value)}{k:Int}(h:∀ p∈kvs,p.1≠k):∀ i,findP kvs k i=none:=by
 induction kvs with
 | nil=>intro i;rfl
 | cons p r ih =>
   intro i
   rw[findP,if_neg (h p List.mem_cons_self)]
   exact ih (λq hq=>h q (List.mem_cons_of_mem _ hq)) _
theorem findP_some {kvs:List (Int×Value)}{k:Int}{v:Value}:∀ {j:Nat} (i:Nat),kvs[j]?=some (k,v)→(∀ j',j'<j→∀ p,kvs[j']?=some p→p.1≠k)→findP kvs k i=some (i+j,v):=by
 induction kvs with
 | nil=>intro j i h;simp at h
 | cons p r ih =>
   intro j i h hl
   cases j with
   | zero=>simp at h;subst h;simp[findP]
   | succ j =>
     rw[findP,if_neg (hl 0 (by omega) p rfl),ih (i+1) (by simpa using h) (λj' hj q hq=>hl (j'+1) (by omega) q (by simpa using hq))]
     rw[show i+1+j=i+(j+1) from by omega]
theorem findNow_is (k:Int):∀ (es:List MapEntry) (kvs:List (Int×Value)) (i:Nat),es.map (λe=>(e.key,e.val))=kvs.map (λp=>(Value.int .i64 p.1,p.2))→Instr.findNow (.int .i64) (.int .i64 k) es i=some (findP kvs k i)
 | [],[],i,_=>rfl
 | [],_::_,_,h=>by simp at h
 | _::_,[],_,h=>by simp at h
 | e::es,p::kvs,i,h=>by
   simp only[List.map_cons,List.cons.injEq,Prod.mk.injEq]at h
   obtain⟨⟨h1,h2⟩,h3⟩:=h
   simp only[Instr.findNow,h1,Instr.sameNow,findP]
   by_cases hk:p.1=k
   · simp[hk,h2]
   · have:(k==p.1)=false:=by simp;exact λe=>hk e.symm
     simp only[this,if_neg hk]
     exact findNow_is k es kvs (i+1) h3
theorem mapErase {α β:Type}(f:α→β)(l:List α)(i:Nat):(l.eraseIdx i).map f=(l.map f).eraseIdx i:=by
 simp only[List.eraseIdx_eq_take_drop_succ,List.map_append,List.map_take,List.map_drop]
section
variable {W w:World}{L:List SP}{b:Nat}{kvs:List (Int×Value)}
theorem St.mpHas (hs:St W w (mp b kvs::L)):∃ es clock,MapIs es clock kvs∧St W w (pts b (.map es clock)::L):=by
 obtain⟨⟨es,clock⟩,h1,h2⟩:=hs.exi (ι:=Array MapEntry×Nat) (p:=λi=>MapIs i.1 i.2 kvs) (B:=λi=>pts b (.map i.1 i.2)) (λh ⟨es,clock,h1,h2⟩=>⟨(es,clock),h2,h1⟩)
 exact⟨es,clock,h1,h2⟩
theorem St.mpShut {es:Array MapEntry}{clock:Nat}(hs:St W w (pts b (.map es clock)::L))(h:MapIs es clock kvs):St W w (mp b kvs::L) :=
 St.shut (M:=[_]) hs (λ_ x=>by
   obtain⟨_,_,_,a,_,y,_⟩:=x
   exact⟨es,clock,a _ _ y,h⟩)
theorem MapIs.nil:MapIs #[] 0 []:=⟨rfl,⟨by simp,by simp,by simp⟩,by simp⟩
theorem MapIs.push {es:Array MapEntry}{clock:Nat}{k:Int}{v:Value}(h:MapIs es clock kvs)(hw:(Lit.int .i64 k).wf=true)(hn:∀ p∈kvs,p.1≠k):MapIs (es.push ⟨.int .i64 k,v,clock⟩) (clock+1) (kvs++[(k,v)]):=by
 obtain⟨h1,⟨h2,h3,h4⟩,h5⟩:=h
 refine⟨by simp[h1],⟨λx hx=>?_,?_,?_⟩,λp hp=>?_⟩
 · simp only[Array.toList_push,List.mem_append,List.mem_singleton]at hx
   rcases hx with hx | rfl
   · have:=h2 x hx;omega
   · exact Nat.lt_succ_self _
 · simp only[Array.toList_push,List.map_append,List.map_cons,List.map_nil]
   refine List.nodup_append.2 ⟨h3,by simp,λx hx y hy=>?_⟩
   simp only[List.mem_map]at hx
   obtain⟨e,he,rfl⟩:=hx
   have:=h2 e he
   simp at hy;omega
 · simp only[Array.toList_push,List.map_append,List.map_cons,List.map_nil]
   refine List.nodup_append.2 ⟨h4,by simp,λx hx y hy=>?_⟩
   simp only[List.mem_map]at hx
   obtain⟨e,he,rfl⟩:=hx
   have hm:(e.key,e.val)∈es.toList.map (λe=>(e.key,e.val)):=List.mem_map.2 ⟨e,he,rfl⟩
   rw[h1]at hm
   obtain⟨p,hp,hpe⟩:=List.mem_map.1 hm
   simp only[Prod.mk.injEq]at hpe
   simp at hy
   rw[hy,← hpe.1]
   intro e2
   simp at e2
   exact hn p hp e2
 · rcases List.mem_append.1 hp with h | h
   · exact h5 p h
   · simp at h;subst h;exact hw
theorem MapIs.erase {es:Array MapEntry}{clock:Nat}(h:MapIs es clock kvs)(i:Nat):MapIs (es.eraseIdxIfInBounds i) clock (kvs.eraseIdx i):=by
 obtain⟨h1,⟨h2,h3,h4⟩,h5⟩:=h
 have ht:(es.eraseIdxIfInBounds i).toList=es.toList.eraseIdx i:=by simp[Array.toList_eraseIdxIfInBounds]
 have hm:∀ {β:Type} (f:MapEntry→β),(es.toList.eraseIdx i).map f=(es.toList.map f).eraseIdx i:=λf=>mapErase f _ i
 refine⟨by rw[ht,hm,h1,mapErase],⟨λx hx=>h2 x (List.mem_of_mem_eraseIdx (ht ▸ hx)),?_,?_⟩,λp hp=>h5 p (List.mem_of_mem_eraseIdx hp)⟩
 · rw[ht,hm];exact h3.sublist (List.eraseIdx_sublist _ _)
 · rw[ht,hm];exact h4.sublist (List.eraseIdx_sublist _ _)
end
section
variable {P:Program}{ops:Array Oper}{Q:Exit→Act→World→Prop}{a:Act}{w w' W:World}{K:Act→World→Prop}{n d:Nat}{l:List (Nat×Value)}{v:Value}{L R:List SP}{kvs:List (Int×Value)}
class PickM (L:List SP)(b:Nat)(kvs:outParam (List (Int×Value)))(R:outParam (List SP)):Prop where perm:L.Perm (mp b kvs::R)
instance PickM.head {L b kvs}:PickM (mp b kvs::L) b kvs L:=⟨List.Perm.refl _⟩
instance (priority:=low) PickM.tail {A L b kvs R}[h:PickM L b kvs R]:PickM (A::L) b kvs (A::R):=⟨(List.Perm.cons A h.perm).trans (List.Perm.swap _ _ _)⟩
theorem run_setMap {b:Nat}{es es':Array MapEntry}{c c':Nat}(h:w.heap[b]?=some (.map es c)):(setObj b (.map es' c')).run P w=.ok () (ChangeMaps.setBlock w b (.map es' c')):=by
 simp only[setObj,Sem.run,h]
 rfl
theorem checkKey_n {kt:TypeId}{em:Bool}{k:Int}(hk:P.underlying kt=some (.int .i64))(n:Nat):(Instr.checkKey em (n+1) kt (.int .i64 k)).run P w=.ok () w:=by
 simp only[Instr.checkKey,Sem.run_bind,run_underlying hk,Result.andThen_ok]
 rfl
theorem checkKey_int {kt:TypeId}{em:Bool}{k:Int}(hk:P.underlying kt=some (.int .i64)):(Instr.checkKey em 10000 kt (.int .i64 k)).run P w=.ok () w :=
 checkKey_n hk 9999
theorem findKey_is {es:Array MapEntry}{clock:Nat}{kt:TypeId}{k:Int}(hk:P.underlying kt=some (.int .i64))(h:MapIs es clock kvs):(Instr.findKey kt (.int .i64 k) es.toList).run P w=.ok (findP kvs k 0) w:=by
 simp[Instr.findKey,run_underlying hk,findNow_is k es.toList kvs 0 h.1]
theorem st_makeMap {t ty ps af g}(ha:Fr a n l)(hw:Region.wanted ⟨some d,.makeMap t none,ty,ps,af,g⟩ (yielded ops a.tmps)=true)(hs:St W w L)(hf:okB d n l=true)
   (h:∀ b a' w',Fr a' n ((d,.map (some b))::l)→St W w' (mp b []::L)→Old w w'→K a' w'):StepK P ops Q ⟨some d,.makeMap t none,ty,ps,af,g⟩ K a w:=by
 refine st_set (v:=.map (some w.heap.size)) (w':=w.alloc (.map #[] 0)) ha hw ?_ hf (λa' ha'=>h _ _ _ ha' (St.mpShut (hs.alloc (.map #[] 0)) MapIs.nil) (Old.alloc _ _))
 simp[execOp,Instr.makeMap,newObj,Sem.run]
theorem ex_lookup {x y b t kt et k z sz by' dst ty ps af g}{R:List SP}(ha:Fr a n l)(ht:P.underlying t=some (.map kt et))(hk:P.underlying kt=some (.int .i64))(hi:TI P et z sz by')(hs:St W w L)
   [ev:Ev l x (.map (some b))] [ey:Ev l y (.int .i64 k)] [pk:PickM L b kvs R] (hv:((findP kvs k 0).map (·.2)).getD z=v) :
   (execOp a.eval ⟨dst,.lookup t x y false,ty,ps,af,g⟩).run P w=.ok (.value v) w:=by
 obtain⟨es,clock,h1,h2⟩:=(hs.perm pk.perm).mpHas
 have hg:=MapKept.run_getObj_map (P:=P) h2.has.2
 have h3:(Instr.lookup t (.map (some b)) (.int .i64 k) false).run P w=.ok v w:=by
   simp only[Instr.lookup,Sem.run_bind,run_underlying ht,Result.andThen_ok,hg]
   simp only[Sem.run_pure,Result.andThen_ok,checkKey_int hk,findKey_is hk h1]
   cases hf:findP kvs k 0 with
   | none=>rw[hf]at hv;simp at hv;simp[run_zero hi,hv]
   | some p=>rw[hf]at hv;simp at hv;simp[hv]
 simp[execOp,ev.ev a n ha,ey.ev a n ha,h3]
theorem st_mapUpdate {x y u b t kt et k ty ps af g}{R:List SP}(ha:Fr a n l)(hw:Region.wanted ⟨none,.mapUpdate t x y u,ty,ps,af,g⟩ (yielded ops a.tmps)=true)(hs:St W w L)
   (ht:P.underlying t=some (.map kt et)) (hk:P.underlying kt=some (.int .i64)) [ev:Ev l x (.map (some b))] [ey:Ev l y (.int .i64 k)] [eu:Ev l u v] [pk:PickM L b kvs R]
   (hwf:(Lit.int .i64 k).wf=true) (hn:∀ p∈kvs,p.1≠k)
   (h:∀ a' w',Fr a' n l→St W w' (mp b (kvs++[(k,v)])::R)→K a' w'):StepK P ops Q ⟨none,.mapUpdate t x y u,ty,ps,af,g⟩ K a w:=by
 obtain⟨es,clock,h1,h2⟩:=(hs.perm pk.perm).mpHas
 have hg:=MapKept.run_getObj_map (P:=P) h2.has.2
 have hb:b<w.heap.size:=(Array.getElem?_eq_some_iff.1 h2.has.2).1
 have h3:(Instr.mapUpdate t (.map (some b)) (.int .i64 k) v).run P w=.ok () (ChangeMaps.setBlock w b (.map (es.push ⟨.int .i64 k,v,clock⟩) (clock+1))):=by
   simp only[Instr.mapUpdate,Sem.run_bind,run_underlying ht,Result.andThen_ok,hg]
   simp only[Sem.run_pure,Result.andThen_ok,checkKey_int hk,findKey_is hk h1,findP_none hn]
   simp[run_setMap h2.has.2]
 have h4:=h2.upd (o':=.map (es.push ⟨.int .i64 k,v,clock⟩) (clock+1)) (w':=ChangeMaps.setBlock w b (.map (es.push ⟨.int .i64 k,v,clock⟩) (clock+1))) rfl rfl rfl rfl
 refine st_act (w':=ChangeMaps.setBlock w b (.map (es.push ⟨.int .i64 k,v,clock⟩) (clock+1))) ha hw ?_ (λa' ha'=>h a' _ ha' (h4.mpShut (h1.push hwf hn)))
 simp[execOp,ev.ev a n ha,ey.ev a n ha,eu.ev a n ha,h3]
theorem st_mapDelete {x y b t kt et k i ty ps af g}{R:List SP}(ha:Fr a n l)(hw:Region.wanted ⟨none,.call ⟨.builtin .delete,#[x,y],#[t,kt]⟩,ty,ps,af,g⟩ (yielded ops a.tmps)=true)(hs:St W w L)
   (ht:P.underlying t=some (.map kt et)) (hk:P.underlying kt=some (.int .i64)) [ev:Ev l x (.map (some b))] [ey:Ev l y (.int .i64 k)] [pk:PickM L b kvs R] (hi:findP kvs k 0=some (i,v))
   (h:∀ a' w',Fr a' n l→St W w' (mp b (kvs.eraseIdx i)::R)→K a' w'):StepK P ops Q ⟨none,.call ⟨.builtin .delete,#[x,y],#[t,kt]⟩,ty,ps,af,g⟩ K a w:=by
 obtain⟨es,clock,h1,h2⟩:=(hs.perm pk.perm).mpHas
 have hg:=MapKept.run_getObj_map (P:=P) h2.has.2
 have hb:b<w.heap.size:=(Array.getElem?_eq_some_iff.1 h2.has.2).1
 have h3:(Builtin.delete_ #[t,kt] ty #[.map (some b),.int .i64 k]).run P w=.ok (.tuple #[]) (ChangeMaps.setBlock w b (.map (es.eraseIdxIfInBounds i) clock)):=by
   simp only[Builtin.delete_,List.getElem?_toArray,List.getElem?_cons_zero,List.getElem?_cons_succ]
   simp only[Sem.run_bind,run_underlying ht,Result.andThen_ok,hg]
   simp only[Sem.run_pure,Result.andThen_ok,checkKey_int hk,findKey_is hk h1,hi]
   simp[run_setMap h2.has.2]
 have h4:=h2.upd (o':=.map (es.eraseIdxIfInBounds i) clock) (w':=ChangeMaps.setBlock w b (.map (es.eraseIdxIfInBounds i) clock)) rfl rfl rfl rfl
 refine st_none (v:=.tuple #[]) (w':=ChangeMaps.setBlock w b (.map (es.eraseIdxIfInBounds i) clock)) ha hw ?_ (λa' ha'=>h a' _ ha' (h4.mpShut (h1.erase i)))
 simp[execOp,resolve,ev.ev a n ha,ey.ev a n ha,invoke,builtin,h3]
end
end
end Go.Proofs.YtdilfdkendjjhaaGreat
