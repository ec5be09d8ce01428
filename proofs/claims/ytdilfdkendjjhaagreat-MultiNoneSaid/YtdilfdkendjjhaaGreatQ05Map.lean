/- A map of the call's own, with integers for keys. -/
import Derived.Test.YtdilfdkendjjhaaGreatQ02More2
import Derived.Maps.Own
import Derived.Test.YtdilfdkendjjhaaGreatQ04Ty
import Derived.Shelf.SlIterI.Nil
import Derived.Shelf.SortM.Plain
import Derived.Shelf.SortM.SortNone
import Derived.DataShut
namespace Go.Proofs.YtdilfdkendjjhaaGreat
open Go.RowKit
set_option linter.unusedVariables false
set_option linter.unusedSimpArgs false
set_option maxRecDepth 10000
set_option synthInstance.maxSize 4000
set_option synthInstance.maxHeartbeats 400000
section
def MapIs (es:Array MapEntry)(clock:Nat)(kvs:List (Int×Value)):Prop :=
 es.toList.map (λe=>(e.key,e.val))=kvs.map (λp=>(Value.int .i64 p.1,p.2))∧MapKept.Stamped es clock∧∀ p∈kvs,(Lit.int .i64 p.1).wf=true
def mp (b:Nat)(kvs:List (Int×Value)):SP:=λh=>∃ es clock,h b=some (.map es clock)∧MapIs es clock kvs
def findP:List (Int×Value)→Int→Nat→Option (Nat×Value)
 | [],_,_=>none
 | p::r,k,i=>if p.1=k then some (i,p.2) else findP r k (i+1)
theorem findP_none {kvs:List (Int×Value)}{k:Int}(h:∀ p∈kvs,p.1≠k):∀ i,findP kvs k i=none:=by
 induction kvs with
 | nil=>intro i;rfl
 | cons p r ih =>
   intro i
   rw[findP,if_neg (h p List.mem_cons_self)]
   exact ih (λq hq=>h q (List.mem_cons_of_mem _ hq)) _
theorem findP_some {kvs:List (Int×Value)}{k:Int}{v:Value}:∀ {j:Nat}(i:Nat),kvs[j]?=some (k,v)→(∀ j',j'<j→∀ p,kvs[j']?=some p→p.1≠k)→findP kvs k i=some (i+j,v):=by
 induction kvs with
 | nil=>intro j i h;simp at h
 | cons p r ih =>
   intro j i h hl
   cases j with
   | zero=>simp at h;subst h;simp[findP]
   | succ j =>
     rw[findP,if_neg (hl 0 (by omega) p rfl),ih (i+1) (by simpa using h) (λj' hj q hq=>hl (j'+1) (by omega) q (by simpa using hq))]
     rw[show i+1+j=i+(j+1) from by omega]
theorem findNow_is (k:Int):∀ (es:List MapEntry)(kvs:List (Int×Value))(i:Nat),es.map (λe=>(e.key,e.val))=kvs.map (λp=>(Value.int .i64 p.1,p.2))→Instr.findNow (.int .i64) (.int .i64 k) es i=some (findP kvs k i)
 | [],[],i,_=>rfl
 | [],_::_,_,h=>by simp at h
 | _::_,[],_,h=>by simp at h
 | e::es,p::kvs,i,h=>by
   simp only[List.map_cons,List.cons.injEq,Prod.mk.injEq]at h
   obtain⟨⟨h1,h2⟩,h3⟩:=h
   simp only[Instr.findNow,h1,Instr.sameNow,findP]
   by_cases hk:p.1=k
   · simp[hk,h2]
   · have:(k==p.1)=false:=by simp;exact λe=>hk e.symm
     simp only[this,if_neg hk]
     exact findNow_is k es kvs (i+1) h3
theorem mapErase {α β:Type}(f:α→β)(l:List α)(i:Nat):(l.eraseIdx i).map f=(l.map f).eraseIdx i:=by
 simp only[List.eraseIdx_eq_take_drop_succ,List.map_append,List.map_take,List.map_drop]
section
variable {W w:World}{L:List SP}{b:Nat}{kvs:List (Int×Value)}
theorem St.mpHas (hs:St W w (mp b kvs::L)):∃ es clock,MapIs es clock kvs∧St W w (pts b (.map es clock)::L):=by
 obtain⟨⟨es,clock⟩,h1,h2⟩:=hs.exi (ι:=Array MapEntry×Nat) (p:=λi=>MapIs i.1 i.2 kvs) (B:=λi=>pts b (.map i.1 i.2)) (λh ⟨es,clock,h1,h2⟩=>⟨(es,clock),h2,h1⟩)
 exact⟨es,clock,h1,h2⟩
theorem St.mpShut {es:Array MapEntry}{clock:Nat}(hs:St W w (pts b (.map es clock)::L))(h:MapIs es clock kvs):St W w (mp b kvs::L) :=
 St.shut (M:=[_]) hs (λ_ x=>by
   obtain⟨_,_,_,a,_,y,_⟩:=x
   exact⟨es,clock,a _ _ y,h⟩)
theorem MapIs.nil:MapIs #[] 0 []:=⟨rfl,⟨by simp,by simp,by simp⟩,by simp⟩
theorem MapIs.push {es:Array MapEntry}{clock:Nat}{k:Int}{v:Value}(h:MapIs es clock kvs)(hw:(Lit.int .i64 k).wf=true)(hn:∀ p∈kvs,p.1≠k):MapIs (es.push ⟨.int .i64 k,v,clock⟩) (clock+1) (kvs++[(k,v)]):=by
 obtain⟨h1,⟨h2,h3,h4⟩,h5⟩:=h
 refine⟨by simp[h1],⟨λx hx=>?_,?_,?_⟩,λp hp=>?_⟩
 · simp only[Array.toList_push,List.mem_append,List.mem_singleton]at hx
   rcases hx with hx | rfl
   · have:=h2 x hx;omega
   · exact Nat.lt_succ_self _
 · simp only[Array.toList_push,List.map_append,List.map_cons,List.map_nil]
   refine List.nodup_append.2 ⟨h3,by simp,λx hx y hy=>?_⟩
   simp only[List.mem_map]at hx
   obtain⟨e,he,rfl⟩:=hx
   have:=h2 e he
   simp at hy;omega
 · simp only[Array.toList_push,List.map_append,List.map_cons,List.map_nil]
   refine List.nodup_append.2 ⟨h4,by simp,λx hx y hy=>?_⟩
   simp only[List.mem_map]at hx
   obtain⟨e,he,rfl⟩:=hx
   have hm:(e.key,e.val)∈es.toList.map (λe=>(e.key,e.val)):=List.mem_map.2 ⟨e,he,rfl⟩
   rw[h1]at hm
   obtain⟨p,hp,hpe⟩:=List.mem_map.1 hm
   simp only[Prod.mk.injEq]at hpe
   simp at hy
   rw[hy,← hpe.1]
   intro e2
   simp at e2
   exact hn p hp e2
 · rcases List.mem_append.1 hp with h | h
   · exact h5 p h
   · simp at h;subst h;exact hw
theorem MapIs.erase {es:Array MapEntry}{clock:Nat}(h:MapIs es clock kvs)(i:Nat):MapIs (es.eraseIdxIfInBounds i) clock (kvs.eraseIdx i):=by
 obtain⟨h1,⟨h2,h3,h4⟩,h5⟩:=h
 have ht:(es.eraseIdxIfInBounds i).toList=es.toList.eraseIdx i:=by simp[Array.toList_eraseIdxIfInBounds]
 have hm:∀ {β:Type} (f:MapEntry→β),(es.toList.eraseIdx i).map f=(es.toList.map f).eraseIdx i:=λf=>mapErase f _ i
 refine⟨by rw[ht,hm,h1,mapErase],⟨λx hx=>h2 x (List.mem_of_mem_eraseIdx (ht ▸ hx)),?_,?_⟩,λp hp=>h5 p (List.mem_of_mem_eraseIdx hp)⟩
 · rw[ht,hm];exact h3.sublist (List.eraseIdx_sublist _ _)
 · rw[ht,hm];exact h4.sublist (List.eraseIdx_sublist _ _)
end
section
variable {P:Program}{ops:Array Oper}{Q:Exit→Act→World→Prop}{a:Act}{w w' W:World}{K:Act→World→Prop}{n d:Nat}{l:List (Nat×Value)}{v:Value}{L R:List SP}{kvs:List (Int×Value)}
class PickM (L:List SP)(b:Nat)(kvs:outParam (List (Int×Value)))(R:outParam (List SP)):Prop where perm:L.Perm (mp b kvs::R)
instance PickM.head {L b kvs}:PickM (mp b kvs::L) b kvs L:=⟨List.Perm.refl _⟩
instance (priority:=low) PickM.tail {A L b kvs R}[h:PickM L b kvs R]:PickM (A::L) b kvs (A::R):=⟨(List.Perm.cons A h.perm).trans (List.Perm.swap _ _ _)⟩
theorem run_setMap {b:Nat}{es es':Array MapEntry}{c c':Nat}(h:w.heap[b]?=some (.map es c)):(setObj b (.map es' c')).run P w=.ok () (ChangeMaps.setBlock w b (.map es' c')):=by
 simp only[setObj,Sem.run,h]
 rfl
theorem checkKey_n {kt:TypeId}{em:Bool}{k:Int}(hk:P.underlying kt=some (.int .i64))(n:Nat):(Instr.checkKey em (n+1) kt (.int .i64 k)).run P w=.ok () w:=by
 simp only[Instr.checkKey,Sem.run_bind,run_underlying hk,Result.andThen_ok]
 rfl
theorem checkKey_int {kt:TypeId}{em:Bool}{k:Int}(hk:P.underlying kt=some (.int .i64)):(Instr.checkKey em 10000 kt (.int .i64 k)).run P w=.ok () w :=
 checkKey_n hk 9999
theorem findKey_is {es:Array MapEntry}{clock:Nat}{kt:TypeId}{k:Int}(hk:P.underlying kt=some (.int .i64))(h:MapIs es clock kvs):(Instr.findKey kt (.int .i64 k) es.toList).run P w=.ok (findP kvs k 0) w:=by
 simp[Instr.findKey,run_underlying hk,findNow_is k es.toList kvs 0 h.1]
theorem st_makeMap {t ty ps af g}(ha:Fr a n l)(hw:Region.wanted ⟨some d,.makeMap t none,ty,ps,af,g⟩ (yielded ops a.tmps)=true)(hs:St W w L)(hf:okB d n l=true)
   (h:∀ b a' w',Fr a' n ((d,.map (some b))::l)→St W w' (mp b []::L)→Old w w'→K a' w'):StepK P ops Q ⟨some d,.makeMap t none,ty,ps,af,g⟩ K a w:=by
 refine st_set (v:=.map (some w.heap.size)) (w':=w.alloc (.map #[] 0)) ha hw ?_ hf (λa' ha'=>h _ _ _ ha' (St.mpShut (hs.alloc (.map #[] 0)) MapIs.nil) (Old.alloc _ _))
 simp[execOp,Instr.makeMap,newObj,Sem.run]
theorem ex_lookup {x y b t kt et k z sz by' dst ty ps af g}{R:List SP}(ha:Fr a n l)(ht:P.underlying t=some (.map kt et))(hk:P.underlying kt=some (.int .i64))(hi:TI P et z sz by')(hs:St W w L)
   [ev:Ev l x (.map (some b))] [ey:Ev l y (.int .i64 k)] [pk:PickM L b kvs R] (hv:((findP kvs k 0).map (·.2)).getD z=v) :
   (execOp a.eval ⟨dst,.lookup t x y false,ty,ps,af,g⟩).run P w=.ok (.value v) w:=by
 obtain⟨es,clock,h1,h2⟩:=(hs.perm pk.perm).mpHas
 have hg:=MapKept.run_getObj_map (P:=P) h2.has.2
 have h3:(Instr.lookup t (.map (some b)) (.int .i64 k) false).run P w=.ok v w:=by
   simp only[Instr.lookup,Sem.run_bind,run_underlying ht,Result.andThen_ok,hg]
   simp only[Sem.run_pure,Result.andThen_ok,checkKey_int hk,findKey_is hk h1]
   cases hf:findP kvs k 0 with
   | none=>rw[hf]at hv;simp at hv;simp[run_zero hi,hv]
   | some p=>rw[hf]at hv;simp at hv;simp[hv]
 simp[execOp,ev.ev a n ha,ey.ev a n ha,h3]
theorem st_mapUpdate {x y u b t kt et k ty ps af g}{R:List SP}(ha:Fr a n l)(hw:Region.wanted ⟨none,.mapUpdate t x y u,ty,ps,af,g⟩ (yielded ops a.tmps)=true)(hs:St W w L)
   (ht:P.underlying t=some (.map kt et)) (hk:P.underlying kt=some (.int .i64)) [ev:Ev l x (.map (some b))] [ey:Ev l y (.int .i64 k)] [eu:Ev l u v] [pk:PickM L b kvs R]
   (hwf:(Lit.int .i64 k).wf=true) (hn:∀ p∈kvs,p.1≠k)
   (h:∀ a' w',Fr a' n l→St W w' (mp b (kvs++[(k,v)])::R)→K a' w'):StepK P ops Q ⟨none,.mapUpdate t x y u,ty,ps,af,g⟩ K a w:=by
 obtain⟨es,clock,h1,h2⟩:=(hs.perm pk.perm).mpHas
 have hg:=MapKept.run_getObj_map (P:=P) h2.has.2
 have hb:b<w.heap.size:=(Array.getElem?_eq_some_iff.1 h2.has.2).1
 have h3:(Instr.mapUpdate t (.map (some b)) (.int .i64 k) v).run P w=.ok () (ChangeMaps.setBlock w b (.map (es.push ⟨.int .i64 k,v,clock⟩) (clock+1))):=by
   simp only[Instr.mapUpdate,Sem.run_bind,run_underlying ht,Result.andThen_ok,hg]
   simp only[Sem.run_pure,Result.andThen_ok,checkKey_int hk,findKey_is hk h1,findP_none hn]
   simp[run_setMap h2.has.2]
 have h4:=h2.upd (o':=.map (es.push ⟨.int .i64 k,v,clock⟩) (clock+1)) (w':=ChangeMaps.setBlock w b (.map (es.push ⟨.int .i64 k,v,clock⟩) (clock+1))) rfl rfl rfl rfl
 refine st_act (w':=ChangeMaps.setBlock w b (.map (es.push ⟨.int .i64 k,v,clock⟩) (clock+1))) ha hw ?_ (λa' ha'=>h a' _ ha' (h4.mpShut (h1.push hwf hn)))
 simp[execOp,ev.ev a n ha,ey.ev a n ha,eu.ev a n ha,h3]
theorem st_mapDelete {x y b t kt et k i ty ps af g}{R:List SP}(ha:Fr a n l)(hw:Region.wanted ⟨none,.call ⟨.builtin .delete,#[x,y],#[t,kt]⟩,ty,ps,af,g⟩ (yielded ops a.tmps)=true)(hs:St W w L)
   (ht:P.underlying t=some (.map kt et)) (hk:P.underlying kt=some (.int .i64)) [ev:Ev l x (.map (some b))] [ey:Ev l y (.int .i64 k)] [pk:PickM L b kvs R] (hi:findP kvs k 0=some (i,v))
   (h:∀ a' w',Fr a' n l→St W w' (mp b (kvs.eraseIdx i)::R)→K a' w'):StepK P ops Q ⟨none,.call ⟨.builtin .delete,#[x,y],#[t,kt]⟩,ty,ps,af,g⟩ K a w:=by
 obtain⟨es,clock,h1,h2⟩:=(hs.perm pk.perm).mpHas
 have hg:=MapKept.run_getObj_map (P:=P) h2.has.2
 have hb:b<w.heap.size:=(Array.getElem?_eq_some_iff.1 h2.has.2).1
 have h3:(Builtin.delete_ #[t,kt] ty #[.map (some b),.int .i64 k]).run P w=.ok (.tuple #[]) (ChangeMaps.setBlock w b (.map (es.eraseIdxIfInBounds i) clock)):=by
   simp only[Builtin.delete_,List.getElem?_toArray,List.getElem?_cons_zero,List.getElem?_cons_succ]
   simp only[Sem.run_bind,run_underlying ht,Result.andThen_ok,hg]
   simp only[Sem.run_pure,Result.andThen_ok,checkKey_int hk,findKey_is hk h1,hi]
   simp[run_setMap h2.has.2]
 have h4:=h2.upd (o':=.map (es.eraseIdxIfInBounds i) clock) (w':=ChangeMaps.setBlock w b (.map (es.eraseIdxIfInBounds i) clock)) rfl rfl rfl rfl
 refine st_none (v:=.tuple #[]) (w':=ChangeMaps.setBlock w b (.map (es.eraseIdxIfInBounds i) clock)) ha hw ?_ (λa' ha'=>h a' _ ha' (h4.mpShut (h1.erase i)))
 simp[execOp,resolve,ev.ev a n ha,ey.ev a n ha,invoke,builtin,h3]
end
end
section
open Go.RowKit Go.Maps Go.Sort Go.Shelf
def Lay.keysA_ren:Go.Shelf.Ren:=⟨fun | 7=>108 | 10=>168 | n=>n,fun | 23=>171 | 26=>43 | 3=>172 | 28=>169 | 0=>0 | 27=>168 | 33=>258 | 4=>4 | n=>n,fun | n=>n⟩
theorem Lay.keysA:Go.Proofs.SlLaysZI.n7 Tryz.prog Lay.keysA_ren:={
 mixed:=by kernel_rfl
 f7:=⟨Tryz.f108.name,by decide,Tryz.func108.trans (congrArg some (by kernel_rfl))⟩
 f10:=⟨Tryz.f168.name,by decide,Tryz.func168.trans (congrArg some (by kernel_rfl))⟩
 t0:=Tryz.underlying0
 a0:=Tryz.isAgg0
 z0:=Tryz.sizeOf0
 v0:=Tryz.zeroValue0
 t4:=Tryz.underlying4
 a4:=Tryz.isAgg4
 z4:=Tryz.sizeOf4
 v4:=Tryz.zeroValue4
 t23:=Tryz.underlying171
 a23:=Tryz.isAgg171
 z23:=Tryz.sizeOf171
 v23:=Tryz.zeroValue171
 t26:=Tryz.underlying43
 a26:=Tryz.isAgg43
 z26:=Tryz.sizeOf43
 v26:=Tryz.zeroValue43
 t27:=Tryz.underlying168
 a27:=Tryz.isAgg168
 z27:=Tryz.sizeOf168
 v27:=Tryz.zeroValue168
 t28:=Tryz.underlying169
 a28:=Tryz.isAgg169
 z28:=Tryz.sizeOf169
 v28:=Tryz.zeroValue169
 t33:=Tryz.underlying258
 a33:=Tryz.isAgg258
 z33:=Tryz.sizeOf258
 v33:=Tryz.zeroValue258 }
def Lay.sortedA_ren:Go.Shelf.Ren:=⟨fun | 6=>107 | 8=>166 | 9=>167 | 11=>217 | 13=>219 | 12=>218 | 23=>259 | 24=>260 | 14=>250 | 15=>251 | 16=>252 | 17=>253 | 18=>254 | 19=>255 | 20=>256 | 21=>257 | 22=>258 | 25=>277 | 26=>278 | 27=>279 | 28=>280 | 29=>281 | 30=>282 | 31=>290 | n=>n,fun | 26=>43 | 28=>169 | 24=>100 | 0=>0 | 3=>3 | 37=>225 | 48=>68 | 50=>224 | 4=>4 | 40=>343 | 39=>342 | 45=>192 | 5=>5 | 9=>9 | 51=>361 | 55=>365 | 57=>372 | 58=>373 | 33=>258 | n=>n,fun | n=>n⟩
theorem Lay.sortedA:Go.Proofs.SlLaysZI.n6 Tryz.prog Lay.sortedA_ren:={
 mixed:=by kernel_rfl
 f6:=⟨Tryz.f107.name,by decide,Tryz.func107.trans (congrArg some (by kernel_rfl))⟩
 f8:=⟨Tryz.f166.name,by decide,Tryz.func166.trans (congrArg some (by kernel_rfl))⟩
 f11:=⟨Tryz.f217.name,by decide,Tryz.func217.trans (congrArg some (by kernel_rfl))⟩
 t0:=Tryz.underlying0
 a0:=Tryz.isAgg0
 z0:=Tryz.sizeOf0
 v0:=Tryz.zeroValue0
 t24:=Tryz.underlying100
 a24:=Tryz.isAgg100
 z24:=Tryz.sizeOf100
 v24:=Tryz.zeroValue100
 t26:=Tryz.underlying43
 a26:=Tryz.isAgg43
 z26:=Tryz.sizeOf43
 v26:=Tryz.zeroValue43
 t28:=Tryz.underlying169
 a28:=Tryz.isAgg169
 z28:=Tryz.sizeOf169
 v28:=Tryz.zeroValue169
 i26:=by kernel_rfl }
def Lay.sortA_ren:Go.Shelf.Ren:=⟨fun | 5=>167 | 8=>219 | 7=>218 | 19=>259 | 20=>260 | 10=>250 | 11=>251 | 12=>252 | 13=>253 | 14=>254 | 15=>255 | 16=>256 | 17=>257 | 18=>258 | 30=>277 | 31=>278 | 32=>279 | 33=>280 | 34=>281 | 35=>282 | 40=>290 | n=>n,fun | 23=>100 | 25=>43 | 3=>3 | 32=>225 | 22=>100 | 0=>0 | 44=>68 | 46=>224 | 4=>4 | 36=>343 | 35=>342 | 41=>192 | 5=>5 | 9=>9 | 53=>361 | 57=>365 | 63=>372 | 64=>373 | n=>n,fun | n=>n⟩
theorem Lay.sortA:Go.Proofs.SlLaysM.n5 Tryz.prog Lay.sortA_ren:={
 mixed:=by kernel_rfl
 f5:=⟨Tryz.f167.name,by decide,Tryz.func167.trans (congrArg some (by kernel_rfl))⟩
 f7:=⟨Tryz.f218.name,by decide,Tryz.func218.trans (congrArg some (by kernel_rfl))⟩
 f8:=Tryz.func219.trans (congrArg some (by kernel_rfl))
 f10:=⟨Tryz.f250.name,by decide,Tryz.func250.trans (congrArg some (by kernel_rfl))⟩
 f11:=⟨Tryz.f251.name,by decide,Tryz.func251.trans (congrArg some (by kernel_rfl))⟩
 f12:=⟨Tryz.f252.name,by decide,Tryz.func252.trans (congrArg some (by kernel_rfl))⟩
 f13:=⟨Tryz.f253.name,by decide,Tryz.func253.trans (congrArg some (by kernel_rfl))⟩
 f14:=⟨Tryz.f254.name,by decide,Tryz.func254.trans (congrArg some (by kernel_rfl))⟩
 f15:=⟨Tryz.f255.name,by decide,Tryz.func255.trans (congrArg some (by kernel_rfl))⟩
 f16:=⟨Tryz.f256.name,by decide,Tryz.func256.trans (congrArg some (by kernel_rfl))⟩
 f17:=⟨Tryz.f257.name,by decide,Tryz.func257.trans (congrArg some (by kernel_rfl))⟩
 f18:=⟨Tryz.f258.name,by decide,Tryz.func258.trans (congrArg some (by kernel_rfl))⟩
 f19:=Tryz.func259.trans (congrArg some (by kernel_rfl))
 f20:=Tryz.func260.trans (congrArg some (by kernel_rfl))
 f30:=⟨Tryz.f277.name,by decide,Tryz.func277.trans (congrArg some (by kernel_rfl))⟩
 f31:=Tryz.func278.trans (congrArg some (by kernel_rfl))
 f32:=Tryz.func279.trans (congrArg some (by kernel_rfl))
 f33:=⟨Tryz.f280.name,by decide,Tryz.func280.trans (congrArg some (by kernel_rfl))⟩
 f34:=⟨Tryz.f281.name,by decide,Tryz.func281.trans (congrArg some (by kernel_rfl))⟩
 f35:=⟨Tryz.f282.name,by decide,Tryz.func282.trans (congrArg some (by kernel_rfl))⟩
 f40:=⟨Tryz.f290.name,by decide,Tryz.func290.trans (congrArg some (by kernel_rfl))⟩
 t0:=Tryz.underlying0
 a0:=Tryz.isAgg0
 z0:=Tryz.sizeOf0
 v0:=Tryz.zeroValue0
 t3:=Tryz.underlying3
 a3:=Tryz.isAgg3
 z3:=Tryz.sizeOf3
 v3:=Tryz.zeroValue3
 t4:=Tryz.underlying4
 a4:=Tryz.isAgg4
 z4:=Tryz.sizeOf4
 v4:=Tryz.zeroValue4
 t5:=Tryz.underlying5
 a5:=Tryz.isAgg5
 z5:=Tryz.sizeOf5
 v5:=Tryz.zeroValue5
 t9:=Tryz.underlying9
 a9:=Tryz.isAgg9
 z9:=Tryz.sizeOf9
 v9:=Tryz.zeroValue9
 t22:=Tryz.underlying100
 a22:=Tryz.isAgg100
 z22:=Tryz.sizeOf100
 v22:=Tryz.zeroValue100
 t23:=Tryz.underlying100
 a23:=Tryz.isAgg100
 z23:=Tryz.sizeOf100
 v23:=Tryz.zeroValue100
 t25:=Tryz.underlying43
 a25:=Tryz.isAgg43
 z25:=Tryz.sizeOf43
 v25:=Tryz.zeroValue43
 t32:=Tryz.underlying225
 a32:=Tryz.isAgg225
 z32:=Tryz.sizeOf225
 v32:=Tryz.zeroValue225
 t35:=Tryz.underlying342
 a35:=Tryz.isAgg342
 z35:=Tryz.sizeOf342
 v35:=Tryz.zeroValue342
 t36:=Tryz.underlying343
 a36:=Tryz.isAgg343
 z36:=Tryz.sizeOf343
 v36:=Tryz.zeroValue343
 t41:=Tryz.underlying192
 a41:=Tryz.isAgg192
 z41:=Tryz.sizeOf192
 v41:=Tryz.zeroValue192
 t44:=Tryz.underlying68
 a44:=Tryz.isAgg68
 z44:=Tryz.sizeOf68
 v44:=Tryz.zeroValue68
 t46:=Tryz.underlying224
 a46:=Tryz.isAgg224
 z46:=Tryz.sizeOf224
 v46:=Tryz.zeroValue224
 t53:=Tryz.underlying361
 a53:=Tryz.isAgg361
 z53:=Tryz.sizeOf361
 v53:=Tryz.zeroValue361
 t57:=Tryz.underlying365
 a57:=Tryz.isAgg365
 z57:=Tryz.sizeOf365
 v57:=Tryz.zeroValue365
 t63:=Tryz.underlying372
 a63:=Tryz.isAgg372
 z63:=Tryz.sizeOf372
 v63:=Tryz.zeroValue372
 t64:=Tryz.underlying373
 a64:=Tryz.isAgg373
 z64:=Tryz.sizeOf373
 v64:=Tryz.zeroValue373 }
theorem Lay.sortsA (m:Nat):AnyZI.SortsIn Tryz.prog Lay.sortedA_ren Fence.wide m :=
 ⟨λblk off cap ss W hH hblk hsz=>callsIn_wide.2 (AnyM.slices_Sort_int Lay.sortA blk off cap ss W hH hblk hsz),
  λp cap W=>callsIn_wide.2 (AnyM.slices_Sort_int_none Lay.sortA p cap W)⟩
def anyR:Value→Option (DataW Unit×List MemPlace):=λ_=>some (.lit (.bool true),[])
theorem mapFit {es:Array MapEntry}{clock:Nat}{kvs:List (Int×Value)}(h:MapIs es clock kvs)(hl:kvs.length≤maxLen):WideElems.Fit Tryz.prog 43 anyR es clock:=by
 obtain⟨h1,h2,h3⟩:=h
 have hlen:es.size=kvs.length:=by have:=congrArg List.length h1;simpa using this
 refine⟨by omega,h2,λx hx=>?_⟩
 have hm:(x.key,x.val)∈es.toList.map (λe=>(e.key,e.val)):=List.mem_map.2 ⟨x,hx,rfl⟩
 rw[h1]at hm
 obtain⟨p,hp,hpe⟩:=List.mem_map.1 hm
 simp only[Prod.mk.injEq]at hpe
 refine⟨(.int .i64 p.1,.lit (.bool true)),?_⟩
 simp[WideElems.rd,← hpe.1,keyOf_int_mk Tryz.underlying43 (h3 p hp),anyR]
theorem mapKeys {es:Array MapEntry}{clock:Nat}{kvs:List (Int×Value)}(h:MapIs es clock kvs):(intKeys (DataW.map ((es.toList.map (WideElems.rg Tryz.prog 43 anyR)).foldr DataW.insert []))).Perm (kvs.map (·.1)):=by
 have hp:=WideShapes.sorted_perm (es.toList.map (WideElems.rg Tryz.prog 43 anyR))
 have h4:(es.toList.map (WideElems.rg Tryz.prog 43 anyR)).map (λp=>Go.intOf p.1)=kvs.map (·.1):=by
   obtain⟨h1,_,h3⟩:=h
   have : ∀ (l : List MapEntry) (m : List (Int × Value)), l.map (fun e => (e.key, e.val)) = m.map (fun p => (Value.int .i64 p.1, p.2)) → (∀ p ∈ m, (Lit.int .i64 p.1).wf = true) →
       (l.map (WideElems.rg Tryz.prog 43 anyR)).map (λp=>Go.intOf p.1)=m.map (·.1):=by
     intro l
     induction l with
     | nil=>intro m h _;cases m with
       | nil=>rfl
       | cons=>simp at h
     | cons e l ih =>
       intro m h hw
       cases m with
       | nil=>simp at h
       | cons p m =>
         simp only[List.map_cons,List.cons.injEq,Prod.mk.injEq]at h
         simp only[List.map_cons,ih m h.2 (λq hq=>hw q (List.mem_cons_of_mem _ hq))]
         have hr:WideElems.rg Tryz.prog 43 anyR e=(Lit.int .i64 p.1,(DataW.lit (.bool true):DataW Unit)):=by
           simp only[WideElems.rg,WideElems.rd,h.1.1,keyOf_int_mk Tryz.underlying43 (hw p List.mem_cons_self),anyR,Option.bind_some,Option.map_some,Option.getD_some]
         rw[hr]
         rfl
   exact this _ _ h1 h3
 have:=hp.map (λp:Lit×DataW Unit=>Go.intOf p.1)
 rw[h4]at this
 exact this
section
variable {W w:World}{L:List SP}{m:Nat}{kvs:List (Int×Value)}
theorem maps_keys (hs:St W w L):Calls Tryz.prog 108 #[.map (some m)] w λe w' =>
   ∃ b,e=.returned (.func (.func 168) #[] #[pt b])∧St W w' (blk b 171 [.map (some m)]::L):=by
 have h:=AnyZI.keys_in Lay.keysA Fence.wide 5 trivial rfl (some m) w
 refine (callsIn_wide.1 h).mono λe w' ⟨h1,h2⟩=>?_
 subst h2
 exact⟨_,h1,hs.alloc _⟩
theorem sorted_of_perm {ss ks:List Int}(hp:ss.Perm ks)(hk:ks.Pairwise (· < ·)):ss.mergeSort (λx y=>decide (x≤y))=ks:=by
 have h1:=List.pairwise_mergeSort (le:=λx y:Int=>decide (x≤y)) (λa b c h1 h2=>by simp at *;omega) (λa b=>by simp;omega) ss
 refine List.Perm.eq_of_pairwise (le:=λx y:Int=>decide (x≤y)=true) (λa b _ _ h1 h2=>by simp at *;omega) h1 (hk.imp λh=>by simp;omega) ((List.mergeSort_perm _ _).trans hp)
theorem St.ownsRow {w':World}{e sz:Nat}{v:Value}{n:Nat}{xs:List Value}(hs:St W w L)(hb:Below w.heap.size w w')(hr:w'.ownsRow w.heap.size e sz v n xs) :
   ∃ ad c,v=.slice ad n c∧St W w' (Sl e sz ad n c xs::L):=by
 obtain⟨b0,h,p,q⟩:=hs
 have hB:Below W.heap.size W w':=b0.trans ⟨hb.os,hb.tape,hb.output,hb.size,λk hk=>hb.block k (Nat.lt_of_lt_of_le hk b0.size)⟩
 have hsat:∀ n o,h n=some o→W.heap.size≤n∧w'.heap[n]?=some o:=λn o ho=>by
   obtain⟨h1,h2⟩:=p n o ho
   refine⟨h1,?_⟩
   rw[hb.block n (Array.getElem?_eq_some_iff.1 h2).1];exact h2
 have hs':St W w' L:=⟨hB,h,hsat,q⟩
 obtain⟨hl,hr⟩:=hr
 rcases hr with ⟨rfl,hn⟩ | ⟨g,cap,cur,rfl,hg,hc,hnc,_,hsz,ht⟩
 · subst hn
   refine⟨none,0,rfl,?_⟩
   obtain rfl:xs=[]:=List.eq_nil_of_length_eq_zero (by rw[hl,Nat.zero_mul])
   exact hs'.sl0 _ _ _
 · have hgn : h g = none := by
     cases he:h g with
     | none=>rfl
     | some x =>
       have:=(Array.getElem?_eq_some_iff.1 (p g x he).2).1
       omega
   refine⟨some ⟨g,0,none⟩,cap,rfl,?_⟩
   have h2:St W w' (blk g e ([]++xs++cur.toList.drop (n*sz))::L):=by
     refine⟨hB,λk=>if k=g then some (.cells cur e (0,0)) else h k,λk o ho=>?_,λk=>if k=g then some (.cells cur e (0,0)) else none,h,λk=>?_,λk o ho=>?_,λk o ho=>?_,?_,q⟩
     · by_cases hk:k=g
       · simp[hk]at ho;subst ho;subst hk
         exact⟨Nat.le_trans b0.size hg,hc⟩
       · simp[hk]at ho;exact hsat k o ho
     · by_cases hk:k=g
       · right;rw[hk];exact hgn
       · left;simp[hk]
     · by_cases hk:k=g <;> simp[hk]at ho ⊢;exact ho
     · by_cases hk:k=g
       · rw[hk,hgn]at ho;cases ho
       · simp[hk,ho]
     · have : ([] ++ xs ++ cur.toList.drop (n * sz)).toArray = cur := by
         rw[← ht];simp
       simp only[blk,pts,this,if_true]
   have hlen:xs.length+(cur.toList.drop (n*sz)).length=cap*sz:=by
     have:(cur.toList).length=cap*sz:=by simpa using hsz
     rw[List.length_drop,this,hl]
     have:=Nat.mul_le_mul_right sz hnc
     omega
   have h3:=St.slShut (pre:=[]) (cs:=xs) (n:=n) (c:=cap) (sz:=sz) h2 hl hnc (by rw[Nat.sub_mul];omega)
   simpa using h3
theorem sorted_keys {b:Nat}(hs:St W w (blk b 171 [.map (some m)]::mp m kvs::L))(hk:(kvs.map (·.1)).Pairwise (· < ·))(hl:kvs.length≤1099511627776) :
   Calls Tryz.prog 107 #[.func (.func 168) #[] #[pt b]] w λe w' =>
   ∃ ad c,e=.returned (.slice ad kvs.length c)∧St W w' (Sl 43 1 ad kvs.length c (kvs.map λp=>.int .i64 p.1)::mp m kvs::L):=by
 have hs2:=hs.tail
 obtain⟨es,clock,hm,hs3⟩:=hs2.mpHas
 have hlm:(1099511627776:Nat)≤maxLen:=by unfold maxLen;omega
 have hsz:es.size=kvs.length:=by have:=congrArg List.length hm.1;simpa using this
 have hF:=mapFit hm (Nat.le_trans hl hlm)
 have hown:w.ownsMap Tryz.prog 43 anyR m es.size (.map ((es.toList.map (WideElems.rg Tryz.prog 43 anyR)).foldr DataW.insert [])):=⟨es,clock,hs3.has.2,hF,Nat.le_refl _,rfl⟩
 have hD:Maps.size (DataW.map ((es.toList.map (WideElems.rg Tryz.prog 43 anyR)).foldr DataW.insert []))≤kvs.length:=by rw[← hsz];exact hown.size_le
 have hcell:w.cell? ⟨b,0,none⟩=some (.map (some m)):=hs.cell 0
 have hb:b<w.heap.size:=World.block_lt_of_cell? _ _ hcell
 have hseq:SeqGives Fence.wide 2 Tryz.prog 168 #[pt b] encZ (λss=>ss.Perm (intKeys (DataW.map ((es.toList.map (WideElems.rg Tryz.prog 43 anyR)).foldr DataW.insert [])))) (Maps.size (DataW.map ((es.toList.map (WideElems.rg Tryz.prog 43 anyR)).foldr DataW.insert []))) w :=
   AnyZI.keys_gives (ρ:=Lay.keysA_ren) { Lay.keysA with } Fence.wide _ trivial rfl (by omega) b m _ _ w hb hcell hown
 have cS:=AnyZI.sorted_in Lay.sortedA Fence.wide 5 trivial trivial trivial trivial rfl (by omega) (Lay.sortsA _) (enters_of Tryz.func167 (by kernel_rfl) rfl)
   168 #[pt b] trivial
   (enters_of Tryz.func168 (by kernel_rfl) rfl) _ _ (by omega) (by omega) _ hseq
 refine (callsIn_wide.1 cS).mono λe w' ⟨v,ss,h1,h2,h3,_,h5⟩=>?_
 subst h1
 have hp:=h2.trans (mapKeys hm)
 rw[sorted_of_perm hp hk]at h3
 have hlen:ss.length=kvs.length:=by have:=hp.length_eq;simpa using this
 rw[hlen]at h3
 obtain⟨ad,c,rfl,h6⟩:=hs2.ownsRow h5 h3
 refine⟨ad,c,rfl,?_⟩
 have h7:(kvs.map (·.1)).map encZ=kvs.map λp=>Value.int .i64 p.1:=by simp[encZ,Function.comp_def]
 rw[h7]at h6
 exact h6
end
end
section
structure Pic where
 id:Nat
 refs:Nat
 g:Nat→Int
 p:Nat→Nat
structure Sn where
 last:Nat
 room:Nat
 n:Nat
 pics:List Pic
def Pic.cells (x:Pic):List Value:=ints .i64 4 (λk=>(x.p k:Int)+1)++[.int .i64 x.refs]
theorem Pic.len (x:Pic):x.cells.length=5:=by simp[Pic.cells,ints_len]
instance {x:Pic}:LenEq x.cells 5:=⟨x.len⟩
theorem Pic.at {x:Pic}{k:Nat}(h:k<4):x.cells[k]?=some (.int .i64 ((x.p k:Int)+1)):=by
 rw[Pic.cells,List.getElem?_append_left (by rw[ints_len];exact h),ints_get _ h]
theorem Pic.ref {x:Pic}:x.cells[4]?=some (.int .i64 x.refs):=by simp[Pic.cells,ints_len]
theorem Pic.setref {x:Pic}{r:Nat}:x.cells.set 4 (.int .i64 r)=Pic.cells { x with refs:=r }:=by
 rw[Pic.cells,List.set_append_right _ _ (by rw[ints_len];exact Nat.le_refl _),ints_len];rfl
theorem Pic.setp {x:Pic}{k f:Nat}(h:k<4)(g:Nat→Int):x.cells.set k (.int .i64 ((f:Int)+1))=Pic.cells { x with p:=λj=>if j=k then f else x.p j,g:=g }:=by
 rw[Pic.cells,List.set_append_left _ _ (by rw[ints_len];exact h),ints_set,Pic.cells]
 congr 1
 refine ints_congr λj _=>?_
 by_cases hj:j=k <;> simp[hj]
def cntU (x:Pic)(p m:Nat):Nat:=(List.range m).countP λk=>decide (x.p k=p)
def cntP (x:Pic)(p:Nat):Nat:=cntU x p 4
def cnt (l:List Pic)(p:Nat):Nat:=(l.map λx=>cntP x p).sum
def Sn.used (A:Sn):Nat:=(List.range A.room).countP λp=>decide (0<cnt A.pics p)
theorem cntU_zero (x:Pic)(p:Nat):cntU x p 0=0:=rfl
theorem cntU_succ (x:Pic)(p m:Nat):cntU x p (m+1)=cntU x p m+if x.p m=p then 1 else 0:=by
 rw[cntU,List.range_succ,List.countP_append,List.countP_singleton,cntU]
 by_cases h:x.p m=p <;> simp[h]
theorem cntP_eq (x:Pic)(p:Nat):cntP x p=(if x.p 0=p then 1 else 0)+(if x.p 1=p then 1 else 0)+(if x.p 2=p then 1 else 0)+(if x.p 3=p then 1 else 0):=by
 rw[cntP,cntU_succ,cntU_succ,cntU_succ,cntU_succ,cntU_zero,Nat.zero_add]
theorem cntU_mono (x:Pic)(p:Nat){m n:Nat}(h:m≤n):cntU x p m≤cntU x p n:=by
 induction n with
 | zero => obtain rfl : m = 0 := by omega
           exact Nat.le_refl _
 | succ n ih =>
   rcases Nat.lt_or_ge n m with h1 | h1
   · obtain rfl:m=n+1:=by omega
     exact Nat.le_refl _
   · have:=ih h1
     rw[cntU_succ];omega
theorem cntP_le (x:Pic)(p:Nat):cntP x p≤4:=by have:=List.countP_le_length (p:=λk=>decide (x.p k=p)) (l:=List.range 4);simpa [cntP,cntU] using this
theorem cntP_pos {x:Pic}{k:Nat}(h:k<4):0<cntP x (x.p k):=by
 have h1:=cntU_mono x (x.p k) (m:=k+1) (n:=4) (by omega)
 rw[cntU_succ,if_pos rfl]at h1
 show 0<cntU x (x.p k) 4
 omega
theorem cntP_two {x:Pic}{k k':Nat}(h:k<4)(h':k'<4)(hn:k≠k')(he:x.p k=x.p k'):2≤cntP x (x.p k):=by
 rcases Nat.lt_or_gt_of_ne hn with hl | hl
 · have h1:=cntU_mono x (x.p k) (m:=k'+1) (n:=4) (by omega)
   have h2:=cntU_mono x (x.p k) (m:=k+1) (n:=k') (by omega)
   rw[cntU_succ,if_pos he.symm]at h1
   rw[cntU_succ,if_pos rfl]at h2
   show 2≤cntU x (x.p k) 4
   omega
 · have h1:=cntU_mono x (x.p k) (m:=k+1) (n:=4) (by omega)
   have h2:=cntU_mono x (x.p k) (m:=k'+1) (n:=k) (by omega)
   rw[cntU_succ,if_pos rfl]at h1
   rw[cntU_succ,if_pos he.symm]at h2
   show 2≤cntU x (x.p k) 4
   omega
theorem cntP_zero {x:Pic}{p:Nat}(h:∀ k,k<4→x.p k≠p):cntP x p=0:=by
 rw[cntP_eq,if_neg (h 0 (by omega)),if_neg (h 1 (by omega)),if_neg (h 2 (by omega)),if_neg (h 3 (by omega))]
theorem cntP_pos_iff {x:Pic}{p:Nat}:0<cntP x p ↔ ∃ k,k<4∧x.p k=p:=by
 constructor
 · intro h
   by_cases h0:∃ k,k<4∧x.p k=p
   · exact h0
   · rw[cntP_zero λk hk e=>h0 ⟨k,hk,e⟩]at h;omega
 · rintro⟨k,hk,rfl⟩;exact cntP_pos hk
theorem cntP_congr {x y:Pic}(h:∀ k,k<4→x.p k=y.p k)(p:Nat):cntP x p=cntP y p:=by
 rw[cntP_eq,cntP_eq,h 0 (by omega),h 1 (by omega),h 2 (by omega),h 3 (by omega)]
theorem cnt_nil (p:Nat):cnt [] p=0:=rfl
theorem cnt_cons (x:Pic)(l:List Pic)(p:Nat):cnt (x::l) p=cntP x p+cnt l p:=by simp[cnt]
theorem cnt_app (l m:List Pic)(p:Nat):cnt (l++m) p=cnt l p+cnt m p:=by simp[cnt]
theorem cnt_erase {l:List Pic}{i:Nat}(h:i<l.length)(p:Nat):cnt l p=cntP l[i] p+cnt (l.eraseIdx i) p:=by
 have h0:l=l.take i++l[i]::l.drop (i+1):=by rw[← List.drop_eq_getElem_cons h,List.take_append_drop]
 rw[List.eraseIdx_eq_take_drop_succ,cnt_app]
 conv=>lhs;rw[h0,cnt_app,cnt_cons]
 omega
theorem cnt_set {l:List Pic}{i:Nat}(h:i<l.length)(x:Pic)(p:Nat):cnt (l.set i x) p+cntP l[i] p=cnt l p+cntP x p:=by
 have h1:=cnt_erase h p
 have h2:=cnt_erase (l:=l.set i x) (i:=i) (by simpa using h) p
 rw[List.getElem_set_self,List.eraseIdx_set_eq]at h2
 omega
theorem cnt_mem {l:List Pic}{x:Pic}(h:x∈l)(p:Nat):cntP x p≤cnt l p:=by
 obtain⟨i,hi,rfl⟩:=List.mem_iff_getElem.1 h
 have:=cnt_erase hi p
 omega
theorem cnt_le (l:List Pic)(p:Nat):cnt l p≤4*l.length:=by
 induction l with
 | nil=>simp[cnt]
 | cons x l ih=>rw[cnt_cons,List.length_cons];have:=cntP_le x p;omega
structure Rel (A:Sn)(ps:List Pg):Prop where
 len:ps.length=A.room
 refs:∀ p q,ps[p]?=some q→q.refs=cnt A.pics p
 page:∀ x∈A.pics,∀ k,k<4→∃ q,ps[x.p k]?=some q∧∀ j,j<8→q.g j=x.g (8*k+j)
structure WF (A:Sn):Prop where
 room:A.room≤200
 bound:A.n<1099511627776
 last:A.last≤A.n
 many:A.pics.length≤A.n
 sorted:(A.pics.map (·.id)).Pairwise (· < ·)
 pic:∀ x∈A.pics,1≤x.id∧x.id≤A.last∧1≤x.refs∧x.refs≤A.n
theorem Rel.ok {A:Sn}{ps:List Pg}(h:Rel A ps)(hw:WF A):ps.length≤200∧∀ p∈ps,p.refs<4611686018427387904:=by
 refine⟨h.len ▸ hw.room,λq hq=>?_⟩
 obtain⟨i,hi,rfl⟩:=List.mem_iff_getElem.1 hq
 rw[h.refs i _ (List.getElem?_eq_getElem hi)]
 have:=cnt_le A.pics i
 have:=hw.many
 have:=hw.bound
 omega
theorem Rel.used {A:Sn}{ps:List Pg}(h:Rel A ps):usedN ps=A.used:=by
 have e:ps=(List.range ps.length).map (λi=>ps.getD i pg0):=by
   apply List.ext_getElem (by simp)
   intro i h1 h2
   simp[List.getD_eq_getElem?_getD,List.getElem?_eq_getElem h1]
 rw[usedN,Sn.used,← h.len]
 conv=>lhs;rw[e]
 rw[List.countP_map]
 refine List.countP_congr λi hi=>?_
 have hi2:i<ps.length:=List.mem_range.1 hi
 have:=h.refs i _ (List.getElem?_eq_getElem hi2)
 simp only[Function.comp,List.getD_eq_getElem?_getD,List.getElem?_eq_getElem hi2,Option.getD_some,this]
theorem Rel.live {A:Sn}{ps:List Pg}(h:Rel A ps){x:Pic}(hx:x∈A.pics){k:Nat}(hk:k<4):∃ h:x.p k<ps.length,0<ps[x.p k].refs∧∀ j,j<8→ps[x.p k].g j=x.g (8*k+j):=by
 obtain⟨q,h1,h2⟩:=h.page x hx k hk
 obtain⟨h3,h4⟩:=List.getElem?_eq_some_iff.1 h1
 refine⟨h3,?_,λj hj=>by rw[h4];exact h2 j hj⟩
 rw[h.refs _ _ (List.getElem?_eq_getElem h3)]
 have:=cnt_mem hx (x.p k)
 have:=cntP_pos (x:=x) hk
 omega
def addU (ps:List Pg)(x:Pic)(m:Nat):List Pg:=ps.mapIdx λp q=>⟨q.g,q.refs+cntU x p m⟩
def subU (ps:List Pg)(x:Pic)(m:Nat):List Pg:=ps.mapIdx λp q=>⟨q.g,q.refs-cntU x p m⟩
theorem addU_zero (ps:List Pg)(x:Pic):addU ps x 0=ps:=by
 apply List.ext_getElem (by simp[addU]);intro i h1 h2;simp[addU,cntU_zero]
theorem subU_zero (ps:List Pg)(x:Pic):subU ps x 0=ps:=by
 apply List.ext_getElem (by simp[subU]);intro i h1 h2;simp[subU,cntU_zero]
theorem addU_len (ps:List Pg)(x:Pic)(m:Nat):(addU ps x m).length=ps.length:=by simp[addU]
theorem subU_len (ps:List Pg)(x:Pic)(m:Nat):(subU ps x m).length=ps.length:=by simp[subU]
theorem addU_at {ps:List Pg}{x:Pic}{m p:Nat}(h:p<(addU ps x m).length):(addU ps x m)[p]=⟨(ps[p]'(by rw[addU_len]at h;exact h)).g,(ps[p]'(by rw[addU_len]at h;exact h)).refs+cntU x p m⟩:=by simp[addU]
theorem subU_at {ps:List Pg}{x:Pic}{m p:Nat}(h:p<(subU ps x m).length):(subU ps x m)[p]=⟨(ps[p]'(by rw[subU_len]at h;exact h)).g,(ps[p]'(by rw[subU_len]at h;exact h)).refs-cntU x p m⟩:=by simp[subU]
theorem addU_succ {ps:List Pg}{x:Pic}{m:Nat}(h:x.p m<(addU ps x m).length):(addU ps x m).set (x.p m) ⟨(addU ps x m)[x.p m].g,(addU ps x m)[x.p m].refs+1⟩=addU ps x (m+1):=by
 apply List.ext_getElem (by simp[addU])
 intro i h1 h2
 rw[List.getElem_set,addU_at h2]
 by_cases hi:x.p m=i
 · subst hi
   rw[if_pos rfl,addU_at h,cntU_succ,if_pos rfl,Nat.add_assoc]
 · rw[if_neg hi,addU_at (by simpa using h1),cntU_succ,if_neg hi];rfl
theorem subU_succ {ps:List Pg}{x:Pic}{m:Nat}(h:x.p m<(subU ps x m).length):(subU ps x m).set (x.p m) ⟨(subU ps x m)[x.p m].g,(subU ps x m)[x.p m].refs-1⟩=subU ps x (m+1):=by
 apply List.ext_getElem (by simp[subU])
 intro i h1 h2
 rw[List.getElem_set,subU_at h2]
 by_cases hi:x.p m=i
 · subst hi
   rw[if_pos rfl,subU_at h,cntU_succ,if_pos rfl,Nat.sub_sub]
 · rw[if_neg hi,subU_at (by simpa using h1),cntU_succ,if_neg hi];rfl
theorem getElem?_addU (ps:List Pg)(x:Pic)(m p:Nat):(addU ps x m)[p]?=ps[p]?.map λq=>⟨q.g,q.refs+cntU x p m⟩:=by simp[addU]
theorem getElem?_subU (ps:List Pg)(x:Pic)(m p:Nat):(subU ps x m)[p]?=ps[p]?.map λq=>⟨q.g,q.refs-cntU x p m⟩:=by simp[subU]
def Sn.add (A:Sn)(g:Nat→Int)(p:Nat→Nat):Sn:={ A with last:=A.last+1,n:=A.n+1,pics:=A.pics++[⟨A.last+1,1,g,p⟩] }
def Sn.drop (A:Sn)(i:Nat)(x:Pic):Sn:={ A with pics:=if x.refs=1 then A.pics.eraseIdx i else A.pics.set i { x with refs:=x.refs-1 } }
def Sn.put (A:Sn)(i:Nat)(x:Pic)(c:Nat)(v:Int):Sn:={ A with pics:=A.pics.set i { x with g:=upd x.g c v } }
def Sn.putOwn (A:Sn)(i:Nat)(x:Pic)(c:Nat)(v:Int)(f:Nat):Sn:={ A with pics:=A.pics.set i { x with g:=upd x.g c v,p:=λj=>if j=c/8 then f else x.p j } }
theorem WF.add {A:Sn}(h:WF A)(hn:A.n+1<1099511627776)(g:Nat→Int)(p:Nat→Nat):WF (A.add g p):=by
 obtain⟨h1,h2,h3,h4,h5,h6⟩:=h
 refine⟨h1,hn,by simp[Sn.add];omega,by simp[Sn.add];omega,?_,λx hx=>?_⟩
 · simp only[Sn.add,List.map_append,List.map_cons,List.map_nil]
   refine List.pairwise_append.2 ⟨h5,by simp,λa ha b hb=>?_⟩
   obtain⟨x,hx,rfl⟩:=List.mem_map.1 ha
   have:=(h6 x hx).2.1
   simp at hb;omega
 · simp only[Sn.add]at hx ⊢
   rcases List.mem_append.1 hx with hx | hx
   · have:=h6 x hx;omega
   · simp at hx;subst hx;simp
theorem map_set_id {l:List Pic}{i:Nat}{x y:Pic}(h:l[i]?=some x)(he:y.id=x.id):(l.set i y).map (·.id)=l.map (·.id):=by
 obtain⟨hi,rfl⟩:=List.getElem?_eq_some_iff.1 h
 rw[List.map_set,he]
 apply List.ext_getElem?
 intro j
 rw[List.getElem?_set]
 by_cases hj:i=j
 · subst hj;simp[hi]
 · rw[if_neg hj]
theorem WF.set {A:Sn}(h:WF A){n:Nat}(hn:n<1099511627776)(hle:A.n≤n){i:Nat}{x y:Pic}(hx:A.pics[i]?=some x)(he:y.id=x.id)(hr:1≤y.refs∧y.refs≤n):WF { A with n:=n,pics:=A.pics.set i y }:=by
 obtain⟨h1,h2,h3,h4,h5,h6⟩:=h
 have hxm:=List.mem_of_getElem? hx
 refine⟨h1,hn,by simp only;omega,by simp only[List.length_set];omega,by simp only;rw[map_set_id hx he];exact h5,λz hz=>?_⟩
 simp only at hz ⊢
 rcases List.mem_or_eq_of_mem_set hz with hz | rfl
 · have:=h6 z hz;omega
 · have:=h6 x hxm;rw[he];omega
theorem WF.erase {A:Sn}(h:WF A)(i:Nat):WF { A with pics:=A.pics.eraseIdx i }:=by
 obtain⟨h1,h2,h3,h4,h5,h6⟩:=h
 refine⟨h1,h2,h3,?_,?_,λz hz=>h6 z (List.mem_of_mem_eraseIdx hz)⟩
 · simp only;exact Nat.le_trans (List.length_eraseIdx_le _ _) h4
 · simp only;rw[mapErase];exact h5.sublist (List.eraseIdx_sublist _ _)
theorem WF.ids {A:Sn}(h:WF A){i j:Nat}{x y:Pic}(hx:A.pics[i]?=some x)(hy:A.pics[j]?=some y)(he:x.id=y.id):i=j:=by
 obtain⟨hi,rfl⟩:=List.getElem?_eq_some_iff.1 hx
 obtain⟨hj,rfl⟩:=List.getElem?_eq_some_iff.1 hy
 have hp:=List.pairwise_iff_getElem.1 h.sorted
 rcases Nat.lt_trichotomy i j with hl | hl | hl
 · have:=hp i j (by simpa using hi) (by simpa using hj) hl
   simp at this;omega
 · exact hl
 · have:=hp j i (by simpa using hj) (by simpa using hi) hl
   simp at this;omega
theorem Rel.add {A:Sn}{ps:List Pg}(h:Rel A ps){x:Pic}(hx:x∈A.pics):Rel (A.add x.g x.p) (addU ps x 4):=by
 refine⟨by rw[addU_len];exact h.len,λp q hq=>?_,λy hy k hk=>?_⟩
 · rw[getElem?_addU]at hq
   obtain⟨q0,h1,rfl⟩:=Option.map_eq_some_iff.1 hq
   have:=h.refs p q0 h1
   simp only[Sn.add,cnt_app,cnt_cons,cnt_nil,this]
   rfl
 · have h0 : ∀ y : Pic, (∃ q, ps[y.p k]? = some q ∧ ∀ j, j < 8 → q.g j = y.g (8 * k + j)) → ∃ q, (addU ps x 4)[y.p k]? = some q ∧ ∀ j, j < 8 → q.g j = y.g (8 * k + j) := by
     rintro y ⟨q,h1,h2⟩
     exact⟨⟨q.g,q.refs+cntU x (y.p k) 4⟩,by rw[getElem?_addU,h1];rfl,h2⟩
   simp only[Sn.add]at hy
   rcases List.mem_append.1 hy with hy | hy
   · exact h0 y (h.page y hy k hk)
   · simp at hy;subst hy
     exact h0 ⟨A.last+1,1,x.g,x.p⟩ (h.page x hx k hk)
theorem Rel.refsOnly {A:Sn}{ps:List Pg}(h:Rel A ps){n i:Nat}{x:Pic}{r:Nat}(hx:A.pics[i]?=some x):Rel { A with n:=n,pics:=A.pics.set i { x with refs:=r } } ps:=by
 obtain⟨hi,rfl⟩:=List.getElem?_eq_some_iff.1 hx
 refine⟨h.len,λp q hq=>?_,λy hy k hk=>?_⟩
 · have:=cnt_set hi { A.pics[i] with refs:=r } p
   have h2:cntP { A.pics[i] with refs:=r } p=cntP A.pics[i] p:=cntP_congr (λ_ _=>rfl) p
   rw[h.refs p q hq]
   show cnt A.pics p=cnt (A.pics.set i { A.pics[i] with refs:=r }) p
   omega
 · simp only at hy
   rcases List.mem_or_eq_of_mem_set hy with hy | rfl
   · exact h.page y hy k hk
   · exact h.page _ (List.getElem_mem hi) k hk
theorem Rel.erase {A:Sn}{ps:List Pg}(h:Rel A ps){i:Nat}{x:Pic}(hx:A.pics[i]?=some x):Rel { A with pics:=A.pics.eraseIdx i } (subU ps x 4):=by
 obtain⟨hi,rfl⟩:=List.getElem?_eq_some_iff.1 hx
 refine⟨by rw[subU_len];exact h.len,λp q hq=>?_,λy hy k hk=>?_⟩
 · rw[getElem?_subU]at hq
   obtain⟨q0,h1,rfl⟩:=Option.map_eq_some_iff.1 hq
   have:=h.refs p q0 h1
   have h2:=cnt_erase hi p
   simp only[this,h2]
   show _-cntP A.pics[i] p=_
   omega
 · obtain⟨q,h1,h2⟩:=h.page y (List.mem_of_mem_eraseIdx hy) k hk
   exact⟨⟨q.g,q.refs-cntU A.pics[i] (y.p k) 4⟩,by rw[getElem?_subU,h1];rfl,h2⟩
theorem alone {A:Sn}{i:Nat}{x:Pic}(hx:A.pics[i]?=some x){k:Nat}(hk:k<4)(h1:cnt A.pics (x.p k)≤1){j:Nat}{y:Pic}(hy:A.pics[j]?=some y){k':Nat}(hk':k'<4)(he:y.p k'=x.p k):j=i∧k'=k:=by
 obtain⟨hi,rfl⟩:=List.getElem?_eq_some_iff.1 hx
 have h2:=cnt_erase hi (A.pics[i].p k)
 have h3:=cntP_pos (x:=A.pics[i]) hk
 have hji:j=i:=by
   rcases Nat.lt_trichotomy j i with hl | hl | hl
   · have hm : y ∈ A.pics.eraseIdx i := by
       rw[List.mem_eraseIdx_iff_getElem?];exact⟨j,by omega,hy⟩
     have h4:=cnt_mem hm (A.pics[i].p k)
     rw[← he]at h4 h2 h3 h1
     have:=cntP_pos (x:=y) hk'
     omega
   · exact hl
   · have hm : y ∈ A.pics.eraseIdx i := by
       rw[List.mem_eraseIdx_iff_getElem?];exact⟨j,by omega,hy⟩
     have h4:=cnt_mem hm (A.pics[i].p k)
     rw[← he]at h4 h2 h3 h1
     have:=cntP_pos (x:=y) hk'
     omega
 refine⟨hji,?_⟩
 subst hji
 rw[List.getElem?_eq_getElem hi]at hy
 cases hy
 by_cases hkk:k'=k
 · exact hkk
 · have:=cntP_two hk hk' (Ne.symm hkk) he.symm
   omega
theorem Rel.put {A:Sn}{ps:List Pg}(h:Rel A ps){i:Nat}{x:Pic}(hx:A.pics[i]?=some x){c:Nat}(hc:c<32)(h1:cnt A.pics (x.p (c/8))=1)(v:Int)(hl:x.p (c/8)<ps.length) :
   Rel (A.put i x c v) (ps.set (x.p (c/8)) ⟨λj=>if j=c%8 then v else ps[x.p (c/8)].g j,1⟩):=by
 have hi:=(List.getElem?_eq_some_iff.1 hx).1
 have hxe:=(List.getElem?_eq_some_iff.1 hx).2
 have hk:c/8<4:=by omega
 have hcnt:∀ p,cnt (A.put i x c v).pics p=cnt A.pics p:=λp=>by
   have:=cnt_set hi { x with g:=upd x.g c v } p
   have h2:cntP { x with g:=upd x.g c v } p=cntP A.pics[i] p:=by rw[hxe];exact cntP_congr (λ_ _=>rfl) p
   simp only[Sn.put];omega
 refine⟨by rw[List.length_set];exact h.len,λp q hq=>?_,λy hy k hk'=>?_⟩
 · rw[hcnt]
   rw[List.getElem?_set]at hq
   by_cases hp:x.p (c/8)=p
   · subst hp
     rw[if_pos rfl,if_pos hl]at hq
     cases hq
     exact h1.symm
   · rw[if_neg hp]at hq
     exact h.refs p q hq
 · simp only[Sn.put]at hy
   obtain⟨j,hj⟩:=List.mem_iff_getElem?.1 hy
   rw[List.getElem?_set]at hj
   by_cases hij:i=j
   · rw[if_pos hij,if_pos hi]at hj
     cases hj
     obtain⟨q,h2,h3⟩:=h.page x (List.mem_of_getElem? hx) k hk'
     by_cases hkc:k=c/8
     · subst hkc
       refine⟨⟨λj=>if j=c%8 then v else ps[x.p (c/8)].g j,1⟩,by simp[hl],λm hm=>?_⟩
       rw[List.getElem?_eq_getElem hl]at h2
       cases h2
       simp only[upd]
       by_cases hm2:m=c%8
       · rw[if_pos hm2,if_pos (by omega)]
       · rw[if_neg hm2,if_neg (by omega)];exact h3 m hm
     · have hne:x.p (c/8)≠x.p k:=λe=>hkc (alone hx hk (by omega) hx hk' e.symm).2
       refine⟨q,by simp only;rw[List.getElem?_set_ne hne];exact h2,λm hm=>?_⟩
       simp only[upd]
       rw[if_neg (by omega)];exact h3 m hm
   · rw[if_neg hij]at hj
     obtain⟨q,h2,h3⟩:=h.page y (List.mem_of_getElem? hj) k hk'
     have hne:x.p (c/8)≠y.p k:=λe=>hij (alone hx hk (by omega) hj hk' e.symm).1.symm
     exact⟨q,by rw[List.getElem?_set_ne hne];exact h2,h3⟩
theorem Rel.putOwn {A:Sn}{ps:List Pg}(h:Rel A ps){i:Nat}{x:Pic}(hx:A.pics[i]?=some x){c f:Nat}(hc:c<32)(h1:1<cnt A.pics (x.p (c/8)))(v:Int)(hl:x.p (c/8)<ps.length)(hf:f<ps.length)(h0:ps[f].refs=0) :
   Rel (A.putOwn i x c v f) ((ps.set (x.p (c/8)) ⟨ps[x.p (c/8)].g,ps[x.p (c/8)].refs-1⟩).set f ⟨λj=>if j=c%8 then v else ps[x.p (c/8)].g j,1⟩):=by
 have hi:=(List.getElem?_eq_some_iff.1 hx).1
 have hxe:=(List.getElem?_eq_some_iff.1 hx).2
 have hk:c/8<4:=by omega
 have hfc:cnt A.pics f=0:=by rw[← h.refs f _ (List.getElem?_eq_getElem hf)];exact h0
 have hunused:∀ y∈A.pics,∀ k,k<4→y.p k≠f:=λy hy k hk' e=>by
   have h2:=cnt_mem hy f
   rw[← e]at h2 hfc
   have:=cntP_pos (x:=y) hk'
   omega
 have hxm:=List.mem_of_getElem? hx
 have hpf:x.p (c/8)≠f:=hunused x hxm _ hk
 have hcp:∀ p,cntP { x with g:=upd x.g c v,p:=λj=>if j=c/8 then f else x.p j } p+(if x.p (c/8)=p then 1 else 0)=cntP x p+(if f=p then 1 else 0):=λp=>by
   rw[cntP_eq,cntP_eq]
   simp only
   rcases (by omega:c/8=0∨c/8=1∨c/8=2∨c/8=3) with e | e | e | e <;> rw[e] <;> simp <;> omega
 refine⟨by rw[List.length_set,List.length_set];exact h.len,λp q hq=>?_,λy hy k hk'=>?_⟩
 · have h2:=cnt_set hi { x with g:=upd x.g c v,p:=λj=>if j=c/8 then f else x.p j } p
   have h3:=hcp p
   rw[hxe]at h2
   simp only[Sn.putOwn]
   by_cases hp:f=p
   · subst hp
     rw[List.getElem?_set_self (by rw[List.length_set];exact hf)]at hq
     cases hq
     rw[if_pos rfl,if_neg hpf]at h3
     simp only;omega
   · rw[List.getElem?_set_ne hp]at hq
     rw[if_neg hp]at h3
     by_cases hp2:x.p (c/8)=p
     · subst hp2
       rw[List.getElem?_set_self hl]at hq
       cases hq
       rw[if_pos rfl]at h3
       have h4:=h.refs _ _ (List.getElem?_eq_getElem hl)
       simp only;omega
     · rw[List.getElem?_set_ne hp2]at hq
       rw[if_neg hp2]at h3
       have h4:=h.refs _ _ hq
       omega
 · simp only[Sn.putOwn]at hy
   obtain⟨j,hj⟩:=List.mem_iff_getElem?.1 hy
   rw[List.getElem?_set]at hj
   have hkeep:∀ y:Pic,(∃ q,ps[y.p k]?=some q∧∀ j,j<8→q.g j=y.g (8*k+j))→y.p k≠f→∃ q,((ps.set (x.p (c/8)) ⟨ps[x.p (c/8)].g,ps[x.p (c/8)].refs-1⟩).set f ⟨λj=>if j=c%8 then v else ps[x.p (c/8)].g j,1⟩)[y.p k]?=some q∧∀ j,j<8→q.g j=y.g (8*k+j):=by
     rintro y ⟨q,h2,h3⟩ hn
     by_cases hp:x.p (c/8)=y.p k
     · rw[← hp]at h2 ⊢
       rw[List.getElem?_eq_getElem hl]at h2
       cases h2
       refine⟨⟨ps[x.p (c/8)].g,ps[x.p (c/8)].refs-1⟩,?_,h3⟩
       rw[List.getElem?_set_ne (Ne.symm hpf),List.getElem?_set_self hl]
     · exact⟨q,by rw[List.getElem?_set_ne (Ne.symm hn),List.getElem?_set_ne hp];exact h2,h3⟩
   by_cases hij:i=j
   · rw[if_pos hij,if_pos hi]at hj
     cases hj
     obtain⟨q,h2,h3⟩:=h.page x hxm k hk'
     by_cases hkc:k=c/8
     · subst hkc
       refine⟨⟨λj=>if j=c%8 then v else ps[x.p (c/8)].g j,1⟩,by simp only[if_true];rw[List.getElem?_set_self (by rw[List.length_set];exact hf)],λm hm=>?_⟩
       rw[List.getElem?_eq_getElem hl]at h2
       cases h2
       simp only[upd]
       by_cases hm2:m=c%8
       · rw[if_pos hm2,if_pos (by omega)]
       · rw[if_neg hm2,if_neg (by omega)];exact h3 m hm
     · obtain⟨q',h4,h5⟩:=hkeep x ⟨q,h2,h3⟩ (hunused x hxm k hk')
       refine⟨q',by simp only[if_neg hkc];exact h4,λm hm=>?_⟩
       simp only[upd]
       rw[if_neg (by omega)];exact h5 m hm
   · rw[if_neg hij]at hj
     exact hkeep y (h.page y (List.mem_of_getElem? hj) k hk') (hunused y (List.mem_of_getElem? hj) k hk')
end
end Go.Proofs.YtdilfdkendjjhaaGreat
